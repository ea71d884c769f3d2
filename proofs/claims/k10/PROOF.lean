import PyProof.Rows.All
import Wide.All
import OpenK.AllK
import Wide.FinOn
import HandS.ForMost
import HandS.TupAny
import HandS.TupMul
import HandS.Style
import HandS.Flow
import HandS.Zip
import HandS.IsInst
import HandS.NoneIn
import HandS.SetKeys
import HandS.DictComp
import HandS.TupLen
import HandS.Conv
import HandS.WordsExc
import HandS.Defaults
import HandS.Head0
import HandS.Head1
import HandS.Head2
import HandS.HeadEnd
import HandS.HeadHook1
import HandS.HeadHook2
import HandS.HeadHook3
import KE.DataEq
import KE.DataCmp
import KE.DataMinMax
import KE.DataMinKey
import KE.SortData
import KE.SortKeyHeap
import KE.KDictKeyed
import KE.KDictWalk
import KE.DataFind
import KE.DatumIndex
import KE.KStateDown
import KE.GoesEnum
import Lean
import PySem.Challenge.RW_undomacros_k10_whole_unknown_rows_by_num
set_option Elab.async false
set_option linter.all false
set_option maxRecDepth 100000
namespace Dn
open PySem PySem.Spec PyProof.Rows L2

/-! ### values as trees -/
inductive D where
  | non | bl (b : Bool) | int (i : Int) | str (x : Str) | tup (xs : List D) | ref (a : Addr) | fn (x : Str) | kls (xs : List D)

namespace D
mutual
def beq : D → D → Bool
  | .non, .non => true
  | .bl a, .bl b => decide (a = b)
  | .int a, .int b => decide (a = b)
  | .str a, .str b => decide (a = b)
  | .tup a, .tup b => beqs a b
  | .ref a, .ref b => decide (a = b)
  | .fn a, .fn b => decide (a = b)
  | .kls a, .kls b => beqs a b
  | _, _ => false
def beqs : List D → List D → Bool
  | [], [] => true
  | a :: as, b :: bs => beq a b && beqs as bs
  | _, _ => false
end
mutual
theorem beq_self : ∀ a : D, beq a a = true
  | .non => rfl
  | .bl a => by simp [beq]
  | .int a => by simp [beq]
  | .str a => by simp [beq]
  | .tup a => by rw [beq]; exact beqs_self a
  | .ref a => by simp [beq]
  | .fn a => by simp [beq]
  | .kls a => by rw [beq]; exact beqs_self a
theorem beqs_self : ∀ a : List D, beqs a a = true
  | [] => rfl
  | a :: as => by rw [beqs, beq_self a, beqs_self as]; rfl
end
mutual
theorem eq_of_beq : ∀ a b : D, beq a b = true → a = b
  | .non, b, h => by cases b <;> simp_all [beq]
  | .bl a, b, h => by cases b <;> simp_all [beq]
  | .int a, b, h => by cases b <;> simp_all [beq]
  | .str a, b, h => by cases b <;> simp_all [beq]
  | .tup a, .tup b, h => by rw [beq] at h; rw [eq_of_beqs a b h]
  | .tup a, .non, h => by simp [beq] at h
  | .tup a, .bl _, h => by simp [beq] at h
  | .tup a, .int _, h => by simp [beq] at h
  | .tup a, .str _, h => by simp [beq] at h
  | .tup a, .ref _, h => by simp [beq] at h
  | .tup a, .fn _, h => by simp [beq] at h
  | .tup a, .kls _, h => by simp [beq] at h
  | .kls a, .kls b, h => by rw [beq] at h; rw [eq_of_beqs a b h]
  | .kls a, .non, h => by simp [beq] at h
  | .kls a, .bl _, h => by simp [beq] at h
  | .kls a, .int _, h => by simp [beq] at h
  | .kls a, .str _, h => by simp [beq] at h
  | .kls a, .ref _, h => by simp [beq] at h
  | .kls a, .fn _, h => by simp [beq] at h
  | .kls a, .tup _, h => by simp [beq] at h
  | .ref a, b, h => by cases b <;> simp_all [beq]
  | .fn a, b, h => by cases b <;> simp_all [beq]
theorem eq_of_beqs : ∀ a b : List D, beqs a b = true → a = b
  | [], [], _ => rfl
  | a :: as, b :: bs, h => by
    rw [beqs, Bool.and_eq_true] at h
    rw [eq_of_beq a b h.1, eq_of_beqs as bs h.2]
  | [], _ :: _, h => by simp [beqs] at h
  | _ :: _, [], h => by simp [beqs] at h
end
instance : DecidableEq D := fun a b => if h : beq a b = true then Decidable.isTrue (eq_of_beq a b h) else Decidable.isFalse fun e => h (e ▸ beq_self a)
end D

/-- what stands at an address -/
inductive MO where
  | lst (xs : List D)
  | rol (xs : List D)
  | dK (kvs : List (Key × D))
  | dN (kvs : List (D × D))
  | ins (C : Str) (fs : List (Str × D))
mutual
/-- the keys of nested tuples -/
def kOf : D → Option NestedKey
  | .non => some .none
  | .int i => some (.num i)
  | .str x => some (.text x)
  | .tup ds => (kOfs ds).map .tup
  | _ => none
def kOfs : List D → Option (List NestedKey)
  | [] => some []
  | d :: ds => match kOf d, kOfs ds with
    | some k, some ks => some (k :: ks)
    | _, _ => none
end
mutual
theorem kOf_inj : ∀ (a b : D) (k : NestedKey), kOf a = some k → kOf b = some k → a = b
  | .non, b, k, h, g => by
    simp only [kOf, Option.some.injEq] at h; subst h
    cases b <;> simp_all [kOf]
  | .int i, b, k, h, g => by
    simp only [kOf, Option.some.injEq] at h; subst h
    cases b <;> simp_all [kOf]
  | .str i, b, k, h, g => by
    simp only [kOf, Option.some.injEq] at h; subst h
    cases b <;> simp_all [kOf]
  | .tup ds, b, k, h, g => by
    simp only [kOf, Option.map_eq_some_iff] at h
    obtain ⟨ks, h, rfl⟩ := h
    cases b with
    | tup es =>
      simp only [kOf, Option.map_eq_some_iff] at g
      obtain ⟨js, g, e⟩ := g
      cases e
      rw [kOfs_inj ds es ks h g]
    | _ => simp [kOf] at g
  | .bl _, _, _, h, _ => by simp [kOf] at h
  | .ref _, _, _, h, _ => by simp [kOf] at h
  | .fn _, _, _, h, _ => by simp [kOf] at h
  | .kls _, _, _, h, _ => by simp [kOf] at h
theorem kOfs_inj : ∀ (a b : List D) (k : List NestedKey), kOfs a = some k → kOfs b = some k → a = b
  | [], [], _, _, _ => rfl
  | [], e :: es, k, h, g => by
    simp only [kOfs, Option.some.injEq] at h; subst h
    unfold kOfs at g; split at g <;> simp at g
  | d :: ds, [], k, h, g => by
    simp only [kOfs, Option.some.injEq] at g; subst g
    unfold kOfs at h; split at h <;> simp at h
  | d :: ds, e :: es, k, h, g => by
    unfold kOfs at h g
    split at h
    · split at g
      · rename_i e1 e2 _ _ _ _ e3 e4
        simp only [Option.some.injEq] at h g
        subst h
        cases g
        rw [kOf_inj d e _ e1 e3, kOfs_inj ds es _ e2 e4]
      · cases g
    · cases h
end
abbrev MH := Addr → Option MO
def up (M : MH) (a : Addr) (o : MO) : MH := fun b => if b = a then some o else M b
theorem up_same {M : MH} {a : Addr} {o : MO} : up M a o a = some o := by unfold up; rw [if_pos rfl]
theorem up_ne {M : MH} {a b : Addr} {o : MO} (h : b ≠ a) : up M a o b = M b := by unfold up; rw [if_neg h]
abbrev Ev := List (Option D)

/-- a list that nobody changes -/
def SqC (K : PySem.W.Frag) (H : Hp) (a : Addr) (xs : List V) : Prop := (∃ o, H a = some (.frz o (.lst xs))) ∨
  ∃ o its n, List.lookup a K = some o ∧ o.cls = .type "list" ∧ o.dict = none ∧ o.data = .seq its n ∧ its.size ≤ sizeLine ∧ Vals xs its.toList
theorem SqC.sq {K : PySem.W.Frag} {H : Hp} {a : Addr} {xs : List V} (h : SqC K H a xs) : SqL K H a xs := by
  rcases h with ⟨o, h⟩ | h
  · exact .inl (.inr ⟨o, h⟩)
  · exact .inr h
section
variable (K : PySem.W.Frag) (mg : Str → Option Value) (H : Hp)
mutual
/-- v stands for d -/
def IsD : D → V → Prop
  | .non, v => v = .non
  | .bl b, v => v = .bl b
  | .int i, v => v = .int i
  | .str x, v => v = .str x
  | .tup ds, v => ∃ a xs, v = .ref a ∧ SqT K H a xs ∧ IsDs ds xs
  | .ref a, v => v = .ref a
  | .fn x, v => ∃ f, v = .ref f ∧ mg x = some (.ref f)
  | .kls ds, v => ∃ a xs, v = .ref a ∧ SqC K H a xs ∧ IsDs ds xs
def IsDs : List D → List V → Prop
  | [], vs => vs = []
  | d :: ds, vs => ∃ v r, vs = v :: r ∧ IsD d v ∧ IsDs ds r
end
end
/-- the tuples stay -/
def TLe (K : PySem.W.Frag) (H H' : Hp) : Prop := ∀ a xs, (SqT K H a xs → SqT K H' a xs) ∧ (SqC K H a xs → SqC K H' a xs)
theorem TLe.refl {K : PySem.W.Frag} {H : Hp} : TLe K H H := fun _ _ => ⟨fun h => h, fun h => h⟩
theorem TLe.trans {K : PySem.W.Frag} {H H1 H2 : Hp} (a : TLe K H H1) (b : TLe K H1 H2) : TLe K H H2 := fun x xs => ⟨fun h => (b x xs).1 ((a x xs).1 h), fun h => (b x xs).2 ((a x xs).2 h)⟩
section
variable {K : PySem.W.Frag} {mg : Str → Option Value} {H H' : Hp}
mutual
theorem IsD.le (t : TLe K H H') : ∀ (d : D) (v : V), IsD K mg H d v → IsD K mg H' d v
  | .non, _, h => h
  | .bl _, _, h => h
  | .int _, _, h => h
  | .str _, _, h => h
  | .tup ds, v, h => by
    rw [IsD] at h ⊢
    obtain ⟨a, xs, e, s, r⟩ := h
    exact ⟨a, xs, e, (t a xs).1 s, IsDs.le t ds xs r⟩
  | .ref _, _, h => h
  | .fn _, _, h => h
  | .kls ds, v, h => by
    rw [IsD] at h ⊢
    obtain ⟨a, xs, e, s, r⟩ := h
    exact ⟨a, xs, e, (t a xs).2 s, IsDs.le t ds xs r⟩
theorem IsDs.le (t : TLe K H H') : ∀ (ds : List D) (vs : List V), IsDs K mg H ds vs → IsDs K mg H' ds vs
  | [], _, h => h
  | d :: ds, vs, h => by
    rw [IsDs] at h ⊢
    obtain ⟨v, r, e, h1, h2⟩ := h
    exact ⟨v, r, e, IsD.le t d v h1, IsDs.le t ds r h2⟩
end
theorem IsDs.nil : IsDs K mg H [] [] := rfl
theorem IsDs.cons {d : D} {ds : List D} {v : V} {vs : List V} (h : IsD K mg H d v) (t : IsDs K mg H ds vs) : IsDs K mg H (d :: ds) (v :: vs) := by
  rw [IsDs]; exact ⟨v, vs, rfl, h, t⟩
theorem IsDs.uncons {d : D} {ds : List D} {vs : List V} (h : IsDs K mg H (d :: ds) vs) : ∃ v r, vs = v :: r ∧ IsD K mg H d v ∧ IsDs K mg H ds r := by
  rw [IsDs] at h; exact h
theorem IsDs.eqnil {vs : List V} (h : IsDs K mg H [] vs) : vs = [] := h
theorem IsDs.length : ∀ {ds : List D} {vs : List V}, IsDs K mg H ds vs → vs.length = ds.length
  | [], _, h => by rw [h.eqnil]; rfl
  | d :: ds, vs, h => by
    obtain ⟨v, r, rfl, _, t⟩ := h.uncons
    rw [List.length_cons, List.length_cons, t.length]
theorem IsDs.get : ∀ {ds : List D} {vs : List V} {i : Nat} {d : D}, IsDs K mg H ds vs → ds[i]? = some d → ∃ v, vs[i]? = some v ∧ IsD K mg H d v
  | [], _, _, _, _, e => by simp at e
  | d :: ds, vs, i, x, h, e => by
    obtain ⟨v, r, rfl, h1, t⟩ := h.uncons
    cases i with
    | zero => simp at e; subst e; exact ⟨v, rfl, h1⟩
    | succ i =>
      obtain ⟨u, h2, h3⟩ := IsDs.get (i := i) (d := x) t (by simpa using e)
      exact ⟨u, by simpa using h2, h3⟩
theorem IsDs.at : ∀ {ds : List D} {vs : List V} {i : Nat} {v : V}, IsDs K mg H ds vs → vs[i]? = some v → ∃ d, ds[i]? = some d ∧ IsD K mg H d v := fun {ds vs i v} h e => by
  have hl := h.length
  have hi : i < ds.length := by
    have := (List.getElem?_eq_some_iff.mp e).1
    omega
  obtain ⟨u, h1, h2⟩ := h.get (i := i) (d := ds[i]) (by simp [hi])
  rw [e] at h1; cases h1
  exact ⟨ds[i], by simp [hi], h2⟩
theorem IsDs.append : ∀ {ds es : List D} {vs us : List V}, IsDs K mg H ds vs → IsDs K mg H es us → IsDs K mg H (ds ++ es) (vs ++ us)
  | [], _, _, _, h, t => by rw [h.eqnil]; exact t
  | d :: ds, es, vs, us, h, t => by
    obtain ⟨v, r, rfl, h1, h2⟩ := h.uncons
    exact .cons h1 (IsDs.append h2 t)
theorem IsDs.take : ∀ {ds : List D} {vs : List V} (n : Nat), IsDs K mg H ds vs → IsDs K mg H (ds.take n) (vs.take n)
  | _, _, 0, _ => by simp only [List.take_zero]; exact .nil
  | [], _, _ + 1, h => by rw [h.eqnil]; simp only [List.take_nil]; exact .nil
  | d :: ds, vs, n + 1, h => by
    obtain ⟨v, r, rfl, h1, h2⟩ := h.uncons
    simp only [List.take_succ_cons]
    exact .cons h1 (IsDs.take n h2)
theorem IsDs.drop : ∀ {ds : List D} {vs : List V} (n : Nat), IsDs K mg H ds vs → IsDs K mg H (ds.drop n) (vs.drop n)
  | _, _, 0, h => by simpa using h
  | [], _, _ + 1, h => by rw [h.eqnil]; simp only [List.drop_nil]; exact .nil
  | d :: ds, vs, n + 1, h => by
    obtain ⟨v, r, rfl, h1, h2⟩ := h.uncons
    simp only [List.drop_succ_cons]
    exact IsDs.drop n h2
theorem IsDs.reverse : ∀ {ds : List D} {vs : List V}, IsDs K mg H ds vs → IsDs K mg H ds.reverse vs.reverse
  | [], _, h => by rw [h.eqnil]; exact .nil
  | d :: ds, vs, h => by
    obtain ⟨v, r, rfl, h1, h2⟩ := h.uncons
    rw [List.reverse_cons, List.reverse_cons]
    exact (IsDs.reverse h2).append (.cons h1 .nil)
theorem IsDs.set {d : D} {v : V} (r : IsD K mg H d v) : ∀ {ds : List D} {vs : List V} (i : Nat), IsDs K mg H ds vs → IsDs K mg H (ds.set i d) (vs.set i v)
  | [], _, _, h => by rw [h.eqnil]; exact .nil
  | e :: ds, vs, i, h => by
    obtain ⟨u, s, rfl, h1, h2⟩ := h.uncons
    cases i with
    | zero => exact .cons r h2
    | succ i => exact .cons h1 (IsDs.set r i h2)
theorem IsDs.of_ints : ∀ ns : List Int, IsDs K mg H (ns.map D.int) (ns.map V.int)
  | [] => .nil
  | n :: ns => .cons rfl (IsDs.of_ints ns)
end
end Dn

set_option Elab.async false
set_option linter.all false
set_option maxRecDepth 100000
namespace Dn
open PySem PySem.Spec L2
open PyProof.Rows hiding St
variable {P : Program} {Wd : World}

/-- what stands at a in the abstract heap -/
def DctO (P : Program) (Wd : World) (K : PySem.W.Frag) (mg : Str → Option Value) (H : Hp) (a : Addr) (o : Obj) (kvs : List (D × D)) : Prop :=
  kvs.length ≤ sizeLine ∧ (a == sysModules) = false ∧ o.ExactDict ∧ ∃ es ep, o.data = .dict es ep ∧ ∃ xs : List (NestedKey × Addr × Value), es.toList = xs.map (entryOfKey (nestedKind P Wd)) ∧ (xs.map (·.1)).Nodup ∧
    Paired (fun (p : D × D) (q : NestedKey × Addr × Value) => kOf p.1 = some q.1 ∧ q.1.depth ≤ 8 ∧ IsD K mg H p.1 (.ref q.2.1) ∧ ∃ v, IsD K mg H p.2 v ∧ RelV v q.2.2) kvs xs
def KvK (K : PySem.W.Frag) (mg : Str → Option Value) (H : Hp) (kvs : List (Key × D)) (vs : List (Key × V)) : Prop := Paired (fun (p : Key × D) (q : Key × V) => p.1 = q.1 ∧ IsD K mg H p.2 q.2) kvs vs
def Fs (K : PySem.W.Frag) (mg : Str → Option Value) (H : Hp) : List (Str × D) → List (Str × V) → Prop
  | [], vs => vs = []
  | (x, d) :: r, vs => ∃ v t, vs = (x, v) :: t ∧ IsD K mg H d v ∧ Fs K mg H r t
def MObj (P : Program) (Wd : World) (K : PySem.W.Frag) (mg : Str → Option Value) (H : Hp) (a : Addr) : MO → Prop
  | .lst ds => ∃ xs, H a = some (.lst xs) ∧ IsDs K mg H ds xs
  | .rol ds => ∃ o xs, H a = some (.frz o (.lst xs)) ∧ IsDs K mg H ds xs
  | .dK kvs => ∃ vs, H a = some (.dK vs) ∧ KvK K mg H kvs vs
  | .dN kvs => ∃ o, H a = some (.ext fun h => h.get? a = some o) ∧ DctO P Wd K mg H a o kvs
  | .ins C fs => ∃ Ca dx vs, mg C = some (.ref Ca) ∧ H a = some (.ins Ca dx vs) ∧ Fs K mg H fs vs
def Rel (P : Program) (Wd : World) (K : PySem.W.Frag) (mg : Str → Option Value) (H : Hp) (M : MH) : Prop := ∀ a o, M a = some o → MObj P Wd K mg H a o
def RelS (K : PySem.W.Frag) (mg : Str → Option Value) (H : Hp) (env : Ev) (σ : St) : Prop :=
  env.length = σ.length ∧ ∀ (i : Nat) (d : D), env[i]? = some (some d) → ∃ v, σ[i]? = some (some v) ∧ IsD K mg H d v

section
variable {K : PySem.W.Frag} {mg : Str → Option Value} {H H' : Hp} {M : MH} {env : Ev} {σ : St} {a : Addr}
theorem DctO.le {o : Obj} {kvs : List (D × D)} (t : TLe K H H') (h : DctO P Wd K mg H a o kvs) : DctO P Wd K mg H' a o kvs := by
  obtain ⟨h1, h2, h3, es, ep, h4, xs, h5, h6, h7⟩ := h
  exact ⟨h1, h2, h3, es, ep, h4, xs, h5, h6, L2.Paired.mapP h7 fun p q ⟨e1, e2, e3, v, e4, e5⟩ => ⟨e1, e2, e3.le t _ _, v, e4.le t _ _, e5⟩⟩
theorem KvK.le {kvs : List (Key × D)} {vs : List (Key × V)} (t : TLe K H H') (h : KvK K mg H kvs vs) : KvK K mg H' kvs vs := L2.Paired.mapP h fun p q ⟨e1, e2⟩ => ⟨e1, e2.le t _ _⟩
theorem Fs.le (t : TLe K H H') : ∀ {fs : List (Str × D)} {vs : List (Str × V)}, Fs K mg H fs vs → Fs K mg H' fs vs
  | [], _, h => h
  | (x, d) :: r, vs, h => by
    obtain ⟨v, s, e, h1, h2⟩ := h
    exact ⟨v, s, e, IsD.le t d v h1, Fs.le t h2⟩
theorem MObj.le (t : TLe K H H') (e : H' a = H a) : ∀ {o : MO}, MObj P Wd K mg H a o → MObj P Wd K mg H' a o
  | .lst ds, ⟨xs, h1, h2⟩ => ⟨xs, by rw [e]; exact h1, h2.le t _ _⟩
  | .rol ds, ⟨o, xs, h1, h2⟩ => ⟨o, xs, by rw [e]; exact h1, h2.le t _ _⟩
  | .dK kvs, ⟨vs, h1, h2⟩ => ⟨vs, by rw [e]; exact h1, h2.le t⟩
  | .dN kvs, ⟨o, h1, h2⟩ => ⟨o, by rw [e]; exact h1, h2.le t⟩
  | .ins C fs, ⟨Ca, dx, vs, h0, h1, h2⟩ => ⟨Ca, dx, vs, h0, by rw [e]; exact h1, h2.le t⟩
theorem MObj.some : ∀ {o : MO}, MObj P Wd K mg H a o → ∃ u, H a = some u
  | .lst ds, ⟨xs, h1, _⟩ => ⟨_, h1⟩
  | .rol ds, ⟨o, xs, h1, _⟩ => ⟨_, h1⟩
  | .dK kvs, ⟨vs, h1, _⟩ => ⟨_, h1⟩
  | .dN kvs, ⟨o, h1, _⟩ => ⟨_, h1⟩
  | .ins C fs, ⟨Ca, dx, vs, h0, h1, _⟩ => ⟨_, h1⟩
theorem rel_none (R : Rel P Wd K mg H M) (h : H a = none) : M a = none := by
  cases e : M a with
  | none => rfl
  | some o =>
    obtain ⟨u, q⟩ := (R a o e).some
    rw [h] at q; cases q
/-- an object that is no tuple may be changed -/
def NoTup : Option HO → Prop
  | some (.tup _) => False
  | some (.frz _ _) => False
  | _ => True
theorem tle_upd {o : HO} (h : NoTup (H a)) : TLe K H (upd H a o) := by
  intro b xs
  refine ⟨fun hb => ?_, fun hb => ?_⟩
  · rcases hb with hb | hb
    · refine .inl ?_
      have ne : b ≠ a := by
        rintro rfl
        rcases hb with hb | ⟨u, hb⟩ <;> rw [hb] at h <;> exact h
      rcases hb with hb | ⟨u, hb⟩
      · exact .inl (by rw [upd_ne ne]; exact hb)
      · exact .inr ⟨u, by rw [upd_ne ne]; exact hb⟩
    · exact .inr hb
  · rcases hb with ⟨u, hb⟩ | hb
    · have ne : b ≠ a := by
        rintro rfl
        rw [hb] at h
        exact h
      exact .inl ⟨u, by rw [upd_ne ne]; exact hb⟩
    · exact .inr hb
theorem nt_none (h : H a = none) : NoTup (H a) := by rw [h]; trivial
theorem rel_upd {o : HO} {m : MO} (R : Rel P Wd K mg H M) (h : NoTup (H a)) (n : MObj P Wd K mg (upd H a o) a m) : Rel P Wd K mg (upd H a o) (up M a m) := by
  intro b u e
  by_cases hb : b = a
  · subst hb
    rw [up_same] at e; cases e
    exact n
  · rw [up_ne hb] at e
    exact (R b u e).le (tle_upd h) (upd_ne hb)
/-- a new object that the small heap does not tell of -/
theorem rel_new {o : HO} (R : Rel P Wd K mg H M) (h : H a = none) : Rel P Wd K mg (upd H a o) M := by
  intro b u e
  have hb : b ≠ a := by
    rintro rfl
    rw [rel_none R h] at e; cases e
  exact (R b u e).le (tle_upd (nt_none h)) (upd_ne hb)
theorem RelS.le (t : TLe K H H') (r : RelS K mg H env σ) : RelS K mg H' env σ := ⟨r.1, fun i d e => by
  obtain ⟨v, h1, h2⟩ := r.2 i d e
  exact ⟨v, h1, h2.le t _ _⟩⟩
theorem RelS.set (r : RelS K mg H env σ) {d : D} {v : V} (h : IsD K mg H d v) (i : Nat) : RelS K mg H (env.set i (some d)) (σ.set i (some v)) := by
  refine ⟨by simp [r.1], fun j e q => ?_⟩
  by_cases hj : i = j
  · subst hj
    by_cases hi : i < env.length
    · rw [List.getElem?_set_self hi] at q
      cases q
      exact ⟨v, List.getElem?_set_self (by rw [← r.1]; exact hi), h⟩
    · rw [List.getElem?_eq_none (by simpa using hi)] at q; cases q
  · rw [List.getElem?_set_ne hj] at q ⊢
    exact r.2 j e q
theorem RelS.unset (r : RelS K mg H env σ) (i : Nat) : RelS K mg H (env.set i none) σ := by
  refine ⟨by simp [r.1], fun j e q => ?_⟩
  by_cases hj : i = j
  · subst hj
    by_cases hi : i < env.length
    · rw [List.getElem?_set_self hi] at q; cases q
    · rw [List.getElem?_eq_none (by simpa using hi)] at q; cases q
  · rw [List.getElem?_set_ne hj] at q
    exact r.2 j e q
end
/-- slots forgotten -/
def wp (env : Ev) : List Nat → Ev
  | [] => env
  | v :: vs => (wp env vs).set v none
theorem wp_len (env : Ev) : ∀ vs : List Nat, (wp env vs).length = env.length
  | [] => rfl
  | v :: vs => by unfold wp; rw [List.length_set, wp_len env vs]
theorem relS_wp {K : PySem.W.Frag} {mg : Str → Option Value} {H : Hp} {env : Ev} {σ : St} (r : RelS K mg H env σ) : ∀ vs : List Nat, RelS K mg H (wp env vs) (wipe σ vs)
  | [] => r
  | v :: vs => by
    have ih := relS_wp r vs
    unfold Dn.wp wipe
    refine ⟨by simp [ih.1], fun j e q => ?_⟩
    by_cases hj : v = j
    · subst hj
      by_cases hi : v < (Dn.wp env vs).length
      · rw [List.getElem?_set_self hi] at q; cases q
      · rw [List.getElem?_eq_none (by simpa using hi)] at q; cases q
    · rw [List.getElem?_set_ne hj] at q ⊢
      exact ih.2 j e q

/-! ### readings over trees, and over V -/
abbrev TD := Ev → MH → (D → MH → Prop) → Prop
abbrev TDs := Ev → MH → (List D → MH → Prop) → Prop
abbrev TDT := Ev → MH → (Bool → MH → Prop) → Prop
structure En where
  nx : Ev → MH → Prop
  rt : D → MH → Prop
  bk : Ev → MH → Prop := fun _ _ => False
  ct : Ev → MH → Prop := fun _ _ => False
abbrev TDS := En → Ev → MH → Prop
section
variable (P : Program) (Wd : World) (K : PySem.W.Frag) (mg : Str → Option Value)
def lf (t : TD) : TE := fun σ H Q => ∃ env M Q0, Rel P Wd K mg H M ∧ RelS K mg H env σ ∧ t env M Q0 ∧
  ∀ d M' v H', Q0 d M' → TLe K H H' → Rel P Wd K mg H' M' → IsD K mg H' d v → Q v H'
def lfA (t : TDs) : TA := fun σ H Q => ∃ env M Q0, Rel P Wd K mg H M ∧ RelS K mg H env σ ∧ t env M Q0 ∧
  ∀ ds M' vs H', Q0 ds M' → TLe K H H' → Rel P Wd K mg H' M' → IsDs K mg H' ds vs → Q vs H'
def lfT (t : TDT) : TT := fun σ H Q => ∃ env M Q0, Rel P Wd K mg H M ∧ RelS K mg H env σ ∧ t env M Q0 ∧
  ∀ b M' H', Q0 b M' → TLe K H H' → Rel P Wd K mg H' M' → Q b H'
def lfS (t : TDS) : TS := fun E σ H => ∃ env M E0, Rel P Wd K mg H M ∧ RelS K mg H env σ ∧ t E0 env M ∧
  (∀ env' M' σ' H', E0.nx env' M' → TLe K H H' → Rel P Wd K mg H' M' → RelS K mg H' env' σ' → E.nx σ' H') ∧
  (∀ d M' v H', E0.rt d M' → TLe K H H' → Rel P Wd K mg H' M' → IsD K mg H' d v → E.rt v H') ∧
  (∀ env' M' σ' H', E0.bk env' M' → TLe K H H' → Rel P Wd K mg H' M' → RelS K mg H' env' σ' → E.bk σ' H') ∧
  (∀ env' M' σ' H', E0.ct env' M' → TLe K H H' → Rel P Wd K mg H' M' → RelS K mg H' env' σ' → E.ct σ' H')
end
section
variable {X : Cx} {e : Expr} {es : List Expr} {st : Stmt} {sts : List Stmt}
theorem PE.imp {t t' : TE} (h : PE X e t) (w : ∀ σ H Q, t' σ H Q → t σ H Q) : PE X e t' := ⟨fun pins s σ H Q I q => h.run pins s σ H Q I (w σ H Q q)⟩
theorem PT.imp {t t' : TT} (h : PT X e t) (w : ∀ σ H Q, t' σ H Q → t σ H Q) : PT X e t' := ⟨fun pins s σ H Q I q => h.run pins s σ H Q I (w σ H Q q)⟩
theorem PW.imp {t t' : TT} (h : PW X e t) (w : ∀ σ H Q, t' σ H Q → t σ H Q) : PW X e t' := ⟨fun wh pins s σ H Q I q => h.run wh pins s σ H Q I (w σ H Q q)⟩
theorem PA.imp {t t' : TA} (h : PA X es t) (w : ∀ σ H Q, t' σ H Q → t σ H Q) : PA X es t' := ⟨fun pos pins s σ H Q I q => h.run pos pins s σ H Q I (w σ H Q q)⟩
theorem PS.imp {t t' : TS} (h : PS X st t) (w : ∀ E σ H, t' E σ H → t E σ H) : PS X st t' := ⟨fun pins s σ H E I q => h.run pins s σ H E I (w E σ H q)⟩
theorem PSs.imp {t t' : TS} (h : PSs X sts t) (w : ∀ E σ H, t' E σ H → t E σ H) : PSs X sts t' := ⟨fun pins s σ H E I q => h.run pins s σ H E I (w E σ H q)⟩
abbrev DE (X : Cx) (e : Expr) (t : TD) : Prop := PE X e (lf X.prog X.w X.K X.mg t)
abbrev DA (X : Cx) (es : List Expr) (t : TDs) : Prop := PA X es (lfA X.prog X.w X.K X.mg t)
abbrev DT (X : Cx) (e : Expr) (t : TDT) : Prop := PT X e (lfT X.prog X.w X.K X.mg t)
abbrev DW (X : Cx) (e : Expr) (t : TDT) : Prop := PW X e (lfT X.prog X.w X.K X.mg t)
abbrev DS (X : Cx) (st : Stmt) (t : TDS) : Prop := PS X st (lfS X.prog X.w X.K X.mg t)
abbrev DSs (X : Cx) (sts : List Stmt) (t : TDS) : Prop := PSs X sts (lfS X.prog X.w X.K X.mg t)
end
section
variable {K : PySem.W.Frag} {mg : Str → Option Value} {σ : St} {H : Hp}
/-- one reading behind another -/
theorem lf_bind {t : TD} {env : Ev} {M : MH} {Q0 : D → MH → Prop} {Q : VK} (R : Rel P Wd K mg H M) (S : RelS K mg H env σ) (h : t env M Q0)
    (k : ∀ d M' v H', Q0 d M' → TLe K H H' → Rel P Wd K mg H' M' → RelS K mg H' env σ → IsD K mg H' d v → Q v H') : lf P Wd K mg t σ H Q :=
  ⟨env, M, Q0, R, S, h, fun d M' v H' q l R' r => k d M' v H' q l R' (S.le l) r⟩
theorem lfA_bind {t : TDs} {env : Ev} {M : MH} {Q0 : List D → MH → Prop} {Q : List V → Hp → Prop} (R : Rel P Wd K mg H M) (S : RelS K mg H env σ) (h : t env M Q0)
    (k : ∀ d M' v H', Q0 d M' → TLe K H H' → Rel P Wd K mg H' M' → RelS K mg H' env σ → IsDs K mg H' d v → Q v H') : lfA P Wd K mg t σ H Q :=
  ⟨env, M, Q0, R, S, h, fun d M' v H' q l R' r => k d M' v H' q l R' (S.le l) r⟩
theorem lfT_bind {t : TDT} {env : Ev} {M : MH} {Q0 : Bool → MH → Prop} {Q : Bool → Hp → Prop} (R : Rel P Wd K mg H M) (S : RelS K mg H env σ) (h : t env M Q0)
    (k : ∀ b M' H', Q0 b M' → TLe K H H' → Rel P Wd K mg H' M' → RelS K mg H' env σ → Q b H') : lfT P Wd K mg t σ H Q :=
  ⟨env, M, Q0, R, S, h, fun d M' H' q l R' => k d M' H' q l R' (S.le l)⟩
end

/-! ### names, constants -/
def dVar (i : Nat) : TD := fun env M Q => match env[i]? with
  | some (some d) => Q d M
  | _ => False
def dC (d : D) : TD := fun _ M Q => Q d M
section
variable {X : Cx} {pos : Pos}
theorem de_var {i : Nat} {x : Str} (hN : X.N[i]? = some x) (hv : Vis X.env.scope x) (hd : (x == ("__debug__" : Str)) = false) (hcd : (x == ("__classdict__" : Str)) = false) : DE X (.Name x pos) (dVar i) := by
  refine PE.imp (pe_var hN hv hd hcd) fun σ H Q h => ?_
  obtain ⟨env, M, Q0, R, S, h, k⟩ := h
  unfold dVar at h
  split at h
  · rename_i d e
    obtain ⟨v, h1, h2⟩ := S.2 i d e
    exact ⟨v, h1, k d M v H h .refl R h2⟩
  · exact h.elim
/-- a value that needs no heap -/
theorem de_con {e : Expr} {d : D} {v : V} (h : PE X e (tC v)) (hd : ∀ H, IsD X.K X.mg H d v) : DE X e (dC d) := by
  refine PE.imp h fun σ H Q h => ?_
  obtain ⟨env, M, Q0, R, S, h, k⟩ := h
  exact k d M v H h .refl R (hd H)
theorem de_int {i : Int} {j} : DE X (.Constant (.int i) j pos) (dC (.int i)) := de_con pe_int fun _ => rfl
theorem de_bl {b : Bool} {j} : DE X (.Constant (.bool b) j pos) (dC (.bl b)) := de_con pe_bl fun _ => rfl
theorem de_non {j} : DE X (.Constant .none j pos) (dC .non) := de_con pe_non fun _ => rfl
theorem de_str {x : Str} {j} : DE X (.Constant (.str x) j pos) (dC (.str x)) := de_con pe_str fun _ => rfl

/-! ### argument lists, displays -/
def dNil : TDs := fun _ M Q => Q [] M
def dCons (t : TD) (u : TDs) : TDs := fun env M Q => t env M fun d M1 => u env M1 fun ds M2 => Q (d :: ds) M2
theorem da_nil : DA X [] dNil := by
  refine PA.imp pa_nil fun σ H Q h => ?_
  obtain ⟨env, M, Q0, R, S, h, k⟩ := h
  exact k [] M [] H h .refl R .nil
theorem da_cons {e : Expr} {es : List Expr} {t : TD} {u : TDs} (he : DE X e t) (hes : DA X es u) (hs : starEach (e :: es) X.env = (false, eval e X.env) :: starEach es X.env) : DA X (e :: es) (dCons t u) := by
  refine PA.imp (pa_cons he hes hs) fun σ H Q h => ?_
  obtain ⟨env, M, Q0, R, S, h, k⟩ := h
  refine lf_bind R S h fun d M1 v H1 q l R1 S1 r => ?_
  exact lfA_bind R1 S1 q fun ds M2 vs H2 q2 l2 R2 S2 r2 => k (d :: ds) M2 (v :: vs) H2 q2 (l.trans l2) R2 (.cons (r.le l2 _ _) r2)
/-- the longest list, tuple, text -/
abbrev LN : Nat := 16777216
theorem ln_eq : sizeLine = LN := sizeLine_eq
def dTup (t : TDs) : TD := fun env M Q => t env M fun ds M1 => ds.length ≤ LN ∧ Q (.tup ds) M1
def dLst (t : TDs) : TD := fun env M Q => t env M fun ds M1 => ds.length ≤ LN ∧ ∀ p, M1 p = none → Q (.ref p) (up M1 p (.lst ds))
theorem isD_tup {K : PySem.W.Frag} {mg : Str → Option Value} {H : Hp} {p : Addr} {xs : List V} {ds : List D} (h : SqT K H p xs) (r : IsDs K mg H ds xs) : IsD K mg H (.tup ds) (.ref p) := by
  rw [IsD]; exact ⟨p, xs, rfl, h, r⟩
theorem de_tup {es : List Expr} {k : Nat} {t : TDs} (h : DA X es t) : DE X (.Tuple es k pos) (dTup t) := by
  refine PE.imp (pe_tup h) fun σ H Q h => ?_
  obtain ⟨env, M, Q0, R, S, h, k⟩ := h
  refine lfA_bind R S h fun ds M1 vs H1 q l R1 S1 r => ⟨by rw [ln_eq, r.length]; exact q.1, fun p hp => ?_⟩
  have t1 : TLe X.K H1 (upd H1 p (.tup vs)) := tle_upd (nt_none hp)
  exact k (.tup ds) M1 (.ref p) _ q.2 (l.trans t1) (rel_new R1 hp) (isD_tup (.inl (.inl upd_same)) (r.le t1 _ _))
theorem de_lst {es : List Expr} {t : TDs} (h : DA X es t) : DE X (.List es pos) (dLst t) := by
  refine PE.imp (pe_lst h) fun σ H Q h => ?_
  obtain ⟨env, M, Q0, R, S, h, k⟩ := h
  refine lfA_bind R S h fun ds M1 vs H1 q l R1 S1 r => ⟨by rw [ln_eq, r.length]; exact q.1, fun p hp => ?_⟩
  have t1 : TLe X.K H1 (upd H1 p (.lst vs)) := tle_upd (nt_none hp)
  exact k (.ref p) _ (.ref p) _ (q.2 p (rel_none R1 hp)) (l.trans t1) (rel_upd R1 (nt_none hp) ⟨vs, upd_same, r.le t1 _ _⟩) rfl

/-! ### operations on two values -/
abbrev OD := D → D → MH → (D → MH → Prop) → Prop
def dOp (f : OD) (a b : TD) : TD := fun env M Q => a env M fun x M1 => b env M1 fun y M2 => f x y M2 Q
/-- f tells what r does -/
def Sim (P : Program) (Wd : World) (K : PySem.W.Frag) (mg : Str → Option Value) (f : OD) (r : R2) : Prop :=
  ∀ (x y : D) (M : MH) (Q0 : D → MH → Prop) (H : Hp) (v w : V) (Q : VK), Rel P Wd K mg H M → IsD K mg H x v → IsD K mg H y w → f x y M Q0 →
    (∀ d M' u H', Q0 d M' → TLe K H H' → Rel P Wd K mg H' M' → IsD K mg H' d u → Q u H') → r v w H Q
theorem op_sim {K : PySem.W.Frag} {mg : Str → Option Value} {f : OD} {r : R2} {ta tb : TD} (s : Sim P Wd K mg f r) (σ : St) (H : Hp) (Q : VK) (h : lf P Wd K mg (dOp f ta tb) σ H Q) : tOp r (lf P Wd K mg ta) (lf P Wd K mg tb) σ H Q := by
  obtain ⟨env, M, Q0, R, S, h, k⟩ := h
  refine lf_bind R S h fun x M1 v H1 q l R1 S1 r1 => ?_
  refine lf_bind R1 S1 q fun y M2 w H2 q2 l2 R2 S2 r2 => ?_
  exact s x y M2 Q0 H2 v w Q R2 (r1.le l2 _ _) r2 q2 fun d M' u H' q3 l3 R3 r3 => k d M' u H' q3 ((l.trans l2).trans l3) R3 r3
theorem de_bin {a b : Expr} {op : Operator} {f : OD} {r : R2} {ta tb : TD} (ho : OpR X (binaryOp op) r) (s : Sim X.prog X.w X.K X.mg f r) (ha : DE X a ta) (hb : DE X b tb) : DE X (.BinOp a op b pos) (dOp f ta tb) :=
  PE.imp (pe_op ho ha hb) (op_sim s)
theorem de_cmp {a b : Expr} {op : CmpOp} {f : OD} {r : R2} {ta tb : TD} (ho : OpR X (compareOp op) r) (s : Sim X.prog X.w X.K X.mg f r) (ha : DE X a ta) (hb : DE X b tb) (hm : behindInMarks op b = false) : DE X (.Compare a [op] [b] pos) (dOp f ta tb) :=
  PE.imp (pe_cmpR ho ha hb hm) (op_sim s)
end
end Dn

set_option Elab.async false
set_option linter.all false
set_option maxRecDepth 100000
namespace Dn
open PySem PySem.Spec L2
open PyProof.Rows hiding St
variable {P : Program} {Wd : World}

/-! ### data: what a value reads as -/
mutual
inductive PyV (K : PySem.W.Frag) (H : Hp) : V → PyData → Prop
  | non : PyV K H .non .none
  | bl (b) : PyV K H (.bl b) (.bool b)
  | int (i) : PyV K H (.int i) (.int i)
  | str (x) : PyV K H (.str x) (.str x)
  | lst {a xs ps} : SqL K H a xs → PyVs K H xs ps → PyV K H (.ref a) (.list ps)
  | tup {a xs ps} : SqT K H a xs → PyVs K H xs ps → PyV K H (.ref a) (.tuple ps)
inductive PyVs (K : PySem.W.Frag) (H : Hp) : List V → List PyData → Prop
  | nil : PyVs K H [] []
  | cons {v vs p ps} : PyV K H v p → PyVs K H vs ps → PyVs K H (v :: vs) (p :: ps)
end
section
variable {X : Cx} {pins : List (Addr × Obj)} {σ : St} {H : Hp} {s : Shared}
mutual
theorem PyV.reads (I : Inv X pins σ H s) : ∀ (p : PyData) (v : V) (u : Value), PyV X.K H v p → RelV v u → ∃ as, Reads s.heap u p as
  | .none, _, u, h, r => by cases h; cases r; exact ⟨_, .none⟩
  | .bool b, _, u, h, r => by cases h; cases r; exact ⟨_, .bool _⟩
  | .int i, _, u, h, r => by cases h; obtain ⟨t, rfl⟩ := r; exact ⟨_, .int _ _⟩
  | .str x, _, u, h, r => by cases h; obtain ⟨t, rfl⟩ := r; exact ⟨_, .str _ _⟩
  | .list ps, v, u, h, r => by
    cases h with
    | lst h1 h2 =>
      cases r
      obtain ⟨its, rv, ⟨o, n, e, c, d, dt⟩, _⟩ := I.list h1
      obtain ⟨as, q⟩ := PyVs.reads I ps _ its h2 rv
      exact ⟨_, .list e c dt (by simpa using q)⟩
  | .tuple ps, v, u, h, r => by
    cases h with
    | tup h1 h2 =>
      cases r
      obtain ⟨its, rv, ⟨o, e, c, n, dt⟩, _⟩ := I.tuple h1
      obtain ⟨as, q⟩ := PyVs.reads I ps _ its h2 rv
      exact ⟨_, .tuple e c dt (by simpa using q)⟩
  | .dict _, _, _, h, _ => by cases h
theorem PyVs.reads (I : Inv X pins σ H s) : ∀ (ps : List PyData) (vs : List V) (us : List Value), PyVs X.K H vs ps → Vals vs us → ∃ as, ReadsAll s.heap us ps as
  | [], _, us, h, r => by cases h; cases r; exact ⟨_, .nil⟩
  | p :: ps, _, us, h, r => by
    cases h with
    | cons h1 h2 =>
      cases r with
      | cons r1 r2 =>
        obtain ⟨as, q1⟩ := PyV.reads I p _ _ h1 r1
        obtain ⟨bs, q2⟩ := PyVs.reads I ps _ _ h2 r2
        exact ⟨_, .cons q1 q2⟩
end
mutual
theorem PyV.plain {K : PySem.W.Frag} : ∀ (p : PyData) (v : V), PyV K H v p → p.plain = true
  | .none, _, _ => rfl
  | .bool b, _, _ => rfl
  | .int i, _, _ => rfl
  | .str x, _, _ => rfl
  | .list ps, v, h => by
    cases h with
    | lst h1 h2 => rw [PyData.plain]; exact PyVs.plain ps _ h2
  | .tuple ps, v, h => by
    cases h with
    | tup h1 h2 => rw [PyData.plain]; exact PyVs.plain ps _ h2
  | .dict _, _, h => by cases h
theorem PyVs.plain {K : PySem.W.Frag} : ∀ (ps : List PyData) (vs : List V), PyVs K H vs ps → PyData.plainAll ps = true
  | [], _, _ => rfl
  | p :: ps, _, h => by
    cases h with
    | cons h1 h2 => rw [PyData.plainAll, PyV.plain p _ h1, PyVs.plain ps _ h2]; rfl
end
theorem PyVs.length {K : PySem.W.Frag} : ∀ {ps : List PyData} {vs : List V}, PyVs K H vs ps → vs.length = ps.length
  | [], _, h => by cases h; rfl
  | p :: ps, _, h => by
    cases h with
    | cons h1 h2 => rw [List.length_cons, List.length_cons, h2.length]
end

/-! ### what a tree reads as -/
def rdL (M : MH) (a : Addr) : Option (List D) := match M a with
  | some (.lst xs) => some xs
  | some (.rol xs) => some xs
  | _ => none
def pys (f : D → Option PyData) : List D → Option (List PyData)
  | [] => some []
  | d :: r => match f d, pys f r with
    | some p, some ps => some (p :: ps)
    | _, _ => none
def py (M : MH) : Nat → D → Option PyData
  | 0, _ => none
  | _ + 1, .non => some .none
  | _ + 1, .bl b => some (.bool b)
  | _ + 1, .int i => some (.int i)
  | _ + 1, .str x => some (.str x)
  | n + 1, .tup ds => (pys (py M n) ds).map .tuple
  | n + 1, .ref a => match rdL M a with
    | some xs => (pys (py M n) xs).map .list
    | none => none
  | _ + 1, .fn _ => none
  | _ + 1, .kls _ => none
section
variable {K : PySem.W.Frag} {mg : Str → Option Value} {H : Hp} {M : MH}
theorem rdL_sq (R : Rel P Wd K mg H M) {a : Addr} {ds : List D} (h : rdL M a = some ds) : ∃ xs, SqL K H a xs ∧ IsDs K mg H ds xs := by
  unfold rdL at h
  split at h
  · rename_i xs e
    cases h
    obtain ⟨vs, h1, h2⟩ := R a _ e
    exact ⟨vs, .inl (.inl h1), h2⟩
  · rename_i xs e
    cases h
    obtain ⟨o, vs, h1, h2⟩ := R a _ e
    exact ⟨vs, .inl (.inr ⟨o, h1⟩), h2⟩
  · cases h
theorem pys_v {f : D → Option PyData} (hf : ∀ d v p, f d = some p → IsD K mg H d v → PyV K H v p) : ∀ (ds : List D) (vs : List V) (ps : List PyData), pys f ds = some ps → IsDs K mg H ds vs → PyVs K H vs ps
  | [], vs, ps, h, r => by
    rw [r.eqnil]
    simp only [pys, Option.some.injEq] at h
    subst h
    exact .nil
  | d :: ds, vs, ps, h, r => by
    obtain ⟨v, t, rfl, h1, h2⟩ := r.uncons
    unfold pys at h
    split at h
    · rename_i p ps' e1 e2
      cases h
      exact .cons (hf d v p e1 h1) (pys_v hf ds t ps' e2 h2)
    · cases h
theorem py_v (R : Rel P Wd K mg H M) : ∀ (n : Nat) (d : D) (v : V) (p : PyData), py M n d = some p → IsD K mg H d v → PyV K H v p
  | 0, _, _, _, h, _ => by simp [py] at h
  | n + 1, .non, v, p, h, r => by
    simp only [py, Option.some.injEq] at h; subst h
    rw [show v = .non from r]; exact .non
  | n + 1, .bl b, v, p, h, r => by
    simp only [py, Option.some.injEq] at h; subst h
    rw [show v = .bl b from r]; exact .bl b
  | n + 1, .int b, v, p, h, r => by
    simp only [py, Option.some.injEq] at h; subst h
    rw [show v = .int b from r]; exact .int b
  | n + 1, .str b, v, p, h, r => by
    simp only [py, Option.some.injEq] at h; subst h
    rw [show v = .str b from r]; exact .str b
  | n + 1, .tup ds, v, p, h, r => by
    rw [IsD] at r
    obtain ⟨a, xs, rfl, h1, h2⟩ := r
    simp only [py, Option.map_eq_some_iff] at h
    obtain ⟨ps, e, rfl⟩ := h
    exact .tup h1 (pys_v (py_v R n) ds xs ps e h2)
  | n + 1, .ref a, v, p, h, r => by
    rw [show v = .ref a from r]
    simp only [py] at h
    split at h
    · rename_i xs e
      simp only [Option.map_eq_some_iff] at h
      obtain ⟨ps, e2, rfl⟩ := h
      obtain ⟨vs, h1, h2⟩ := rdL_sq R e
      exact .lst h1 (pys_v (py_v R n) xs vs ps e2 h2)
    · cases h
  | n + 1, .fn _, v, p, h, _ => by simp [py] at h
  | n + 1, .kls _, v, p, h, _ => by simp [py] at h
end
theorem pys_depth' {f : D → Option PyData} {n : Nat} (hf : ∀ d p, f d = some p → p.depth ≤ n) : ∀ (ds : List D) (ps : List PyData), pys f ds = some ps → PyData.depthAll ps ≤ n
  | [], ps, h => by
    simp only [pys, Option.some.injEq] at h
    subst h
    simp [PyData.depthAll]
  | d :: ds, ps, h => by
    unfold pys at h
    split at h
    · rename_i p ps' e1 e2
      cases h
      have h1 := hf d p e1
      have h2 := pys_depth' hf ds ps' e2
      rw [PyData.depthAll]
      omega
    · cases h
theorem py_depth {M : MH} : ∀ {n : Nat} {d : D} {p : PyData}, py M n d = some p → p.depth ≤ n
  | 0, _, _, h => by simp [py] at h
  | n + 1, .non, p, h => by simp only [py, Option.some.injEq] at h; subst h; simp [PyData.depth]
  | n + 1, .bl b, p, h => by simp only [py, Option.some.injEq] at h; subst h; simp [PyData.depth]
  | n + 1, .int b, p, h => by simp only [py, Option.some.injEq] at h; subst h; simp [PyData.depth]
  | n + 1, .str b, p, h => by simp only [py, Option.some.injEq] at h; subst h; simp [PyData.depth]
  | n + 1, .tup ds, p, h => by
    simp only [py, Option.map_eq_some_iff] at h
    obtain ⟨ps, e, rfl⟩ := h
    have := pys_depth' (n := n) (fun d p h => py_depth h) ds ps e
    rw [PyData.depth]
    omega
  | n + 1, .ref a, p, h => by
    simp only [py] at h
    split at h
    · rename_i xs e
      simp only [Option.map_eq_some_iff] at h
      obtain ⟨ps, e2, rfl⟩ := h
      have := pys_depth' (n := n) (fun d p h => py_depth h) xs ps e2
      rw [PyData.depth]
      omega
    · cases h
  | n + 1, .fn _, p, h => by simp [py] at h
  | n + 1, .kls _, p, h => by simp [py] at h
end Dn

set_option Elab.async false
set_option linter.all false
set_option maxRecDepth 100000
set_option maxHeartbeats 4000000
namespace Dn
open PySem PySem.Spec L2
open PyProof.Rows hiding St
variable {P : Program} {Wd : World}

/-! ### tuple * int, any int -/
theorem tmul_any (l : Addr) (items : Array Value) (n : Nat) (sl : Array (Option Value)) (dd : Option Addr) (x : Int) (u : Tok) (h0 : ¬ (x < -(2 ^ 63) ∨ 2 ^ 63 ≤ x)) (hz : (items.size : Int) * x ≤ 16777216) :
    Meets (Builtin.«tuple.__mul__» ⟨[.ref l, .int x u], []⟩) (fun _ R s => s.heap.get? l = some { cls := .type "tuple", dict := dd, data := .seq items n, slots := sl } ∧
      ((items.isEmpty || x == 1) = true → R (.ok (.ret (Value.ref l))) s) ∧
      ((items.isEmpty || x == 1) = false → ∀ its : List Value, its.toArray = (List.replicate x.toNat items).foldl (fun a b => a ++ b) #[] →
        R (.ok (.ret (Value.ref s.heap.objs.size))) { s with heap := s.heap.push { cls := Value.type "tuple", data := Data.seq its.toArray }, toks := s.toks })) :=
  .of_wp fun prog w A R s ⟨hl, hs, hn⟩ => by
    obtain ⟨hp, g, d, tk, os⟩ := s
    have f1 := AutoSeq1.idx_int
    have c0 : ¬ ((decide (x < -(2 ^ 63)) || decide (x ≥ 2 ^ 63)) = true) := by
      rw [Bool.or_eq_true, decide_eq_true_eq, decide_eq_true_eq]; exact h0
    wp_walk using wpAny_loadPart' hl
    refine wpAny_ite_false (decide_eq_false c0) ?_
    wp_walk using wpAny_loadPart' hl
    by_cases c1 : (items.isEmpty || x == 1) = true
    · rw [if_pos c1]
      wp_walk using wpAny_loadPart' hl
      exact ⟨_, rfl, hs c1⟩
    · have c1' : (items.isEmpty || x == 1) = false := by simpa using c1
      rw [if_neg c1]
      by_cases c2 : (decide (x ≤ 0) || items.isEmpty) = true
      · rw [if_pos c2]
        have hx : x ≤ 0 := by
          rw [Bool.or_eq_false_iff] at c1'
          rw [c1'.1, Bool.or_false, decide_eq_true_eq] at c2
          exact c2
        have ht : x.toNat = 0 := by omega
        wp_walk using wpAny_loadPart' hl
        exact ⟨_, rfl, hn c1' [] (by rw [ht]; rfl)⟩
      · rw [if_neg c2]
        have e4 : Builtin.Tuple.tupleTooMany (((items.size : Nat) : Int) * x) = false := by
          unfold Builtin.Tuple.tupleTooMany
          rw [sizeLine_eq]
          exact decide_eq_false (by omega)
        have hsz : ((List.replicate x.toNat items).foldl (fun a b => a ++ b) #[]).size ≤ sizeLine := by
          have e := size_rep items.toList x.toNat
          have e' : items.toList.toArray = items := by simp
          rw [e'] at e
          rw [e, List.size_toArray, PyProof.Rows.lm_len_rep_flat, sizeLine_eq, Array.length_toList]
          have hx : 0 < x := by
            rw [Bool.or_eq_true, not_or, decide_eq_true_eq] at c2
            omega
          have a1 : ((x.toNat * items.size : Nat) : Int) = (items.size : Int) * x := by
            rw [Nat.mul_comm]
            push_cast
            rw [show ((x.toNat : Nat) : Int) = x by omega]
          omega
        refine wpAny_ite_false (decide_eq_false (by omega)) ?_
        wp_walk using wpAny_loadPart' hl
        have := hn c1' ((List.replicate x.toNat items).foldl (fun a b => a ++ b) #[]).toList (by simp)
        exact ⟨_, rfl, by simpa using this⟩
def rMulT (K : PySem.W.Frag) : R2 := fun x y H Q => ∃ l k xs, x = .ref l ∧ y = .int k ∧ SqT K H l xs ∧ -(2 ^ 63) ≤ k ∧ k < 2 ^ 63 ∧ xs.length * k.toNat ≤ sizeLine ∧
  ((xs = [] ∨ k = 1) → Q (.ref l) H) ∧ (¬ (xs = [] ∨ k = 1) → ∀ p, H p = none → Q (.ref p) (upd H p (.tup (List.replicate k.toNat xs).flatten)))
theorem op_mulT {X : Cx} : OpR X (binaryOp .Mult) (rMulT X.K) := by
  intro pins s σ H x y v u Q I rx ry h
  obtain ⟨l, k, xs, rfl, rfl, hT, h1, h2, hz, q1, q2⟩ := h
  cases rx
  obtain ⟨t, rfl⟩ := ry
  obtain ⟨its, r, ⟨⟨cls, dd, data, sl⟩, ho, hc, n, hd⟩, hs⟩ := I.tuple hT
  simp only at hc hd
  subst hc hd
  have hle : its.length = xs.length := r.length.symm
  have hzs : (its.toArray.size : Int) * k ≤ 16777216 := by
    rw [List.size_toArray, hle]
    rw [sizeLine_eq] at hz
    by_cases hk : 0 ≤ k
    · have e : ((xs.length * k.toNat : Nat) : Int) = (xs.length : Int) * k := by
        push_cast
        rw [show ((k.toNat : Nat) : Int) = k by omega]
      omega
    · have e : (xs.length : Int) * k ≤ 0 := Int.mul_nonpos_of_nonneg_of_nonpos (by omega) (by omega)
      omega
  have emp : (its.toArray.isEmpty || k == 1) = true ↔ (xs = [] ∨ k = 1) := by
    rw [Bool.or_eq_true, beq_iff_eq]
    have : its.toArray.isEmpty = true ↔ xs = [] := by
      cases its with
      | nil => cases r; simp
      | cons a b => cases r; simp
    rw [this]
  refine wpAny_binaryOp_repeat_ref (T := "tuple") (U := "int") (by decide) ⟨_, ho, rfl⟩ (fun s' => typeIs_int s' k t) noFill_tuple_mul F.fills_int_mul F.slot_int_rmul repeat_tuple F.slot_int_index.lookup
    (call_meets F.slot_int_rmul (typeIs_int s k t) F.entry_int_rmul (F.args_int_rmul_2 _ _) (int_rmul_tuple k t l its.toArray n dd sl)
      ⟨ho, rfl, ⟨_, ho, rfl⟩, call_meets F.slot_tuple_mul ⟨_, ho, rfl⟩ F.entry_tuple_mul (F.args_tuple_mul_2 _ _) (tmul_any l its.toArray n sl dd k t (by omega) hzs) ⟨ho, fun e => ?_, fun e its2 e2 => ?_⟩⟩)
  · exact ⟨.ref l, H, I, rfl, q1 (emp.mp e)⟩
  · have hne : ¬ (xs = [] ∨ k = 1) := fun z => by rw [emp.mpr z] at e; cases e
    rw [size_rep] at e2
    have e3 : its2 = (List.replicate k.toNat its).flatten := by simpa using congrArg Array.toList e2
    subst e3
    refine ⟨.ref s.heap.objs.size, _, I.laid (t' := s.toks) (o := .tup (List.replicate k.toNat xs).flatten) (fun b ob q => Heap.get?_push_of_some _ q) (Nat.le_refl _) ?_, rfl, q2 hne _ (I.hok.fresh (Nat.le_refl _))⟩
    exact ⟨by rw [PyProof.Rows.lm_len_rep_flat, Nat.mul_comm]; exact hz, _, r.rep k.toNat, IsTup.new _ _⟩

/-! ### == -/
def rEqP (K : PySem.W.Frag) : R2 := fun v w H Q => ∃ a b, PyV K H v a ∧ PyV K H w b ∧ a.depth ≤ 40 ∧ Q (.bl (PyData.eqv a b)) H
def rNeP (K : PySem.W.Frag) : R2 := fun v w H Q => ∃ a b, PyV K H v a ∧ PyV K H w b ∧ a.depth ≤ 40 ∧ Q (.bl (!PyData.eqv a b)) H
theorem op_eqP {X : Cx} (hu : X.A.units + 64 < cLine) : OpR X (compareOp .Eq) (rEqP X.K) := by
  intro pins s σ H x y v u Q I rx ry h
  obtain ⟨a, b, ha, hb, hd, q⟩ := h
  obtain ⟨as, ra⟩ := ha.reads I _ _ _ rx
  obtain ⟨bs, rb⟩ := hb.reads I _ _ _ ry
  exact SeqAt.eq_plain ra rb (ha.plain _ _) (hb.plain _ _) (by omega) ⟨.bl _, H, I, rfl, q⟩
theorem op_neP {X : Cx} (hu : X.A.units + 64 < cLine) : OpR X (compareOp .NotEq) (rNeP X.K) := by
  intro pins s σ H x y v u Q I rx ry h
  obtain ⟨a, b, ha, hb, hd, q⟩ := h
  obtain ⟨as, ra⟩ := ha.reads I _ _ _ rx
  obtain ⟨bs, rb⟩ := hb.reads I _ _ _ ry
  exact SeqAt.ne_plain ra rb (ha.plain _ _) (hb.plain _ _) (by omega) ⟨.bl _, H, I, rfl, q⟩
/-- in, not in: of lists and tuples -/
def rInP (K : PySem.W.Frag) (neg : Bool) : R2 := fun v w H Q => ∃ a bs p, PyV K H v a ∧ a.depth ≤ 40 ∧ w = .ref p ∧ (PyV K H w (.list bs) ∨ PyV K H w (.tuple bs)) ∧
  Q (.bl (if neg then !(bs.any fun y => PyData.eqv y a) else bs.any fun y => PyData.eqv y a)) H
theorem op_inP {X : Cx} (hu : X.A.units + 64 < cLine) : OpR X (compareOp .In) (rInP X.K false) := by
  intro pins s σ H x y v u Q I rx ry h
  obtain ⟨a, bs, p, ha, hd, rfl, hb, q⟩ := h
  obtain ⟨as, ra⟩ := ha.reads I _ _ _ rx
  have fin : EP X pins σ Q (.bool (bs.any fun y => PyData.eqv y a)) s := ⟨.bl _, H, I, rfl, q⟩
  rcases hb with hb | hb
  · obtain ⟨cs, rb⟩ := hb.reads I _ _ _ ry
    have := hb.plain _ _
    rw [PyData.plain] at this
    exact SeqAt.in_list_data rb ra this (ha.plain _ _) (by omega) fin
  · obtain ⟨cs, rb⟩ := hb.reads I _ _ _ ry
    have := hb.plain _ _
    rw [PyData.plain] at this
    exact SeqAt.in_tuple_data rb ra this (ha.plain _ _) (by omega) fin
theorem op_notInP {X : Cx} (hu : X.A.units + 64 < cLine) : OpR X (compareOp .NotIn) (rInP X.K true) := by
  intro pins s σ H x y v u Q I rx ry h
  obtain ⟨a, bs, p, ha, hd, rfl, hb, q⟩ := h
  obtain ⟨as, ra⟩ := ha.reads I _ _ _ rx
  have fin : EP X pins σ Q (.bool (!(bs.any fun y => PyData.eqv y a))) s := ⟨.bl _, H, I, rfl, q⟩
  rcases hb with hb | hb
  · obtain ⟨cs, rb⟩ := hb.reads I _ _ _ ry
    have := hb.plain _ _
    rw [PyData.plain] at this
    exact SeqAt.notIn_list_data rb ra this (ha.plain _ _) (by omega) fin
  · obtain ⟨cs, rb⟩ := hb.reads I _ _ _ ry
    have := hb.plain _ _
    rw [PyData.plain] at this
    exact SeqAt.notIn_tuple_data rb ra this (ha.plain _ _) (by omega) fin

/-! ### what the operators do to trees -/
def dAdd : OD := fun x y M Q => match x, y with
  | .int i, .int j => Q (.int (i + j)) M
  | .str a, .str b => a.length + b.length ≤ LN ∧ Q (.str (a ++ b)) M
  | .tup a, .tup b => a.length + b.length ≤ LN ∧ Q (.tup (a ++ b)) M
  | .ref p, .ref q => match M p, M q with
    | some (.lst a), some (.lst b) => a.length + b.length ≤ LN ∧ ∀ r, M r = none → Q (.ref r) (up M r (.lst (a ++ b)))
    | _, _ => False
  | _, _ => False
def dSub : OD := fun x y M Q => match x, y with
  | .int i, .int j => Q (.int (i - j)) M
  | _, _ => False
def MulOk (i j : Int) : Prop := i.natAbs < 2 ^ 64 ∨ j.natAbs < 2 ^ 64
def dMul : OD := fun x y M Q => match x, y with
  | .int i, .int j => MulOk i j ∧ Q (.int (i * j)) M
  | .tup a, .int k => k < 2 ^ 62 ∧ -(2 ^ 62) < k ∧ a.length * k.toNat ≤ LN ∧ Q (.tup (List.replicate k.toNat a).flatten) M
  | .ref p, .int k => match M p with
    | some (.lst a) => k < 2 ^ 62 ∧ -(2 ^ 62) < k ∧ a.length * k.toNat ≤ LN ∧ ∀ r, M r = none → Q (.ref r) (up M r (.lst (List.replicate k.toNat a).flatten))
    | _ => False
  | _, _ => False
def dFdiv : OD := fun x y M Q => match x, y with
  | .int i, .int j => (j ≠ 0 ∧ j.natAbs < 1073741824) ∧ Q (.int (i.fdiv j)) M
  | _, _ => False
def dMod : OD := fun x y M Q => match x, y with
  | .int i, .int j => j ≠ 0 ∧ Q (.int (i.fmod j)) M
  | _, _ => False
def dPow : OD := fun x y M Q => match x, y with
  | .int i, .int j => (0 ≤ j ∧ j ≤ 1000000 ∧ i.natAbs < 2 ^ 64) ∧ Q (.int (i ^ j.toNat)) M
  | _, _ => False
def dXor : OD := fun x y M Q => match x, y with
  | .int i, .int j => Q (.int (Builtin.bitXor i j)) M
  | _, _ => False
def dEq : OD := fun x y M Q => match py M 12 x, py M 12 y with
  | some a, some b => Q (.bl (PyData.eqv a b)) M
  | _, _ => False
def dNe : OD := fun x y M Q => match py M 12 x, py M 12 y with
  | some a, some b => Q (.bl (!PyData.eqv a b)) M
  | _, _ => False

section
variable {K : PySem.W.Frag} {mg : Str → Option Value}
theorem isD_tupE {H : Hp} {ds : List D} {v : V} (h : IsD K mg H (.tup ds) v) : ∃ a xs, v = .ref a ∧ SqT K H a xs ∧ IsDs K mg H ds xs := by
  rw [IsD] at h; exact h
theorem isDs_rep {H : Hp} {ds : List D} {vs : List V} (h : IsDs K mg H ds vs) : ∀ n : Nat, IsDs K mg H (List.replicate n ds).flatten (List.replicate n vs).flatten
  | 0 => .nil
  | n + 1 => by
    rw [List.replicate_succ, List.replicate_succ, List.flatten_cons, List.flatten_cons]
    exact h.append (isDs_rep h n)
theorem sim_add : Sim P Wd K mg dAdd (fun x y H Q => ((rI0 fun i j => .int (i + j)) x y H Q ∨ (∃ i j, x = .str i ∧ y = .str j ∧ i.length + j.length ≤ sizeLine ∧ Q (.str (i ++ j)) H)) ∨ (rCatA K x y H Q ∨ rCat x y H Q)) := by
  intro x y M Q0 H v w Q R rx ry h k
  unfold dAdd at h
  split at h
  · rename_i i j
    exact .inl (.inl ⟨i, j, rx, ry, k _ M _ H h .refl R rfl⟩)
  · rename_i a b
    exact .inl (.inr ⟨a, b, rx, ry, by rw [ln_eq]; exact h.1, k _ M _ H h.2 .refl R rfl⟩)
  · rename_i a b
    obtain ⟨p, xs, rfl, hp, r1⟩ := isD_tupE rx
    obtain ⟨q, ys, rfl, hq, r2⟩ := isD_tupE ry
    refine .inr (.inl ⟨p, q, xs, ys, rfl, rfl, hp, hq, by rw [ln_eq, r1.length, r2.length]; exact h.1, fun e => ?_, fun e1 e2 => ?_, fun e1 e2 r hr => ?_⟩)
    · subst e
      have : a = [] := List.eq_nil_of_length_eq_zero r1.length.symm
      subst this
      exact k _ M _ H h.2 .refl R (by simpa using isD_tup hq r2)
    · subst e2
      have : b = [] := List.eq_nil_of_length_eq_zero r2.length.symm
      subst this
      exact k _ M _ H h.2 .refl R (by simpa using isD_tup hp r1)
    · have t1 : TLe K H (upd H r (.tup (xs ++ ys))) := tle_upd (nt_none hr)
      exact k _ M _ _ h.2 t1 (rel_new R hr) (isD_tup (.inl (.inl upd_same)) ((r1.append r2).le t1 _ _))
  · rename_i p q
    split at h
    · rename_i a b e1 e2
      obtain ⟨xs, h1, r1⟩ := R p _ e1
      obtain ⟨ys, h2, r2⟩ := R q _ e2
      refine .inr (.inr ⟨p, q, xs, ys, rx, ry, h1, h2, by rw [ln_eq, r1.length, r2.length]; exact h.1, fun r hr => ?_⟩)
      have t1 : TLe K H (upd H r (.lst (xs ++ ys))) := tle_upd (nt_none hr)
      exact k _ _ _ _ (h.2 r (rel_none R hr)) t1 (rel_upd R (nt_none hr) ⟨_, upd_same, (r1.append r2).le t1 _ _⟩) rfl
    · exact h.elim
  · exact h.elim
theorem sim_sub : Sim P Wd K mg dSub (rI0 fun i j => .int (i - j)) := by
  intro x y M Q0 H v w Q R rx ry h k
  unfold dSub at h
  split at h
  · rename_i i j
    exact ⟨i, j, rx, ry, k _ M _ H h .refl R rfl⟩
  · exact h.elim
theorem mulOk {i j : Int} (h : MulOk i j) : CMul i j := by
  rcases h with h | h
  · exact .inl (by omega)
  · exact .inr (by omega)
theorem sim_mul : Sim P Wd K mg dMul (fun x y H Q => (rI CMul fun i j => .int (i * j)) x y H Q ∨ (rMulT K x y H Q ∨ rRep x y H Q)) := by
  intro x y M Q0 H v w Q R rx ry h k
  unfold dMul at h
  split at h
  · rename_i i j
    exact .inl ⟨i, j, rx, ry, mulOk h.1, k _ M _ H h.2 .refl R rfl⟩
  · rename_i a n
    obtain ⟨p, xs, rfl, hp, r1⟩ := isD_tupE rx
    refine .inr (.inl ⟨p, n, xs, rfl, ry, hp, by omega, by omega, by rw [ln_eq, r1.length]; exact h.2.2.1, fun e => ?_, fun e r hr => ?_⟩)
    · refine k _ M _ H h.2.2.2 .refl R ?_
      rcases e with e | e
      · subst e
        have : a = [] := List.eq_nil_of_length_eq_zero r1.length.symm
        subst this
        have e : (List.replicate n.toNat ([] : List D)).flatten = [] := by simp
        rw [e]
        exact isD_tup hp r1
      · subst e
        simpa using isD_tup hp r1
    · have t1 : TLe K H (upd H r (.tup (List.replicate n.toNat xs).flatten)) := tle_upd (nt_none hr)
      exact k _ M _ _ h.2.2.2 t1 (rel_new R hr) (isD_tup (.inl (.inl upd_same)) ((isDs_rep r1 _).le t1 _ _))
  · rename_i p n
    split at h
    · rename_i a e1
      obtain ⟨xs, h1, r1⟩ := R p _ e1
      refine .inr (.inr ⟨p, n, xs, rx, ry, h1, by omega, by omega, by rw [ln_eq, r1.length]; exact h.2.2.1, fun r hr => ?_⟩)
      have t1 : TLe K H (upd H r (.lst (List.replicate n.toNat xs).flatten)) := tle_upd (nt_none hr)
      exact k _ _ _ _ (h.2.2.2 r (rel_none R hr)) t1 (rel_upd R (nt_none hr) ⟨_, upd_same, (isDs_rep r1 _).le t1 _ _⟩) rfl
    · exact h.elim
  · exact h.elim
theorem sim_fdiv : Sim P Wd K mg dFdiv (rI CDivN fun i j => .int (i.fdiv j)) := by
  intro x y M Q0 H v w Q R rx ry h k
  unfold dFdiv at h
  split at h
  · rename_i i j
    exact ⟨i, j, rx, ry, h.1, k _ M _ H h.2 .refl R rfl⟩
  · exact h.elim
theorem sim_mod : Sim P Wd K mg dMod (rI (fun _ j => j ≠ 0) fun i j => .int (i.fmod j)) := by
  intro x y M Q0 H v w Q R rx ry h k
  unfold dMod at h
  split at h
  · rename_i i j
    exact ⟨i, j, rx, ry, h.1, k _ M _ H h.2 .refl R rfl⟩
  · exact h.elim
theorem sim_pow : Sim P Wd K mg dPow (rI CPow fun i j => .int (i ^ j.toNat)) := by
  intro x y M Q0 H v w Q R rx ry h k
  unfold dPow at h
  split at h
  · rename_i i j
    exact ⟨i, j, rx, ry, h.1, k _ M _ H h.2 .refl R rfl⟩
  · exact h.elim
theorem sim_xor : Sim P Wd K mg dXor (rI0 fun i j => .int (Builtin.bitXor i j)) := by
  intro x y M Q0 H v w Q R rx ry h k
  unfold dXor at h
  split at h
  · rename_i i j
    exact ⟨i, j, rx, ry, k _ M _ H h .refl R rfl⟩
  · exact h.elim
theorem sim_eq : Sim P Wd K mg dEq (rEqP K) := by
  intro x y M Q0 H v w Q R rx ry h k
  unfold dEq at h
  split at h
  · rename_i a b e1 e2
    exact ⟨a, b, py_v R 12 x v a e1 rx, py_v R 12 y w b e2 ry, by have := py_depth e1; omega, k _ M _ H h .refl R rfl⟩
  · exact h.elim
theorem sim_ne : Sim P Wd K mg dNe (rNeP K) := by
  intro x y M Q0 H v w Q R rx ry h k
  unfold dNe at h
  split at h
  · rename_i a b e1 e2
    exact ⟨a, b, py_v R 12 x v a e1 rx, py_v R 12 y w b e2 ry, by have := py_depth e1; omega, k _ M _ H h .refl R rfl⟩
  · exact h.elim
end
end Dn

set_option Elab.async false
set_option linter.all false
set_option maxRecDepth 100000
set_option maxHeartbeats 4000000
namespace Dn
open PySem PySem.Spec L2
open PyProof.Rows hiding St
open PySem.SeqAt (EqAt RcLt RcOp firstLt firstLt_yes firstLt_no)
open AutoSeq1 (wpAny_loadPart')

/-! ### < of data that differ first where they can be compared -/
mutual
def ltP : PyData → PyData → Option Bool
  | .bool x, .bool y => some (decide (b2i x < b2i y))
  | .int x, .int y => some (decide (x < y))
  | .str x, .str y => some (decide (x.cps.toList < y.cps.toList))
  | .tuple xs, .tuple ys => ltPs xs ys
  | _, _ => none
def ltPs : List PyData → List PyData → Option Bool
  | x :: xs, y :: ys => if PyData.eqv x y = true then ltPs xs ys else ltP x y
  | [], [] => some false
  | [], _ :: _ => some true
  | _ :: _, [] => some false
end
theorem tupLt_first (l b : Addr) (xs ys : Array Value) (n n2 : Nat) (dd dd2 : Option Addr) (sl sl2 : Array (Option Value)) (e r : Nat → Bool) :
    Meets (Builtin.«tuple.__lt__» ⟨[.ref l, .ref b], []⟩)
      (fun A R s => s.heap.get? l = some { cls := .type "tuple", dict := dd, data := .seq xs n, slots := sl } ∧ s.heap.get? b = some { cls := .type "tuple", dict := dd2, data := .seq ys n2, slots := sl2 } ∧
        (∀ j (p : j < xs.size) (q : j < ys.size), EqAt A.in1 s xs[j] ys[j] (e j)) ∧
        (∀ j (p : j < xs.size) (q : j < ys.size), (∀ i, i < j → e i = true) → e j = false → RcLt A.in1 s xs[j] ys[j] (r j)) ∧
        R (.ok (.ret (.bool (firstLt e r (decide (xs.size < ys.size)) (List.range (min xs.size ys.size)))))) s) :=
  .of_wp fun prog w A R s ⟨hl, hb, he, hr, hR0⟩ => by
    obtain ⟨hp, g, d, tk, os⟩ := s
    have f2 := AutoSeq1.sub_tuple_tuple
    have hZ : (xs.toList.zip ys.toList).length = min xs.size ys.size := by simp
    wp_walk using wpAny_loadPart' hl, wpAny_loadPart' hb, wpAny_forIn_list _ (fun rest b s' => b.1 = none ∧ s' = ⟨hp, g, d, tk, os⟩ ∧ ∃ i, rest = (xs.toList.zip ys.toList).drop i ∧ (∀ k, k < i → e k = true) ∧
      R (.ok (.ret (.bool (firstLt e r (decide (xs.size < ys.size)) ((List.range (min xs.size ys.size)).drop i))))) ⟨hp, g, d, tk, os⟩) _
    case turn =>
      rintro ⟨y, x⟩ rest b s' ⟨hb', rfl, i, hz, hbefore, hR⟩
      have hlt : i < (xs.toList.zip ys.toList).length := by
        rcases Nat.lt_or_ge i (xs.toList.zip ys.toList).length with z | z
        · exact z
        · rw [List.drop_of_length_le z] at hz; cases hz
      have hm : i < min xs.size ys.size := hZ ▸ hlt
      have h1 : i < xs.size := Nat.lt_of_lt_of_le hm (Nat.min_le_left _ _)
      have h2 : i < ys.size := Nat.lt_of_lt_of_le hm (Nat.min_le_right _ _)
      rw [List.drop_eq_getElem_cons hlt] at hz
      injection hz with hyx hrest
      obtain rfl : y = xs[i] := by have := congrArg Prod.fst hyx; simpa using this
      obtain rfl : x = ys[i] := by have := congrArg Prod.snd hyx; simpa using this
      have hd : (List.range (min xs.size ys.size)).drop i = i :: (List.range (min xs.size ys.size)).drop (i + 1) := by simp [List.drop_eq_getElem_cons, hm]
      rw [hd] at hR
      refine wpAny_bind (he i h1 h2 prog w _ _ ?_)
      cases hy : e i with
      | true =>
        rw [firstLt_yes hy] at hR
        wp_walk
        refine ⟨rfl, rfl, i + 1, hrest, fun k hk => ?_, hR⟩
        rcases Nat.lt_succ_iff_lt_or_eq.mp hk with z | z
        · exact hbefore k z
        · rw [z]; exact hy
      | false =>
        rw [firstLt_no hy] at hR
        have hri : ∀ {E : Value → Shared → Prop} {Q : Value → Shared → Prop}, Q (.bool (r i)) ⟨hp, g, d, tk, os⟩ → wpAny (model prog w) A.in1 (richCompare .Lt xs[i] ys[i]) Q E ⟨hp, g, d, tk, os⟩ := fun q => hr i h1 h2 hbefore hy prog w _ _ q
        wp_walk using hri
        exact ⟨_, rfl, hR⟩
    case fin =>
      rintro ⟨b1, b2⟩ s' ⟨hb', rfl, i, hz, _, hR⟩
      simp only at hb'
      subst hb'
      have hge : min xs.size ys.size ≤ i := by
        rcases Nat.lt_or_ge i (xs.toList.zip ys.toList).length with z | z
        · rw [List.drop_eq_getElem_cons z] at hz; cases hz
        · exact hZ ▸ z
      rw [List.drop_of_length_le (by simpa using hge)] at hR
      wp_walk
      exact ⟨_, rfl, by simpa [Builtin.Tuple.tupleCompareSizes, firstLt] using hR⟩
    case h =>
      exact ⟨rfl, rfl, 0, rfl, fun k hk => absurd hk (Nat.not_lt_zero k), by simpa using hR0⟩
theorem rcLt_first {A : Around} {s : Shared} {l b : Addr} {xs ys : Array Value} {e r : Nat → Bool} (hl : s.heap.IsTuple l xs) (hb : s.heap.IsTuple b ys) (hu : A.units < cLine)
    (he : ∀ j (p : j < xs.size) (q : j < ys.size), EqAt A.in1 s xs[j] ys[j] (e j))
    (hr : ∀ j (p : j < xs.size) (q : j < ys.size), (∀ i, i < j → e i = true) → e j = false → RcLt A.in1 s xs[j] ys[j] (r j)) :
    RcLt A s (.ref l) (.ref b) (firstLt e r (decide (xs.size < ys.size)) (List.range (min xs.size ys.size))) := fun prog w E Q h => by
  obtain ⟨⟨cls, dd, data, sl⟩, ho, hc, n, hd⟩ := id hl
  obtain ⟨⟨cls2, dd2, data2, sl2⟩, ho2, hc2, n2, hd2⟩ := id hb
  simp only at hc hd hc2 hd2
  subst hc hd hc2 hd2
  exact richCompare_meets_room (op := .Lt) ⟨_, ho, rfl⟩ ⟨_, ho2, rfl⟩ F.slot_tuple_lt F.entry_tuple_lt (F.args_tuple_lt_2 _ _) (tupLt_first l b xs ys n n2 dd dd2 sl sl2 e r)
    ⟨ho, ho2, he, hr, (fun x => nomatch x), h⟩ hu

/-- the first place that differs -/
theorem firstLt_ltPs : ∀ (xs ys : List PyData) (k : Bool) (r : Nat → Bool), ltPs xs ys = some k →
    (∀ j, (∀ i, i < j → SeqAt.pairEq xs ys i = true) → j < min xs.length ys.length → SeqAt.pairEq xs ys j = false → ltP (xs.getD j .none) (ys.getD j .none) = some (r j)) →
    firstLt (SeqAt.pairEq xs ys) r (decide (xs.length < ys.length)) (List.range (min xs.length ys.length)) = k
  | [], [], k, r, h, _ => by simp [ltPs] at h; subst h; rfl
  | [], y :: ys, k, r, h, _ => by simp [ltPs] at h; subst h; simp [firstLt]
  | x :: xs, [], k, r, h, _ => by simp [ltPs] at h; subst h; simp [firstLt]
  | x :: xs, y :: ys, k, r, h, hr => by
    have hm : min (x :: xs).length (y :: ys).length = min xs.length ys.length + 1 := by simp only [List.length_cons]; omega
    rw [hm, List.range_succ_eq_map]
    have e0 : SeqAt.pairEq (x :: xs) (y :: ys) 0 = PyData.eqv x y := rfl
    by_cases e : PyData.eqv x y = true
    · rw [firstLt_yes (by rw [e0]; exact e), W.firstLt_map]
      have hd : decide ((x :: xs).length < (y :: ys).length) = decide (xs.length < ys.length) := by simp
      rw [hd]
      have h' : ltPs xs ys = some k := by rw [ltPs, if_pos e] at h; exact h
      refine firstLt_ltPs xs ys k (fun j => r (j + 1)) h' fun j hj hlt hne => ?_
      have := hr (j + 1) (fun i hi => by
        cases i with
        | zero => rw [e0]; exact e
        | succ i => exact hj i (by omega)) (by simp only [List.length_cons]; omega) hne
      simpa using this
    · have e' : PyData.eqv x y = false := by simpa using e
      rw [firstLt_no (by rw [e0]; exact e')]
      have h' : ltP x y = some k := by rw [ltPs, if_neg e] at h; exact h
      have := hr 0 (fun i hi => absurd hi (Nat.not_lt_zero i)) (by simp only [List.length_cons]; omega) e'
      rw [show (x :: xs).getD 0 PyData.none = x from rfl, show (y :: ys).getD 0 PyData.none = y from rfl, h'] at this
      exact (Option.some.inj this).symm
mutual
theorem rcLt_of : ∀ (da db : PyData) (k : Bool) (A : Around) (s : Shared) (a b : Value) (as bs : List Addr), Reads s.heap a da as → Reads s.heap b db bs → da.plain = true → db.plain = true → ltP da db = some k → A.units + min da.depth db.depth < cLine → RcLt A s a b k
  | .bool x, .bool y, k, A, s, a, b, as, bs, ra, rb, _, _, h, _ => by
    simp only [ltP, Option.some.injEq] at h
    subst h
    cases ra; cases rb
    intro prog w E Q hq
    exact PyProof.Rows.lt_bool hq
  | .int x, .int y, k, A, s, a, b, as, bs, ra, rb, _, _, h, _ => by
    simp only [ltP, Option.some.injEq] at h
    subst h
    cases ra; cases rb
    intro prog w E Q hq
    exact P.lt_int hq
  | .str x, .str y, k, A, s, a, b, as, bs, ra, rb, _, _, h, _ => by
    simp only [ltP, Option.some.injEq] at h
    subst h
    cases ra; cases rb
    intro prog w E Q hq
    exact P.lt_str hq
  | .tuple xs, .tuple ys, k, A, s, a, b, as, bs, ra, rb, pa, pb, h, hu => by
    have h' : ltPs xs ys = some k := by simpa [ltP] using h
    rw [PyData.plain] at pa pb
    cases ra with
    | @tuple l o vs n _ as₁ h1 h2 h3 h4 =>
      cases rb with
      | @tuple l' o' vs' n' _ bs₁ k1 k2 k3 k4 =>
        have n1 : vs.size = xs.length := by simpa using SeqAt.ReadsAll.length _ _ _ h4
        have n2 : vs'.size = ys.length := by simpa using SeqAt.ReadsAll.length _ _ _ k4
        have hr := rcLt_ofs xs ys A.in1 s vs.toList vs'.toList _ _ h4 k4 pa pb (SeqAt.room_in hu)
        rw [← firstLt_ltPs xs ys k (fun j => (ltP (xs.getD j .none) (ys.getD j .none)).getD false) h' (fun j hj hlt hne => ?_), ← n1, ← n2]
        · refine rcLt_first ⟨_, h1, h2, _, h3⟩ ⟨_, k1, k2, _, k3⟩ (SeqAt.room_here hu) (fun j j1 j2 => ?_) fun j j1 j2 hb hj => ?_
          · have := SeqAt.eqAt_plainAll xs ys A.in1 s vs.toList vs'.toList _ _ h4 k4 pa pb (SeqAt.room_in hu) j (by simpa using j1) (by simpa using j2)
            simpa using this
          · obtain ⟨k', e⟩ := ltPs_at xs ys k h' j (by omega) hb hj
            have := hr j (by simpa using j1) (by simpa using j2) k' e
            rw [e]
            simpa using this
        · obtain ⟨k', e⟩ := ltPs_at xs ys k h' j (by omega) hj hne
          rw [e]; rfl
  | .none, _, _, _, _, _, _, _, _, _, _, _, _, h, _ => by simp [ltP] at h
  | .list _, _, _, _, _, _, _, _, _, _, _, _, _, h, _ => by simp [ltP] at h
  | .dict _, _, _, _, _, _, _, _, _, _, _, _, _, h, _ => by simp [ltP] at h
  | .bool _, .none, _, _, _, _, _, _, _, _, _, _, _, h, _ => by simp [ltP] at h
  | .bool _, .int _, _, _, _, _, _, _, _, _, _, _, _, h, _ => by simp [ltP] at h
  | .bool _, .str _, _, _, _, _, _, _, _, _, _, _, _, h, _ => by simp [ltP] at h
  | .bool _, .list _, _, _, _, _, _, _, _, _, _, _, _, h, _ => by simp [ltP] at h
  | .bool _, .tuple _, _, _, _, _, _, _, _, _, _, _, _, h, _ => by simp [ltP] at h
  | .bool _, .dict _, _, _, _, _, _, _, _, _, _, _, _, h, _ => by simp [ltP] at h
  | .int _, .none, _, _, _, _, _, _, _, _, _, _, _, h, _ => by simp [ltP] at h
  | .int _, .bool _, _, _, _, _, _, _, _, _, _, _, _, h, _ => by simp [ltP] at h
  | .int _, .str _, _, _, _, _, _, _, _, _, _, _, _, h, _ => by simp [ltP] at h
  | .int _, .list _, _, _, _, _, _, _, _, _, _, _, _, h, _ => by simp [ltP] at h
  | .int _, .tuple _, _, _, _, _, _, _, _, _, _, _, _, h, _ => by simp [ltP] at h
  | .int _, .dict _, _, _, _, _, _, _, _, _, _, _, _, h, _ => by simp [ltP] at h
  | .str _, .none, _, _, _, _, _, _, _, _, _, _, _, h, _ => by simp [ltP] at h
  | .str _, .bool _, _, _, _, _, _, _, _, _, _, _, _, h, _ => by simp [ltP] at h
  | .str _, .int _, _, _, _, _, _, _, _, _, _, _, _, h, _ => by simp [ltP] at h
  | .str _, .list _, _, _, _, _, _, _, _, _, _, _, _, h, _ => by simp [ltP] at h
  | .str _, .tuple _, _, _, _, _, _, _, _, _, _, _, _, h, _ => by simp [ltP] at h
  | .str _, .dict _, _, _, _, _, _, _, _, _, _, _, _, h, _ => by simp [ltP] at h
  | .tuple _, .none, _, _, _, _, _, _, _, _, _, _, _, h, _ => by simp [ltP] at h
  | .tuple _, .bool _, _, _, _, _, _, _, _, _, _, _, _, h, _ => by simp [ltP] at h
  | .tuple _, .int _, _, _, _, _, _, _, _, _, _, _, _, h, _ => by simp [ltP] at h
  | .tuple _, .str _, _, _, _, _, _, _, _, _, _, _, _, h, _ => by simp [ltP] at h
  | .tuple _, .list _, _, _, _, _, _, _, _, _, _, _, _, h, _ => by simp [ltP] at h
  | .tuple _, .dict _, _, _, _, _, _, _, _, _, _, _, _, h, _ => by simp [ltP] at h
theorem rcLt_ofs : ∀ (xs ys : List PyData) (A : Around) (s : Shared) (vs ws : List Value) (as bs : List Addr), ReadsAll s.heap vs xs as → ReadsAll s.heap ws ys bs → PyData.plainAll xs = true → PyData.plainAll ys = true →
    A.units + min (PyData.depthAll xs) (PyData.depthAll ys) < cLine → ∀ j (h1 : j < vs.length) (h2 : j < ws.length) (k : Bool), ltP (xs.getD j .none) (ys.getD j .none) = some k → RcLt A s vs[j] ws[j] k
  | [], _, _, _, _, _, _, _, ra, _, _, _, _, j, h1, _, _, _ => by cases ra; exact absurd h1 (Nat.not_lt_zero _)
  | _ :: _, [], _, _, _, _, _, _, _, rb, _, _, _, j, _, h2, _, _ => by cases rb; exact absurd h2 (Nat.not_lt_zero _)
  | x :: xs, y :: ys, A, s, _, _, _, _, ra, rb, pa, pb, hu, j, h1, h2, k, hj => by
    have pa' : x.plain = true ∧ PyData.plainAll xs = true := by simpa [PyData.plainAll] using pa
    have pb' : y.plain = true ∧ PyData.plainAll ys = true := by simpa [PyData.plainAll] using pb
    cases ra with
    | cons r rs =>
      cases rb with
      | cons r' rs' =>
        cases j with
        | zero => exact rcLt_of x y k A s _ _ _ _ r r' pa'.1 pb'.1 hj (SeqAt.room_head hu)
        | succ j => exact rcLt_ofs xs ys A s _ _ _ _ rs rs' pa'.2 pb'.2 (SeqAt.room_tail hu) j (Nat.lt_of_succ_lt_succ h1) (Nat.lt_of_succ_lt_succ h2) k (by simpa using hj)
theorem ltPs_at : ∀ (xs ys : List PyData) (k : Bool), ltPs xs ys = some k → ∀ j, j < min xs.length ys.length → (∀ i, i < j → SeqAt.pairEq xs ys i = true) → SeqAt.pairEq xs ys j = false →
    ∃ k', ltP (xs.getD j .none) (ys.getD j .none) = some k'
  | [], _, _, _, j, h, _, _ => by simp at h
  | _ :: _, [], _, _, j, h, _, _ => by simp at h
  | x :: xs, y :: ys, k, h, j, hlt, hb, hj => by
    cases j with
    | zero =>
      have hj' : PyData.eqv x y = false := hj
      rw [ltPs, if_neg (by rw [hj']; exact Bool.false_ne_true)] at h
      exact ⟨k, h⟩
    | succ j =>
      have h0 : PyData.eqv x y = true := hb 0 (Nat.succ_pos j)
      rw [ltPs, if_pos h0] at h
      have := ltPs_at xs ys k h j (by simp only [List.length_cons] at hlt; omega) (fun i hi => hb (i + 1) (by omega)) hj
      simpa using this
end
end Dn

set_option Elab.async false
set_option linter.all false
set_option maxRecDepth 100000
set_option maxHeartbeats 4000000
namespace Dn
open PySem PySem.Spec L2
open PyProof.Rows hiding St
variable {P : Program} {Wd : World}

/-! ### order -/
def rLtP (K : PySem.W.Frag) : R2 := fun v w H Q => ∃ a b k, PyV K H v a ∧ PyV K H w b ∧ a.depth ≤ 40 ∧ ltP a b = some k ∧ Q (.bl k) H
theorem op_ltP {X : Cx} (hu : X.A.units + 64 < cLine) : OpR X (compareOp .Lt) (rLtP X.K) := by
  intro pins s σ H x y v u Q I rx ry h
  obtain ⟨a, b, k, ha, hb, hd, e, q⟩ := h
  obtain ⟨as, ra⟩ := ha.reads I _ _ _ rx
  obtain ⟨bs, rb⟩ := hb.reads I _ _ _ ry
  exact rcLt_of a b k X.A s v u as bs ra rb (ha.plain _ _) (hb.plain _ _) e (by omega) X.prog X.w X.xe _ ⟨.bl _, H, I, rfl, q⟩
def dLt : OD := fun x y M Q => match py M 12 x, py M 12 y with
  | some a, some b => match ltP a b with
    | some k => Q (.bl k) M
    | none => False
  | _, _ => False
def dCI (p : Int → Int → Bool) : OD := fun x y M Q => match x, y with
  | .int i, .int j => Q (.bl (p i j)) M
  | _, _ => False
def dLe : OD := dCI fun i j => decide (i ≤ j)
def dGt : OD := dCI fun i j => decide (j < i)
def dGe : OD := dCI fun i j => decide (j ≤ i)
/-- x in t: a list, a tuple, a text -/
def dInB (neg : Bool) : OD := fun x y M Q => match y with
  | .str t => match x with
    | .str z => Q (.bl (if neg then !(!(Builtin.Str.occurrences t z 0 t.length 1).isEmpty) else !(Builtin.Str.occurrences t z 0 t.length 1).isEmpty)) M
    | _ => False
  | _ => match py M 12 x, py M 12 y with
    | some a, some (.list bs) => Q (.bl (if neg then !(bs.any fun y => PyData.eqv y a) else bs.any fun y => PyData.eqv y a)) M
    | some a, some (.tuple bs) => Q (.bl (if neg then !(bs.any fun y => PyData.eqv y a) else bs.any fun y => PyData.eqv y a)) M
    | _, _ => False
def dIs (neg : Bool) : OD := fun x y M Q => match y with
  | .non => Q (.bl (if neg then !(decide (x = .non)) else decide (x = .non))) M
  | .bl b => match x with
    | .bl a => Q (.bl (if neg then !(decide (a = b)) else decide (a = b))) M
    | _ => False
  | _ => False
section
variable {K : PySem.W.Frag} {mg : Str → Option Value}
theorem sim_lt : Sim P Wd K mg dLt (rLtP K) := by
  intro x y M Q0 H v w Q R rx ry h k
  unfold dLt at h
  split at h
  · rename_i a b e1 e2
    split at h
    · rename_i c e3
      exact ⟨a, b, c, py_v R 12 x v a e1 rx, py_v R 12 y w b e2 ry, by have := py_depth e1; omega, e3, k _ M _ H h .refl R rfl⟩
    · exact h.elim
  · exact h.elim
theorem sim_ci (p : Int → Int → Bool) : Sim P Wd K mg (dCI p) (rI0 fun i j => .bl (p i j)) := by
  intro x y M Q0 H v w Q R rx ry h k
  unfold dCI at h
  split at h
  · rename_i i j
    exact ⟨i, j, rx, ry, k _ M _ H h .refl R rfl⟩
  · exact h.elim
theorem isD_refOr {H : Hp} {M : MH} (R : Rel P Wd K mg H M) {y : D} {w : V} {n : Nat} {bs : List PyData} (ry : IsD K mg H y w) (h : py M n y = some (.list bs) ∨ py M n y = some (.tuple bs)) : ∃ p, w = .ref p := by
  rcases h with h | h
  · have := py_v R n y w _ h ry
    cases this; exact ⟨_, rfl⟩
  · have := py_v R n y w _ h ry
    cases this; exact ⟨_, rfl⟩
theorem sim_in (neg : Bool) : Sim P Wd K mg (dInB neg) (fun x y H Q => (∃ i j, x = .str i ∧ y = .str j ∧ Q (.bl (if neg then !(!(Builtin.Str.occurrences j i 0 j.length 1).isEmpty) else !(Builtin.Str.occurrences j i 0 j.length 1).isEmpty)) H) ∨ rInP K neg x y H Q) := by
  intro x y M Q0 H v w Q R rx ry h k
  unfold dInB at h
  split at h
  · rename_i t
    split at h
    · rename_i z
      exact .inl ⟨z, t, rx, ry, k _ M _ H h .refl R rfl⟩
    · exact h.elim
  · split at h
    · rename_i a bs e1 e2
      obtain ⟨p, rfl⟩ := isD_refOr R ry (.inl e2)
      exact .inr ⟨a, bs, p, py_v R 12 x v a e1 rx, by have := py_depth e1; omega, rfl, .inl (py_v R 12 y _ _ e2 ry), k _ M _ H h .refl R rfl⟩
    · rename_i a bs e1 e2
      obtain ⟨p, rfl⟩ := isD_refOr R ry (.inr e2)
      exact .inr ⟨a, bs, p, py_v R 12 x v a e1 rx, by have := py_depth e1; omega, rfl, .inr (py_v R 12 y _ _ e2 ry), k _ M _ H h .refl R rfl⟩
    · exact h.elim
theorem isD_non {H : Hp} {x : D} {v : V} (h : IsD K mg H x v) : decide (v = .non) = decide (x = .non) := by
  cases x with
  | non => rw [show v = .non from h]; rfl
  | bl b => rw [show v = .bl b from h]; rfl
  | int b => rw [show v = .int b from h]; rfl
  | str b => rw [show v = .str b from h]; rfl
  | tup ds => obtain ⟨a, xs, rfl, _⟩ := isD_tupE h; rfl
  | ref a => rw [show v = .ref a from h]; rfl
  | fn x => obtain ⟨f, rfl, _⟩ := (show ∃ f, v = .ref f ∧ mg x = some (.ref f) from h); rfl
  | kls ds => obtain ⟨a, xs, rfl, _⟩ := (by rw [IsD] at h; exact h : ∃ a xs, v = .ref a ∧ SqC K H a xs ∧ IsDs K mg H ds xs); rfl
theorem sim_is (neg : Bool) : Sim P Wd K mg (dIs neg) (fun x y H Q => (y = .non ∧ Q (.bl (if neg then !(decide (x = .non)) else decide (x = .non))) H) ∨
    (∃ a b : Bool, x = .bl a ∧ y = .bl b ∧ Q (.bl (if neg then !(decide (a = b)) else decide (a = b))) H)) := by
  intro x y M Q0 H v w Q R rx ry h k
  unfold dIs at h
  split at h
  · refine .inl ⟨ry, ?_⟩
    rw [isD_non rx]
    exact k _ M _ H h .refl R rfl
  · rename_i b
    split at h
    · rename_i a
      exact .inr ⟨a, b, rx, ry, k _ M _ H h .refl R rfl⟩
    · exact h.elim
  · exact h.elim
end

/-! ### all comparisons -/
def dCmp : CmpOp → OD
  | .Eq => dEq | .NotEq => dNe | .Lt => dLt | .LtE => dLe | .Gt => dGt | .GtE => dGe
  | .In => dInB false | .NotIn => dInB true | .Is => dIs false | .IsNot => dIs true
def rCmp (K : PySem.W.Frag) : CmpOp → R2
  | .Eq => rEqP K | .NotEq => rNeP K | .Lt => rLtP K
  | .LtE => rI0 fun i j => .bl (decide (i ≤ j)) | .Gt => rI0 fun i j => .bl (decide (j < i)) | .GtE => rI0 fun i j => .bl (decide (j ≤ i))
  | .In => fun x y H Q => (∃ i j, x = .str i ∧ y = .str j ∧ Q (.bl (!(Builtin.Str.occurrences j i 0 j.length 1).isEmpty)) H) ∨ rInP K false x y H Q
  | .NotIn => fun x y H Q => (∃ i j, x = .str i ∧ y = .str j ∧ Q (.bl (!(!(Builtin.Str.occurrences j i 0 j.length 1).isEmpty))) H) ∨ rInP K true x y H Q
  | .Is => fun x y H Q => (y = .non ∧ Q (.bl (decide (x = .non))) H) ∨ rIsB x y H Q
  | .IsNot => fun x y H Q => (y = .non ∧ Q (.bl (!(decide (x = .non)))) H) ∨ rNotB x y H Q
theorem cmp_ok {X : Cx} (hu : X.A.units + 64 < cLine) : ∀ op : CmpOp, OpR X (compareOp op) (rCmp X.K op)
  | .Eq => op_eqP hu | .NotEq => op_neP hu | .Lt => op_ltP hu | .LtE => op_le | .Gt => op_gt | .GtE => op_ge
  | .In => op_in_str.or (op_inP hu) | .NotIn => L2.op_notin_str.or (op_notInP hu) | .Is => op_isN.or op_isBl | .IsNot => op_notN.or op_notBl
theorem cmp_sim {K : PySem.W.Frag} {mg : Str → Option Value} : ∀ op : CmpOp, Sim P Wd K mg (dCmp op) (rCmp K op)
  | .Eq => sim_eq | .NotEq => sim_ne | .Lt => sim_lt | .LtE => sim_ci _ | .Gt => sim_ci _ | .GtE => sim_ci _
  | .In => sim_in false | .NotIn => sim_in true | .Is => sim_is false | .IsNot => sim_is true
/-! ### all operators -/
def dBin : Operator → OD
  | .Add => dAdd | .Sub => dSub | .Mult => dMul | .FloorDiv => dFdiv | .Mod => dMod | .Pow => dPow | .BitXor => dXor
  | _ => fun _ _ _ _ => False
def rBin (K : PySem.W.Frag) : Operator → R2
  | .Add => fun x y H Q => ((rI0 fun i j => .int (i + j)) x y H Q ∨ (∃ i j, x = .str i ∧ y = .str j ∧ i.length + j.length ≤ sizeLine ∧ Q (.str (i ++ j)) H)) ∨ (rCatA K x y H Q ∨ rCat x y H Q)
  | .Sub => rI0 fun i j => .int (i - j)
  | .Mult => fun x y H Q => (rI CMul fun i j => .int (i * j)) x y H Q ∨ (rMulT K x y H Q ∨ rRep x y H Q)
  | .FloorDiv => rI CDivN fun i j => .int (i.fdiv j)
  | .Mod => rI (fun _ j => j ≠ 0) fun i j => .int (i.fmod j)
  | .Pow => rI CPow fun i j => .int (i ^ j.toNat)
  | .BitXor => rI0 fun i j => .int (Builtin.bitXor i j)
  | _ => fun _ _ _ _ => False
theorem bin_ok {X : Cx} : ∀ op : Operator, OpR X (binaryOp op) (rBin X.K op)
  | .Add => (op_add.or op_add_str).or (op_catA.or op_cat)
  | .Sub => op_sub
  | .Mult => op_mul.or (op_mulT.or op_rep)
  | .FloorDiv => op_fdivN | .Mod => op_modN | .Pow => op_pow | .BitXor => op_xor
  | .MatMult => fun _ _ _ _ _ _ _ _ _ _ _ _ h => h.elim
  | .Div => fun _ _ _ _ _ _ _ _ _ _ _ _ h => h.elim
  | .LShift => fun _ _ _ _ _ _ _ _ _ _ _ _ h => h.elim
  | .RShift => fun _ _ _ _ _ _ _ _ _ _ _ _ h => h.elim
  | .BitOr => fun _ _ _ _ _ _ _ _ _ _ _ _ h => h.elim
  | .BitAnd => fun _ _ _ _ _ _ _ _ _ _ _ _ h => h.elim
theorem bin_sim {K : PySem.W.Frag} {mg : Str → Option Value} : ∀ op : Operator, Sim P Wd K mg (dBin op) (rBin K op)
  | .Add => sim_add | .Sub => sim_sub | .Mult => sim_mul | .FloorDiv => sim_fdiv | .Mod => sim_mod | .Pow => sim_pow | .BitXor => sim_xor
  | .MatMult => fun _ _ _ _ _ _ _ _ _ _ _ h => h.elim
  | .Div => fun _ _ _ _ _ _ _ _ _ _ _ h => h.elim
  | .LShift => fun _ _ _ _ _ _ _ _ _ _ _ h => h.elim
  | .RShift => fun _ _ _ _ _ _ _ _ _ _ _ h => h.elim
  | .BitOr => fun _ _ _ _ _ _ _ _ _ _ _ h => h.elim
  | .BitAnd => fun _ _ _ _ _ _ _ _ _ _ _ h => h.elim

/-! ### tests -/
section
variable {X : Cx} {pos : Pos} {a b c : Expr} {ta tb tc : TD}
/-- a reading of a bool as a test -/
def dTB (t : TD) : TDT := fun env M Q => t env M fun d M1 => match d with
  | .bl b => Q b M1
  | _ => False
theorem tb_imp {K : PySem.W.Frag} {mg : Str → Option Value} {t : TD} {t0 : TE} (w : ∀ σ H Q, lf P Wd K mg t σ H Q → t0 σ H Q) (σ : St) (H : Hp) (Q : Bool → Hp → Prop) (h : lfT P Wd K mg (dTB t) σ H Q) : tTest t0 σ H Q := by
  obtain ⟨env, M, Q0, R, S, h, k⟩ := h
  refine w σ H _ (lf_bind R S h fun d M1 v H1 q l R1 S1 r => ?_)
  cases d with
  | bl b => exact ⟨b, r, k b M1 H1 q l R1⟩
  | _ => exact q.elim
theorem dt_cmp {op : CmpOp} (hu : X.A.units + 64 < cLine) (ha : DE X a ta) (hb : DE X b tb) (hm : behindInMarks op b = false) : DT X (.Compare a [op] [b] pos) (dTB (dOp (dCmp op) ta tb)) :=
  PT.imp (pt_cmpR (cmp_ok hu op) ha hb hm) (tb_imp (op_sim (cmp_sim op)))
/-- a op b op' c -/
def dChain (f g : OD) (ta tb tc : TD) : TD := fun env M Q => ta env M fun x M1 => tb env M1 fun y M2 => f x y M2 fun z M3 => match z with
  | .bl true => tc env M3 fun w M4 => g y w M4 Q
  | .bl false => Q (.bl false) M3
  | _ => False
theorem chain_imp {K : PySem.W.Frag} {mg : Str → Option Value} {f g : OD} {r r' : R2} (s : Sim P Wd K mg f r) (s' : Sim P Wd K mg g r') (σ : St) (H : Hp) (Q : VK) (h : lf P Wd K mg (dChain f g ta tb tc) σ H Q) :
    tChain r r' (lf P Wd K mg ta) (lf P Wd K mg tb) (lf P Wd K mg tc) σ H Q := by
  obtain ⟨env, M, Q0, R, S, h, k⟩ := h
  refine lf_bind R S h fun x M1 v H1 q l R1 S1 r1 => ?_
  refine lf_bind R1 S1 q fun y M2 w H2 q2 l2 R2 S2 r2 => ?_
  refine s x y M2 _ H2 v w _ R2 (r1.le l2 _ _) r2 q2 fun z M3 u H3 q3 l3 R3 r3 => ?_
  have l13 := (l.trans l2).trans l3
  cases z with
  | bl b =>
    refine ⟨b, r3, ?_⟩
    cases b with
    | false => exact k _ M3 _ H3 q3 l13 R3 rfl
    | true =>
      refine lf_bind R3 (S2.le l3) q3 fun w' M4 v' H4 q4 l4 R4 S4 r4 => ?_
      exact s' y w' M4 Q0 H4 w v' Q R4 (r2.le (l3.trans l4) _ _) r4 q4 fun d M' u' H' q5 l5 R5 r5 => k d M' u' H' q5 ((l13.trans l4).trans l5) R5 r5
  | _ => exact q3.elim
theorem de_chain {op op' : CmpOp} (hu : X.A.units + 64 < cLine) (ha : DE X a ta) (hb : DE X b tb) (hc : DE X c tc) (hm : lastMarks [op, op'] [b, c] = false) :
    DE X (.Compare a [op, op'] [b, c] pos) (dChain (dCmp op) (dCmp op') ta tb tc) :=
  PE.imp (pe_chain (cmp_ok hu op) (cmp_ok hu op') ha hb hc hm) (chain_imp (cmp_sim op) (cmp_sim op'))
theorem dt_chain {op op' : CmpOp} (hu : X.A.units + 64 < cLine) (ha : DE X a ta) (hb : DE X b tb) (hc : DE X c tc) (hm : lastMarks [op, op'] [b, c] = false) :
    DT X (.Compare a [op, op'] [b, c] pos) (dTB (dChain (dCmp op) (dCmp op') ta tb tc)) :=
  PT.imp (pt_chain (cmp_ok hu op) (cmp_ok hu op') ha hb hc hm) (tb_imp (chain_imp (cmp_sim op) (cmp_sim op')))
/-- a bool's value as a test, whatever the expression -/
theorem dt_val (ha : DE X a ta) (he : ∀ whole, isTrue a X.env whole = (do let v ← whole; standAt a.pos; holding [v] (truthy v))) : DT X a (dTB ta) :=
  PT.imp (pt_val ha he) fun σ H Q h => tb_imp (fun _ _ _ z => z) σ H Q h

/-! and, or, not -/
def dAnd (t u : TDT) : TDT := fun env M Q => t env M fun b M1 => if b = true then u env M1 Q else Q false M1
def dOr (t u : TDT) : TDT := fun env M Q => t env M fun b M1 => if b = true then Q true M1 else u env M1 Q
def dNot (t : TDT) : TDT := fun env M Q => t env M fun b M1 => Q (!b) M1
theorem dw_and1 {t : TDT} (ha : DT X a t) : DW X (.BoolOp .And [a] pos) t := pw_and1 ha
theorem dw_or1 {t : TDT} (ha : DT X a t) : DW X (.BoolOp .Or [a] pos) t := pw_or1 ha
theorem dw_and {t u : TDT} {rest : List Expr} (ha : DT X a t) (hb : DW X (.BoolOp .And (b :: rest) pos) u) : DW X (.BoolOp .And (a :: b :: rest) pos) (dAnd t u) := by
  refine PW.imp (pw_and ha hb) fun σ H Q h => ?_
  obtain ⟨env, M, Q0, R, S, h, k⟩ := h
  refine lfT_bind R S h fun c M1 H1 q l R1 S1 => ?_
  cases c with
  | true => exact lfT_bind R1 S1 q fun c2 M2 H2 q2 l2 R2 S2 => k c2 M2 H2 q2 (l.trans l2) R2
  | false => exact k false M1 H1 q l R1
theorem dw_or {t u : TDT} {rest : List Expr} (ha : DT X a t) (hb : DW X (.BoolOp .Or (b :: rest) pos) u) : DW X (.BoolOp .Or (a :: b :: rest) pos) (dOr t u) := by
  refine PW.imp (pw_or ha hb) fun σ H Q h => ?_
  obtain ⟨env, M, Q0, R, S, h, k⟩ := h
  refine lfT_bind R S h fun c M1 H1 q l R1 S1 => ?_
  cases c with
  | true => exact k true M1 H1 q l R1
  | false => exact lfT_bind R1 S1 q fun c2 M2 H2 q2 l2 R2 S2 => k c2 M2 H2 q2 (l.trans l2) R2
theorem dt_not {t : TDT} (ha : DT X a t) : DT X (.UnaryOp .Not a pos) (dNot t) := by
  refine PT.imp (pt_not ha) fun σ H Q h => ?_
  obtain ⟨env, M, Q0, R, S, h, k⟩ := h
  exact lfT_bind R S h fun c M1 H1 q l R1 S1 => k (!c) M1 H1 q l R1
/-! as values -/
def dAndV (t u : TD) : TD := fun env M Q => t env M fun d M1 => match d with
  | .bl true => u env M1 Q
  | .bl false => Q (.bl false) M1
  | _ => False
def dOrV (t u : TD) : TD := fun env M Q => t env M fun d M1 => match d with
  | .bl true => Q (.bl true) M1
  | .bl false => u env M1 Q
  | _ => False
def dNotV (t : TD) : TD := fun env M Q => t env M fun d M1 => match d with
  | .bl b => Q (.bl (!b)) M1
  | _ => False
theorem de_one {op} (ha : DE X a ta) : DE X (.BoolOp op [a] pos) ta := pe_one ha
theorem de_and {rest : List Expr} (ha : DE X a ta) (hb : DE X (.BoolOp .And (b :: rest) pos) tb) : DE X (.BoolOp .And (a :: b :: rest) pos) (dAndV ta tb) := by
  refine PE.imp (pe_and ha hb) fun σ H Q h => ?_
  obtain ⟨env, M, Q0, R, S, h, k⟩ := h
  refine lf_bind R S h fun d M1 v H1 q l R1 S1 r => ?_
  cases d with
  | bl c =>
    refine ⟨c, r, ?_⟩
    cases c with
    | true => exact lf_bind R1 S1 q fun d M2 v2 H2 q2 l2 R2 S2 r2 => k d M2 v2 H2 q2 (l.trans l2) R2 r2
    | false => exact k _ M1 _ H1 q l R1 rfl
  | _ => exact q.elim
theorem de_or {rest : List Expr} (ha : DE X a ta) (hb : DE X (.BoolOp .Or (b :: rest) pos) tb) : DE X (.BoolOp .Or (a :: b :: rest) pos) (dOrV ta tb) := by
  refine PE.imp (pe_or ha hb) fun σ H Q h => ?_
  obtain ⟨env, M, Q0, R, S, h, k⟩ := h
  refine lf_bind R S h fun d M1 v H1 q l R1 S1 r => ?_
  cases d with
  | bl c =>
    refine ⟨c, r, ?_⟩
    cases c with
    | true => exact k _ M1 _ H1 q l R1 rfl
    | false => exact lf_bind R1 S1 q fun d M2 v2 H2 q2 l2 R2 S2 r2 => k d M2 v2 H2 q2 (l.trans l2) R2 r2
  | _ => exact q.elim
theorem de_not (ha : DE X a ta) : DE X (.UnaryOp .Not a pos) (dNotV ta) := by
  refine PE.imp (pe_not ha) fun σ H Q h => ?_
  obtain ⟨env, M, Q0, R, S, h, k⟩ := h
  refine lf_bind R S h fun d M1 v H1 q l R1 S1 r => ?_
  cases d with
  | bl c => exact ⟨c, r, k _ M1 _ H1 q l R1 rfl⟩
  | _ => exact q.elim
def dNeg (t : TD) : TD := fun env M Q => t env M fun d M1 => match d with
  | .int i => Q (.int (-i)) M1
  | _ => False
theorem de_neg (ha : DE X a ta) : DE X (.UnaryOp .USub a pos) (dNeg ta) := by
  refine PE.imp (pe_un un_neg ha) fun σ H Q h => ?_
  obtain ⟨env, M, Q0, R, S, h, k⟩ := h
  refine lf_bind R S h fun d M1 v H1 q l R1 S1 r => ?_
  cases d with
  | int i => exact ⟨i, r, k _ M1 _ H1 q l R1 rfl⟩
  | _ => exact q.elim
def dIf (t : TDT) (u w : TD) : TD := fun env M Q => t env M fun b M1 => if b = true then u env M1 Q else w env M1 Q
theorem de_if {t : TDT} (hc : DT X c t) (ha : DE X a ta) (hb : DE X b tb) : DE X (.IfExp c a b pos) (dIf t ta tb) := by
  refine PE.imp (pe_ifExp hc ha hb) fun σ H Q h => ?_
  obtain ⟨env, M, Q0, R, S, h, k⟩ := h
  refine lfT_bind R S h fun c M1 H1 q l R1 S1 => ?_
  cases c with
  | true => exact lf_bind R1 S1 q fun d M2 v2 H2 q2 l2 R2 S2 r2 => k d M2 v2 H2 q2 (l.trans l2) R2 r2
  | false => exact lf_bind R1 S1 q fun d M2 v2 H2 q2 l2 R2 S2 r2 => k d M2 v2 H2 q2 (l.trans l2) R2 r2
end
end Dn

set_option Elab.async false
set_option linter.all false
set_option maxRecDepth 100000
set_option maxHeartbeats 4000000
namespace Dn
open PySem PySem.Spec L2
open PyProof.Rows hiding St
variable {P : Program} {Wd : World}

/-! ### subscripts -/
def dIx : OD := fun x y M Q => match y with
  | .int i => match x with
    | .tup ds => match atI ds i with
      | some d => Q d M
      | none => False
    | .str z => z.length ≤ LN ∧ match atI z.cps.toList i with
      | some c => Q (.str ⟨#[c]⟩) M
      | none => False
    | .ref a => match rdL M a with
      | some ds => match atI ds i with
        | some d => Q d M
        | none => False
      | none => False
    | _ => False
  | _ => False
section
variable {K : PySem.W.Frag} {mg : Str → Option Value}
theorem isDs_atI {H : Hp} {ds : List D} {vs : List V} {i : Int} {d : D} (r : IsDs K mg H ds vs) (h : atI ds i = some d) : ∃ v, atI vs i = some v ∧ IsD K mg H d v := by
  unfold atI at h ⊢
  rw [r.length]
  cases e : ixN ds.length i with
  | none => rw [e] at h; cases h
  | some j =>
    rw [e] at h
    exact r.get h
theorem sim_ix : Sim P Wd K mg dIx (rIx K) := by
  intro x y M Q0 H v w Q R rx ry h k
  unfold dIx at h
  split at h
  · rename_i i
    split at h
    · rename_i ds
      split at h
      · rename_i d e
        obtain ⟨a, xs, rfl, h1, h2⟩ := isD_tupE rx
        obtain ⟨u, h3, h4⟩ := isDs_atI h2 e
        exact .inr (.inl ⟨a, xs, i, u, rfl, ry, h1, h3, k d M u H h .refl R h4⟩)
      · exact h.elim
    · rename_i z
      obtain ⟨hz, h⟩ := h
      split at h
      · rename_i c e
        exact .inr (.inr ⟨z, i, c, rx, ry, by rw [ln_eq]; exact hz, e, k _ M _ H h .refl R rfl⟩)
      · exact h.elim
    · rename_i a
      split at h
      · rename_i ds e0
        split at h
        · rename_i d e
          obtain ⟨vs, h1, h2⟩ := rdL_sq R e0
          obtain ⟨u, h3, h4⟩ := isDs_atI h2 e
          exact .inl ⟨a, vs, i, u, rx, ry, h1, h3, k d M u H h .refl R h4⟩
        · exact h.elim
      · exact h.elim
    · exact h.elim
  · exact h.elim

/-! ### slices -/
abbrev TDO := Ev → MH → (Option Int → MH → Prop) → Prop
def dNoPart : TDO := fun _ M Q => Q none M
def dPart (t : TD) : TDO := fun env M Q => t env M fun d M1 => match d with
  | .int i => Q (some i) M1
  | _ => False
def cut (xs : List D) (lo hi : Option Int) : List D := (xs.drop (HT.sIx xs.length 0 lo)).take (HT.sIx xs.length xs.length hi - HT.sIx xs.length 0 lo)
theorem isDs_cut {H : Hp} {ds : List D} {vs : List V} (r : IsDs K mg H ds vs) (lo hi : Option Int) : IsDs K mg H (cut ds lo hi) (cutV vs lo hi) := by
  unfold cut cutV
  rw [r.length]
  exact (r.drop _).take _
theorem cut_whole {xs : List D} {lo hi : Option Int} (h : HT.sIx xs.length 0 lo = 0 ∧ HT.sIx xs.length xs.length hi = xs.length) : cut xs lo hi = xs := by
  unfold cut
  rw [h.1, h.2]
  simp
def dSl (t : TD) (l u : TDO) : TD := fun env M Q => t env M fun x M1 => l env M1 fun lo M2 => u env M2 fun hi M3 => match x with
  | .tup ds => Q (.tup (cut ds lo hi)) M3
  | .str z => z.length ≤ LN ∧ Q (.str (cutS z lo hi)) M3
  | .ref a => match rdL M3 a with
    | some ds => ∀ r, M3 r = none → Q (.ref r) (up M3 r (.lst (cut ds lo hi)))
    | none => False
  | .kls ds => ∀ r, M3 r = none → Q (.ref r) (up M3 r (.lst (cut ds lo hi)))
  | _ => False
def lfO (P : Program) (Wd : World) (K : PySem.W.Frag) (mg : Str → Option Value) (t : TDO) : TO := fun σ H Q => ∃ env M Q0, Rel P Wd K mg H M ∧ RelS K mg H env σ ∧ t env M Q0 ∧
  ∀ o M' H', Q0 o M' → TLe K H H' → Rel P Wd K mg H' M' → Q o H'
theorem lfO_bind {σ : St} {H : Hp} {t : TDO} {env : Ev} {M : MH} {Q0 : Option Int → MH → Prop} {Q : Option Int → Hp → Prop} (R : Rel P Wd K mg H M) (S : RelS K mg H env σ) (h : t env M Q0)
    (k : ∀ b M' H', Q0 b M' → TLe K H H' → Rel P Wd K mg H' M' → RelS K mg H' env σ → Q b H') : lfO P Wd K mg t σ H Q :=
  ⟨env, M, Q0, R, S, h, fun d M' H' q l R' => k d M' H' q l R' (S.le l)⟩
end
section
variable {X : Cx} {pos : Pos} {a b : Expr} {ta tb : TD}
theorem do_none : PO X none (lfO X.prog X.w X.K X.mg dNoPart) := by
  refine ⟨fun pins s σ H Q I h => ?_⟩
  obtain ⟨env, M, Q0, R, S, h, k⟩ := h
  exact po_none.run pins s σ H Q I (k none M H h .refl R)
theorem do_some (ha : DE X a ta) : PO X (some a) (lfO X.prog X.w X.K X.mg (dPart ta)) := by
  refine ⟨fun pins s σ H Q I h => ?_⟩
  obtain ⟨env, M, Q0, R, S, h, k⟩ := h
  refine (po_some ha).run pins s σ H Q I (lf_bind R S h fun d M1 v H1 q l R1 S1 r => ?_)
  cases d with
  | int i => exact ⟨i, r, k _ M1 H1 q l R1⟩
  | _ => exact q.elim
theorem de_ix (ha : DE X a ta) (hb : DE X b tb) (hs : PlainIx b) : DE X (.Subscript a b pos) (dOp dIx ta tb) :=
  PE.imp (pe_ix ix_seq ha hb hs) (op_sim sim_ix)
def rSlAll (K : PySem.W.Frag) : V → Option Int → Option Int → Hp → VK → Prop := fun x lo hi H Q => rSlA K x lo hi H Q ∨ (rSlS x lo hi H Q ∨ rSlL K x lo hi H Q)
theorem de_slice {lo hi : Option Expr} {tl th : TDO} {p2 : Pos} (ha : DE X a ta) (hl : PO X lo (lfO X.prog X.w X.K X.mg tl)) (hh : PO X hi (lfO X.prog X.w X.K X.mg th)) : DE X (.Subscript a (.Slice lo hi none p2) pos) (dSl ta tl th) := by
  refine PE.imp (pe_slice (r := rSlAll X.K) (sl_tupA.or (sl_str.or sl_list)) ha hl hh) fun σ H Q h => ?_
  obtain ⟨env, M, Q0, R, S, h, k⟩ := h
  refine lf_bind R S h fun x M1 v H1 q l R1 S1 r => ?_
  refine lfO_bind R1 S1 q fun lo M2 H2 q2 l2 R2 S2 => ?_
  refine lfO_bind R2 S2 q2 fun hi M3 H3 q3 l3 R3 S3 => ?_
  have r3 := r.le (l2.trans l3) _ _
  have l13 := (l.trans l2).trans l3
  split at q3
  · rename_i ds
    obtain ⟨p, xs, rfl, h1, h2⟩ := isD_tupE r3
    refine .inl ⟨p, xs, rfl, h1, fun hw => ?_, fun hw p hp => ?_⟩
    · rw [h2.length] at hw
      have e := cut_whole hw
      refine k _ M3 _ H3 q3 l13 R3 ?_
      rw [e]
      exact r3
    · have t1 : TLe X.K H3 (upd H3 p (.tup (cutV xs lo hi))) := tle_upd (nt_none hp)
      exact k _ M3 _ _ q3 (l13.trans t1) (rel_new R3 hp) (isD_tup (.inl (.inl upd_same)) ((isDs_cut h2 lo hi).le t1 _ _))
  · rename_i z
    exact .inr (.inl ⟨z, r3, by rw [ln_eq]; exact q3.1, k _ M3 _ H3 q3.2 l13 R3 rfl⟩)
  · rename_i p
    split at q3
    · rename_i ds e
      obtain ⟨vs, h1, h2⟩ := rdL_sq R3 e
      refine .inr (.inr ⟨p, vs, r3, h1, fun p hp => ?_⟩)
      have t1 : TLe X.K H3 (upd H3 p (.lst (cutV vs lo hi))) := tle_upd (nt_none hp)
      exact k _ _ _ _ (q3 p (rel_none R3 hp)) (l13.trans t1) (rel_upd R3 (nt_none hp) ⟨_, upd_same, (isDs_cut h2 lo hi).le t1 _ _⟩) rfl
    · exact q3.elim
  · rename_i ds
    obtain ⟨p, vs, rfl, h1, h2⟩ := (by rw [IsD] at r3; exact r3 : ∃ a xs, v = .ref a ∧ SqC X.K H3 a xs ∧ IsDs X.K X.mg H3 ds xs)
    refine .inr (.inr ⟨p, vs, rfl, h1.sq, fun p hp => ?_⟩)
    have t1 : TLe X.K H3 (upd H3 p (.lst (cutV vs lo hi))) := tle_upd (nt_none hp)
    exact k _ _ _ _ (q3 p (rel_none R3 hp)) (l13.trans t1) (rel_upd R3 (nt_none hp) ⟨_, upd_same, (isDs_cut h2 lo hi).le t1 _ _⟩) rfl
  · exact q3.elim
end

/-! ### len, list, tuple -/
abbrev F1D := D → MH → (D → MH → Prop) → Prop
/-- a call of one value -/
def dF1 (f : F1D) (t : TDs) : TD := fun env M Q => t env M fun ds M1 => match ds with
  | [x] => f x M1 Q
  | _ => False
abbrev FD := List D → MH → (D → MH → Prop) → Prop
def dF (f : FD) (t : TDs) : TD := fun env M Q => t env M fun ds M1 => f ds M1 Q
/-- f tells what r does to arguments -/
def SimC (P : Program) (Wd : World) (K : PySem.W.Frag) (mg : Str → Option Value) (f : FD) (r : List V → Hp → VK → Prop) : Prop :=
  ∀ (xs : List D) (M : MH) (Q0 : D → MH → Prop) (H : Hp) (vs : List V) (Q : VK), Rel P Wd K mg H M → IsDs K mg H xs vs → f xs M Q0 →
    (∀ d M' u H', Q0 d M' → TLe K H H' → Rel P Wd K mg H' M' → IsD K mg H' d u → Q u H') → r vs H Q
def fLen : FD := fun ds M Q => match ds with
  | [.tup xs] => Q (.int xs.length) M
  | [.str z] => z.length ≤ LN ∧ Q (.int z.length) M
  | [.ref a] => match M a with
    | some (.lst xs) => Q (.int xs.length) M
    | some (.rol xs) => Q (.int xs.length) M
    | _ => False
  | _ => False
def fList : FD := fun ds M Q => match ds with
  | [.tup xs] => ∀ r, M r = none → Q (.ref r) (up M r (.lst xs))
  | [.ref a] => match rdL M a with
    | some xs => ∀ r, M r = none → Q (.ref r) (up M r (.lst xs))
    | none => False
  | _ => False
def fTuple : FD := fun ds M Q => match ds with
  | [.tup xs] => Q (.tup xs) M
  | [.ref a] => match rdL M a with
    | some xs => Q (.tup xs) M
    | none => False
  | _ => False
section
variable {K : PySem.W.Frag} {mg : Str → Option Value} {H : Hp} {M : MH}
theorem isDs1 {d : D} {vs : List V} (h : IsDs K mg H [d] vs) : ∃ v, vs = [v] ∧ IsD K mg H d v := by
  obtain ⟨v, r, rfl, h1, h2⟩ := h.uncons
  rw [h2.eqnil]
  exact ⟨v, rfl, h1⟩
theorem isDs2 {d e : D} {vs : List V} (h : IsDs K mg H [d, e] vs) : ∃ v w, vs = [v, w] ∧ IsD K mg H d v ∧ IsD K mg H e w := by
  obtain ⟨v, r, rfl, h1, h2⟩ := h.uncons
  obtain ⟨w, rfl, h3⟩ := isDs1 h2
  exact ⟨v, w, rfl, h1, h3⟩
theorem newL (R : Rel P Wd K mg H M) {ds : List D} {vs : List V} (r : IsDs K mg H ds vs) {p : Addr} (hp : H p = none) : TLe K H (upd H p (.lst vs)) ∧ Rel P Wd K mg (upd H p (.lst vs)) (up M p (.lst ds)) :=
  have t1 : TLe K H (upd H p (.lst vs)) := tle_upd (nt_none hp)
  ⟨t1, rel_upd R (nt_none hp) ⟨_, upd_same, r.le t1 _ _⟩⟩
theorem newT (R : Rel P Wd K mg H M) {ds : List D} {vs : List V} (r : IsDs K mg H ds vs) {p : Addr} (hp : H p = none) : TLe K H (upd H p (.tup vs)) ∧ Rel P Wd K mg (upd H p (.tup vs)) M ∧ IsD K mg (upd H p (.tup vs)) (.tup ds) (.ref p) :=
  have t1 : TLe K H (upd H p (.tup vs)) := tle_upd (nt_none hp)
  ⟨t1, rel_new R hp, isD_tup (.inl (.inl upd_same)) (r.le t1 _ _)⟩
theorem rdL_lst {a : Addr} {xs : List D} (h : M a = some (.lst xs)) : rdL M a = some xs := by unfold rdL; rw [h]
theorem rdL_rol {a : Addr} {xs : List D} (h : M a = some (.rol xs)) : rdL M a = some xs := by unfold rdL; rw [h]
theorem simc_len : SimC P Wd K mg fLen (fun xs H Q => (∃ p ys, xs = [.ref p] ∧ (SqL K H p ys ∨ SqT K H p ys) ∧ Q (.int ys.length) H) ∨ (∃ z, xs = [.str z] ∧ z.length ≤ sizeLine ∧ Q (.int z.length) H)) := by
  intro xs M Q0 H vs Q R rs h k
  unfold fLen at h
  split at h
  · rename_i ds
    obtain ⟨v, rfl, r⟩ := isDs1 rs
    obtain ⟨p, ys, rfl, h1, h2⟩ := isD_tupE r
    refine .inl ⟨p, ys, rfl, .inr h1, ?_⟩
    rw [h2.length]
    exact k _ M _ H h .refl R rfl
  · rename_i z
    obtain ⟨v, rfl, r⟩ := isDs1 rs
    cases (show v = .str z from r)
    exact .inr ⟨z, rfl, by rw [ln_eq]; exact h.1, k _ M _ H h.2 .refl R rfl⟩
  · rename_i a
    obtain ⟨v, rfl, r⟩ := isDs1 rs
    cases (show v = .ref a from r)
    split at h
    · rename_i ds e
      obtain ⟨ys, h1, h2⟩ := rdL_sq R (rdL_lst e)
      refine .inl ⟨a, ys, rfl, .inl h1, ?_⟩
      rw [h2.length]
      exact k _ M _ H h .refl R rfl
    · rename_i ds e
      obtain ⟨ys, h1, h2⟩ := rdL_sq R (rdL_rol e)
      refine .inl ⟨a, ys, rfl, .inl h1, ?_⟩
      rw [h2.length]
      exact k _ M _ H h .refl R rfl
    · exact h.elim
  · exact h.elim
theorem simc_list : SimC P Wd K mg fList (fun xs H Q => ∃ p ys, xs = [.ref p] ∧ (SqL K H p ys ∨ SqT K H p ys) ∧ ∀ l, H l = none → Q (.ref l) (upd H l (.lst ys))) := by
  intro xs M Q0 H vs Q R rs h k
  unfold fList at h
  split at h
  · rename_i ds
    obtain ⟨v, rfl, r⟩ := isDs1 rs
    obtain ⟨p, ys, rfl, h1, h2⟩ := isD_tupE r
    exact ⟨p, ys, rfl, .inr h1, fun p hp => k _ _ _ _ (h p (rel_none R hp)) (newL R h2 hp).1 (newL R h2 hp).2 rfl⟩
  · rename_i a
    obtain ⟨v, rfl, r⟩ := isDs1 rs
    cases (show v = .ref a from r)
    split at h
    · rename_i ds e
      obtain ⟨ys, h1, h2⟩ := rdL_sq R e
      exact ⟨a, ys, rfl, .inl h1, fun p hp => k _ _ _ _ (h p (rel_none R hp)) (newL R h2 hp).1 (newL R h2 hp).2 rfl⟩
    · exact h.elim
  · exact h.elim
theorem simc_tuple : SimC P Wd K mg fTuple (fun xs H Q => ∃ p ys, xs = [.ref p] ∧ ((SqL K H p ys ∧ ∀ l, H l = none → Q (.ref l) (upd H l (.tup ys))) ∨ (SqT K H p ys ∧ Q (.ref p) H))) := by
  intro xs M Q0 H vs Q R rs h k
  unfold fTuple at h
  split at h
  · rename_i ds
    obtain ⟨v, rfl, r⟩ := isDs1 rs
    obtain ⟨p, ys, rfl, h1, h2⟩ := isD_tupE r
    exact ⟨p, ys, rfl, .inr ⟨h1, k _ M _ H h .refl R r⟩⟩
  · rename_i a
    obtain ⟨v, rfl, r⟩ := isDs1 rs
    cases (show v = .ref a from r)
    split at h
    · rename_i ds e
      obtain ⟨ys, h1, h2⟩ := rdL_sq R e
      exact ⟨a, ys, rfl, .inl ⟨h1, fun p hp => k _ M _ _ h (newT R h2 hp).1 (newT R h2 hp).2.1 (newT R h2 hp).2.2⟩⟩
    · exact h.elim
  · exact h.elim
end

/-! ### methods of lists -/
abbrev FM := D → List D → MH → (D → MH → Prop) → Prop
def SimM (P : Program) (Wd : World) (K : PySem.W.Frag) (mg : Str → Option Value) (f : FM) (r : V → List V → Hp → VK → Prop) : Prop :=
  ∀ (x : D) (xs : List D) (M : MH) (Q0 : D → MH → Prop) (H : Hp) (v : V) (vs : List V) (Q : VK), Rel P Wd K mg H M → IsD K mg H x v → IsDs K mg H xs vs → f x xs M Q0 →
    (∀ d M' u H', Q0 d M' → TLe K H H' → Rel P Wd K mg H' M' → IsD K mg H' d u → Q u H') → r v vs H Q
def isLst : D → MH → Prop := fun x M => match x with
  | .ref a => ∃ xs, M a = some (.lst xs)
  | _ => False
def dMt (ty : D → MH → Prop) (f : FM) (to : TD) (t : TDs) : TD := fun env M Q => to env M fun x M1 => ty x M1 ∧ t env M1 fun ds M2 => f x ds M2 Q
def onL (f : Addr → List D → List D → MH → (D → MH → Prop) → Prop) : FM := fun x ds M Q => match x with
  | .ref a => match M a with
    | some (.lst xs) => f a xs ds M Q
    | _ => False
  | _ => False
def mAppend : FM := onL fun a xs ds M Q => match ds with
  | [y] => xs.length < LN ∧ Q .non (up M a (.lst (xs ++ [y])))
  | _ => False
def mPop : FM := onL fun a xs ds M Q => match ds with
  | [] => match xs[xs.length - 1]? with
    | some y => Q y (up M a (.lst xs.dropLast))
    | none => False
  | [.int i] => (-(2 ^ 63) ≤ i ∧ i < 2 ^ 63) ∧ match seqIndex? i xs.length with
    | some k => match xs[k]? with
      | some y => Q y (up M a (.lst (xs.eraseIdx k)))
      | none => False
    | none => False
  | _ => False
def mInsert : FM := onL fun a xs ds M Q => match ds with
  | [.int i, y] => (xs.length < LN ∧ 0 ≤ i ∧ i < 2 ^ 63) ∧ Q .non (up M a (.lst (xs.take i.toNat ++ [y] ++ xs.drop i.toNat)))
  | _ => False
def mExtend : FM := onL fun a xs ds M Q => match ds with
  | [.tup ys] => xs.length + ys.length ≤ LN ∧ Q .non (up M a (.lst (xs ++ ys)))
  | [.ref b] => match M b with
    | some (.lst ys) => xs.length + ys.length ≤ LN ∧ Q .non (up M a (.lst (xs ++ ys)))
    | _ => False
  | _ => False
/-- an extension by a tuple -/
theorem ext_any (l : Addr) (items : Array Value) (n : Nat) (b : Addr) (items2 : Array Value) (n2 : Nat) (sl : Array (Option Value)) (dd : Option Addr) (h0 : ¬(!items.isEmpty && Builtin.List.listTooLong (items.size + items2.size)) = true) (h1 : items.size ≤ sizeLine) (h2 : items.size + items2.size ≤ sizeLine + 1) :
    Meets (Builtin.«list.extend» ⟨[.ref l, .ref b], []⟩) (fun _ R s => s.heap.get? l = some { cls := .type "list", dict := none, data := .seq items n, slots := #[] } ∧ s.heap.get? b = some { cls := .type "tuple", dict := dd, data := .seq items2 n2, slots := sl } ∧
      R (.ok (.ret Value.none)) { s with heap := s.heap.update l (Obj.mapSeq fun x => x ++ items2), toks := s.toks }) :=
  .of_wp fun prog w A R s h => by
    obtain ⟨hp, g, d, tk, os⟩ := s
    obtain ⟨hl, hb, h⟩ := h
    have f1 := AutoSeq1.idx_int
    have f2 := AutoSeq1.sub_tuple_tuple
    have f3 := AutoSeq1.sub_list_list
    have f4 := AutoSeq1.sub_tuple_list
    have f5 := AutoSeq1.sub_list_tuple
    have hz : (items ++ items2).size ≤ sizeLine + 1 := by rw [Array.size_append]; exact h2
    wp_walk using (wpAny_updateSeq hl rfl (hz := h1) (_hz' := hz)), AutoSeq1.wpAny_loadPart' hl, AutoSeq1.wpAny_loadPart' hb
    exact ⟨_, rfl, h⟩
def rExtT (K : PySem.W.Frag) : V → List V → Hp → VK → Prop := fun x vs H Q => ∃ l b xs zs, x = .ref l ∧ vs = [.ref b] ∧ H l = some (.lst xs) ∧ SqT K H b zs ∧ xs.length + zs.length ≤ sizeLine ∧ Q .non (upd H l (.lst (xs ++ zs)))
theorem mt_extT {X : Cx} : MtR X "list.extend" (rExtT X.K) := by
  intro pins s σ H x xs v us Q I rx rv h
  obtain ⟨l, b, xs, zs, rfl, rfl, hH, hB, hz, q⟩ := h
  cases rx
  obtain ⟨u, rfl, ru⟩ := vals1 rv
  cases ru
  obtain ⟨z, its, n, r, hl, e⟩ := I.lstM hH
  obtain ⟨its2, r2, p2, hz2⟩ := I.tuple hB
  obtain ⟨⟨cls2, dd2, data2, sl2⟩, ho2, hc2, n2, hd2⟩ := id p2
  simp only at hc2 hd2
  subst hc2 hd2
  have hl2 := r2.length
  have hsz : its.toArray.size + its2.toArray.size ≤ sizeLine := by rw [List.size_toArray, List.size_toArray]; omega
  have hlong : ¬ (!its.toArray.isEmpty && Builtin.List.listTooLong (its.toArray.size + its2.toArray.size)) = true := by
    rw [notLongL hsz, Bool.and_false]
    exact Bool.false_ne_true
  refine call_meets F.slot_list_extend ⟨_, e, rfl⟩ F.entry_list_extend (F.args_list_extend_2 _ _)
    (ext_any l its.toArray n b its2.toArray n2 sl2 dd2 hlong (by rw [List.size_toArray]; omega) (by omega)) ⟨e, ho2, ?_⟩
  refine ⟨.non, _, I.lset (its' := its ++ its2) hH e (by simp) (r.append r2) ?_, rfl, q⟩
  rw [List.length_append]
  omega
section
variable {K : PySem.W.Frag} {mg : Str → Option Value}
theorem onL_imp {f : Addr → List D → List D → MH → (D → MH → Prop) → Prop} {r : V → List V → Hp → VK → Prop}
    (w : ∀ a xs ds M Q0 H ys vs Q, Rel P Wd K mg H M → M a = some (.lst xs) → H a = some (.lst ys) → IsDs K mg H xs ys → IsDs K mg H ds vs → f a xs ds M Q0 →
      (∀ d M' u H', Q0 d M' → TLe K H H' → Rel P Wd K mg H' M' → IsD K mg H' d u → Q u H') → r (.ref a) vs H Q) : SimM P Wd K mg (onL f) r := by
  intro x ds M Q0 H v vs Q R rx rs h k
  unfold onL at h
  split at h
  · rename_i a
    cases (show v = .ref a from rx)
    split at h
    · rename_i xs e
      obtain ⟨ys, h1, h2⟩ := R a _ e
      exact w a xs ds M Q0 H ys vs Q R e h1 h2 rs h k
    · exact h.elim
  · exact h.elim
/-- a list rewritten -/
theorem setL {H : Hp} {M : MH} {a : Addr} {xs : List V} {ds : List D} {vs : List V} (R : Rel P Wd K mg H M) (h1 : H a = some (.lst xs)) (r : IsDs K mg H ds vs) : TLe K H (upd H a (.lst vs)) ∧ Rel P Wd K mg (upd H a (.lst vs)) (up M a (.lst ds)) :=
  have nt : NoTup (H a) := by rw [h1]; trivial
  have t1 : TLe K H (upd H a (.lst vs)) := tle_upd nt
  ⟨t1, rel_upd R nt ⟨_, upd_same, r.le t1 _ _⟩⟩
theorem simm_append : SimM P Wd K mg mAppend rAppend := onL_imp fun a xs ds M Q0 H ys vs Q R e h1 h2 rs h k => by
  split at h
  · rename_i y
    obtain ⟨v, rfl, r⟩ := isDs1 rs
    have z := setL R h1 (h2.append (.cons r .nil))
    exact ⟨a, ys, v, rfl, rfl, h1, by rw [ln_eq, h2.length]; exact h.1, k _ _ _ _ h.2 z.1 z.2 rfl⟩
  · exact h.elim
theorem simm_insert : SimM P Wd K mg mInsert (fun x vs H Q => ∃ (l : Addr) (xs : List V) (i : Int) (y : V), x = .ref l ∧ vs = [.int i, y] ∧ H l = some (.lst xs) ∧ xs.length < sizeLine ∧ 0 ≤ i ∧ i < 2 ^ 63 ∧
    Q .non (upd H l (.lst (xs.take i.toNat ++ [y] ++ xs.drop i.toNat)))) := onL_imp fun a xs ds M Q0 H ys vs Q R e h1 h2 rs h k => by
  split at h
  · rename_i i y
    obtain ⟨v, w, rfl, r, r'⟩ := isDs2 rs
    cases (show v = .int i from r)
    have z := setL R h1 (((h2.take i.toNat).append (.cons r' .nil)).append (h2.drop i.toNat))
    exact ⟨a, ys, i, w, rfl, rfl, h1, by rw [ln_eq, h2.length]; exact h.1.1, h.1.2.1, h.1.2.2, k _ _ _ _ h.2 z.1 z.2 rfl⟩
  · exact h.elim
theorem simm_extend : SimM P Wd K mg mExtend (fun x vs H Q => rExtend x vs H Q ∨ rExtT K x vs H Q) := onL_imp fun a xs ds M Q0 H ys vs Q R e h1 h2 rs h k => by
  split at h
  · rename_i zs
    obtain ⟨v, rfl, r⟩ := isDs1 rs
    obtain ⟨p, us, rfl, h3, h4⟩ := isD_tupE r
    have z := setL R h1 (h2.append h4)
    exact .inr ⟨a, p, ys, us, rfl, rfl, h1, h3, by rw [ln_eq, h2.length, h4.length]; exact h.1, k _ _ _ _ h.2 z.1 z.2 rfl⟩
  · rename_i b
    obtain ⟨v, rfl, r⟩ := isDs1 rs
    cases (show v = .ref b from r)
    split at h
    · rename_i zs e2
      obtain ⟨us, h3, h4⟩ := R b _ e2
      have z := setL R h1 (h2.append h4)
      exact .inl ⟨a, b, ys, us, rfl, rfl, h1, h3, by rw [ln_eq, h2.length, h4.length]; exact h.1, k _ _ _ _ h.2 z.1 z.2 rfl⟩
    · exact h.elim
  · exact h.elim
theorem IsDs.dropLast {H : Hp} {ds : List D} {vs : List V} (h : IsDs K mg H ds vs) : IsDs K mg H ds.dropLast vs.dropLast := by
  rw [List.dropLast_eq_take, List.dropLast_eq_take, h.length]
  exact h.take _
theorem IsDs.eraseIdx {H : Hp} {ds : List D} {vs : List V} (h : IsDs K mg H ds vs) (i : Nat) : IsDs K mg H (ds.eraseIdx i) (vs.eraseIdx i) := by
  rw [List.eraseIdx_eq_take_drop_succ, List.eraseIdx_eq_take_drop_succ]
  exact (h.take _).append (h.drop _)
theorem simm_pop : SimM P Wd K mg mPop (fun x vs H Q => rPop x vs H Q ∨ rPopAt x vs H Q) := onL_imp fun a xs ds M Q0 H ys vs Q R e h1 h2 rs h k => by
  split at h
  · cases rs.eqnil
    split at h
    · rename_i y e2
      obtain ⟨v, h3, h4⟩ := h2.get e2
      have z := setL R h1 h2.dropLast
      exact .inl ⟨a, ys, v, rfl, rfl, h1, by rw [h2.length]; exact h3, k _ _ _ _ h z.1 z.2 (h4.le z.1 _ _)⟩
    · exact h.elim
  · rename_i i
    obtain ⟨v, rfl, r⟩ := isDs1 rs
    cases (show v = .int i from r)
    obtain ⟨⟨g1, g2⟩, h⟩ := h
    split at h
    · rename_i j e2
      split at h
      · rename_i y e3
        obtain ⟨v, h3, h4⟩ := h2.get e3
        have z := setL R h1 (h2.eraseIdx j)
        exact .inr ⟨a, ys, i, j, v, rfl, rfl, h1, g1, g2, by rw [h2.length]; exact e2, h3, k _ _ _ _ h z.1 z.2 (h4.le z.1 _ _)⟩
      · exact h.elim
    · exact h.elim
  · exact h.elim
theorem isLst_ty {H : Hp} {M : MH} {x : D} {v : V} (R : Rel P Wd K mg H M) (r : IsD K mg H x v) (h : isLst x M) : tyV K "list" v H := by
  unfold isLst at h
  split at h
  · rename_i a
    cases (show v = .ref a from r)
    obtain ⟨xs, e⟩ := h
    obtain ⟨ys, h1, h2⟩ := R a _ e
    exact .inl ⟨rfl, ys, .inl (.inl h1)⟩
  · exact h.elim
end
section
variable {X : Cx} {o e : Expr} {es : List Expr} {to : TD} {t : TDs} {name : Str} {apos cpos : Pos} {id : String} {r : V → List V → Hp → VK → Prop} {f : FM}
theorem de_mt0 (slot : Slot "list" name id) (hty : typeOf (.builtin id) = pure (.type "method_descriptor")) (hm : MtR X id r) (sm : SimM X.prog X.w X.K X.mg f r) (ho : DE X o to)
    (hbase : attributeBase o name X.env (eval o X.env) = eval o X.env) (hline : (apos.endLine == cpos.line) = true) : DE X (.Call (.Attribute o name apos) [] [] cpos) (dMt isLst f to dNil) := by
  refine PE.imp (pe_bm0 PySem.F.plainAttrs_list slot hty hm ho hbase hline) fun σ H Q h => ?_
  obtain ⟨env, M, Q0, R, S, h, k⟩ := h
  refine lf_bind R S h fun x M1 v H1 q l R1 S1 r => ⟨isLst_ty R1 r q.1, ?_⟩
  exact sm x [] M1 Q0 H1 v [] Q R1 r .nil q.2 fun d M' u H' q3 l3 R3 r3 => k d M' u H' q3 (l.trans l3) R3 r3
theorem de_mt (slot : Slot "list" name id) (hty : typeOf (.builtin id) = pure (.type "method_descriptor")) (hm : MtR X id r) (sm : SimM X.prog X.w X.K X.mg f r) (ho : DE X o to) (ha : DA X (e :: es) t)
    (hbase : attributeBase o name X.env (eval o X.env) = eval o X.env)
    (hfew : ((backTo cpos (starEach (e :: es) X.env)).all (fun x => !x.1) && (backToKw cpos (keywordEach [] X.env)).all (fun x => x.1.isSome)
      && decide ((e :: es).length + ([] : List Keyword).length + (if ([] : List Keyword).isEmpty then 0 else 1) < 30)) = true)
    (hline : (apos.endLine == cpos.line) = true) (hs : starEach (e :: es) X.env = (false, eval e X.env) :: starEach es X.env) (hplain : (backTo cpos (starEach es X.env)).any (·.1) = false) :
    DE X (.Call (.Attribute o name apos) (e :: es) [] cpos) (dMt isLst f to t) := by
  refine PE.imp (pe_bm PySem.F.plainAttrs_list slot hty hm ho ha hbase hfew hline hs hplain) fun σ H Q h => ?_
  obtain ⟨env, M, Q0, R, S, h, k⟩ := h
  refine lf_bind R S h fun x M1 v H1 q l R1 S1 r => ⟨isLst_ty R1 r q.1, ?_⟩
  refine lfA_bind R1 S1 q.2 fun ds M2 vs H2 q2 l2 R2 S2 r2 => ?_
  exact sm x ds M2 Q0 H2 v vs Q R2 (r.le l2 _ _) r2 q2 fun d M' u H' q3 l3 R3 r3 => k d M' u H' q3 ((l.trans l2).trans l3) R3 r3
end
end Dn

set_option Elab.async false
set_option linter.all false
set_option maxRecDepth 100000
set_option maxHeartbeats 4000000
namespace Dn
open PySem PySem.Spec L2
open PyProof.Rows hiding St
variable {P : Program} {Wd : World}

/-! ### enumerate(tuple) -/
section
set_option maxHeartbeats 1000000 in
theorem enumNewB {v : Value} {o : Obj} {Hh : Heap → Prop} (B : Begins v o Hh) :
    Meets (Builtin.«enumerate.__new__» ⟨[.type "enumerate", v], []⟩) (fun _ R s => Hh s.heap ∧
      R (.ok (.ret (.ref (s.heap.push o).objs.size))) { s with heap := (s.heap.push o).push { cls := .type "enumerate", data := .fields #[.none, .bool false, .ref s.heap.objs.size, rawInt 0, .none, .none] } }) :=
  .of_wp fun prog w A R s h => by
    obtain ⟨hp, g, d, tk, os⟩ := s
    obtain ⟨h1, h⟩ := h
    have hsub := sub_enumerate
    have q1 : ∀ {A' : Around} {E : Value → Shared → Prop} {Q : Value → Shared → Prop}, Q (.ref hp.objs.size) ⟨hp.push o, g, d, tk, os⟩ → wpAny (model prog w) A' (pyIter v) Q E ⟨hp, g, d, tk, os⟩ :=
      fun q => B.iter prog w _ _ ⟨hp, g, d, tk, os⟩ _ h1 q
    wp_walk using q1
    refine wpAny_stack_any fun st => wpAny_pure ?_
    split
    · rename_i c _ _ _ _ _
      cases (c == Value.type "enumerate")
      · wp_walk using q1
        exact ⟨_, rfl, h⟩
      · wp_walk using q1
        exact ⟨_, rfl, h⟩
    · wp_walk using q1
      exact ⟨_, rfl, h⟩
theorem callEnumB {prog : Program} {w : World} {A : Around} {E : Value → Shared → Prop} {s : Shared} {v : Value} {o : Obj} {Hh : Heap → Prop} {Q : Value → Shared → Prop} (B : Begins v o Hh) (h1 : Hh s.heap)
    (ha : checkTypeCall "enumerate" ⟨[v], []⟩ = pure ()) (hb : checkBuiltinCall "enumerate.__new__" ⟨[.type "enumerate", v], []⟩ = pure ())
    (h : ∀ h', IsEnum h' (s.heap.objs.size + 1) s.heap.objs.size 0 .none → h'.get? s.heap.objs.size = some o → h'.objs.size = s.heap.objs.size + 2 →
      (∀ b o, s.heap.get? b = some o → h'.get? b = some o) → Q (.ref (s.heap.objs.size + 1)) { s with heap := h' }) :
    wpAny (model prog w) A (call (.type "enumerate") [v]) Q E s := by
  refine callType_new F.called_enumerate (by decide) ha hb (fun obj => F.args_object_init_2 obj _) F.entry_enumerate_new (enumNewB B) ⟨h1, ?_⟩
  have hz : (s.heap.push o).objs.size = s.heap.objs.size + 1 := Heap.size_push ..
  show _ ∧ _
  rw [hz]
  have he : IsEnum ((s.heap.push o).push { cls := .type "enumerate", data := .fields #[.none, .bool false, .ref s.heap.objs.size, rawInt 0, .none, .none] }) (s.heap.objs.size + 1) s.heap.objs.size 0 .none := by
    have := Heap.get?_push_size (s.heap.push o) (o := { cls := .type "enumerate", data := .fields #[.none, .bool false, .ref s.heap.objs.size, rawInt 0, .none, .none] }) rfl
    rw [hz] at this
    exact this
  exact ⟨⟨_, he, rfl⟩, h _ he (Heap.get?_push_of_some _ (Heap.get?_push_size _ B.free)) (by rw [Heap.size_push, hz]) fun b o x => Heap.get?_push_of_some _ (Heap.get?_push_of_some _ x)⟩
def IteT (K : PySem.W.Frag) (a : Addr) : It :=
  ⟨fun i H => ∃ (xs : List V) (x : V), SqT K H a xs ∧ xs[i]? = some x, fun i H v H' => ∃ T x, v = .ref T ∧ H T = none ∧ H' = upd H T (.tup [.int (i : Nat), x]) ∧ ∀ xs, SqT K H a xs → xs[i]? = some x, fun i H => ∃ xs : List V, SqT K H a xs ∧ xs.length ≤ i⟩
theorem turn_enumT {P : Program} {w : World} {K : PySem.W.Frag} {elts : List Expr} {kk : Nat} {tpos : Pos} (a e it : Addr) :
    Turn P w K (.Tuple elts kk tpos) (IteT K a) [e, it] e (fun i h => (∃ old, IsEnum h e it ((i : Nat) : Int) old) ∧ h.IsTupleIter it a i ∧ e ≠ it) where
  mem := by simp
  obj := fun i h st b hb => by
    obtain ⟨⟨old, he⟩, ⟨o, ho, hc, hd⟩, _⟩ := st
    have e' : b = e ∨ b = it := by simpa using hb
    rcases e' with z | z
    · rw [z]; exact ⟨_, he, fun v q => nomatch q⟩
    · rw [z]; exact ⟨o, ho, fun v q => by rw [hd] at q; cases q⟩
  keep := fun i h h' st k => let ⟨⟨old, he⟩, hi, hne⟩ := st; ⟨⟨old, k e (by simp) _ he⟩, hi.at fun o q => k it (by simp) o q, hne⟩
  item := by
    intro X hP hw hK hc i pins s σ H E I hf st hg
    subst hP hw hK
    obtain ⟨⟨old, he⟩, hit, hne⟩ := st
    obtain ⟨xs, x, hq, hx⟩ := hg
    obtain ⟨its, rv, p, hz⟩ := I.tuple hq
    obtain ⟨u, hu, ru⟩ := rv.get hx
    have hel : e < s.heap.objs.size := Heap.lt_size he
    have hil : it < s.heap.objs.size := by obtain ⟨_, q, _⟩ := hit; exact Heap.lt_size q
    have p' : s.heap.IsTuple a its.toArray := p
    have hat : a ≠ it := by
      rintro rfl
      obtain ⟨o1, h1, c1, _⟩ := p'
      obtain ⟨o2, h2, c2, _⟩ := id hit
      rw [h1] at h2; cases h2
      rw [c1] at c2
      exact absurd c2 (by decide)
    have hae : e ≠ a := by
      rintro rfl
      obtain ⟨o1, h1, c1, _⟩ := p'
      have he' : s.heap.get? e = some _ := he
      rw [h1] at he'; cases he'
      exact absurd c1 (show ¬ (Value.type "enumerate" = Value.type "tuple") by decide)
    have hlt : i < its.toArray.size := by
      have := (List.getElem?_eq_some_iff.mp hu).1
      simpa using this
    have hh : X.A.in1.handled = none := I.ok.hd hc
    refine wpAny_pyNext_enum_itemD (Draws.tuple hh it a hat its.toArray) he ⟨hit, p'⟩ hlt hne (by simp [hne, hae]) fun y h' tk hy ho hit' hT hsz hk => ?_
    have hyu : y = u := by
      have h1 : its[i]? = some y := by simpa using hy
      rw [hu] at h1; cases h1; rfl
    subst hyu
    refine ⟨_, rfl, wpAny_letOwnedTupleGo_enum (s := { s with heap := h', toks := tk + 1 }) ho fun h'' he' sb => ?_⟩
    have hT2 : h''.get? s.heap.objs.size = some { cls := .type "tuple", data := .seq #[.int i tk, y] } := (sb.2 _ (Nat.ne_of_gt hel)).trans hT
    have new : ObjOk X.prog X.w (upd H s.heap.objs.size (.tup [.int (i : Nat), x])) h'' s.heap.objs.size (.tup [.int (i : Nat), x]) :=
      ⟨by show 2 ≤ sizeLine; decide, [.int i tk, y], .cons ⟨_, rfl⟩ (.cons ru .nil), ⟨_, hT2, rfl, _, rfl⟩⟩
    have I1 : Inv X pins σ (upd H s.heap.objs.size (.tup [.int (i : Nat), x])) { s with heap := h'', toks := tk + 1 } :=
      I.turnedNew (ch := [e, it]) (fun b ob hb q => (sb.2 b (fun z => hb (by simp [z]))).trans (hk b ob (fun z => hb (by simp [z])) (fun z => hb (by simp [z])) q)) hf (Nat.le_refl _) new
    refine ⟨.ref s.heap.objs.size, _, I1, rfl, ⟨_, x, rfl, I.hok.fresh (Nat.le_refl _), rfl, fun ys hy => by rw [I.tuple_inj hy hq]; exact hx⟩, ⟨⟨y, ?_⟩, hit'.1.at fun o q => (sb.2 it (Ne.symm hne)).trans q, hne⟩, fun b hb => ?_⟩
    · have e1 : ((i + 1 : Nat) : Int) = (i : Int) + 1 := by omega
      rw [e1]; exact he'
    · have hb' : b < s.heap.objs.size := by
        have e' : b = e ∨ b = it := by simpa using hb
        rcases e' with z | z
        · rw [z]; exact hel
        · rw [z]; exact hil
      rw [upd_ne (Nat.ne_of_lt hb')]
      exact (hf b hb).1
  done := by
    intro X hP hw hK hc i pins s σ H E I hf st hg
    subst hP hw hK
    obtain ⟨⟨old, he⟩, hit, hne⟩ := st
    obtain ⟨xs, hq, hx⟩ := hg
    obtain ⟨its, rv, p, hz⟩ := I.tuple hq
    obtain ⟨f0, f1, f2, f3, f4, f5⟩ := hf it (by simp)
    have hl := rv.length
    have p' : s.heap.IsTuple a its.toArray := p
    have hT : s.TypeIs (.ref e) "enumerate" := ⟨_, he, rfl⟩
    have hh : X.A.in1.handled = none := I.ok.hd hc
    unfold pyNext
    refine wpAny_bind (wpAny_attempt (wpAny_callSpecial?_slot (name := Str.ofString "__next__") hT F.slot_enumerate_next
      (wpAny_call_entry F.slot_enumerate_next hT F.entry_enumerate_next ?_ (F.args_enumerate_next_1 _))))
    show wpAny _ _ (field (.ref e) 2 >>= _) _ _ _
    refine wpAny_bind (wpAny_field he rfl (x := .ref it) rfl ?_)
    refine wpAny_bind (wpAny_nextOf_tuple_end hh hit p' (by simp; omega) fun h' x he' hx' => ?_)
    obtain ⟨o, ho, hc'⟩ := hx'
    refine wpAny_bind (wpAny_isInstance (T := "StopIteration") (b := true) ⟨o, ho, hc'⟩ isSubtype_stop ?_)
    exact wpAny_pure ⟨rfl, I.turned (t' := s.toks) (fun b o hb q => he' b o hb q) f0 f1 f3 f4 f5⟩
  self := fun A i s Q E st h => let ⟨⟨_, he⟩, _⟩ := st; wpAny_pyIter_enum he h
end
def iEnumA (K : PySem.W.Frag) (ta : TA) : TI := fun σ H R => ta σ H fun vs H1 => ∃ a xs, vs = [.ref a] ∧ ((SqL K H1 a xs ∧ R (Ite K a) H1) ∨ (SqT K H1 a xs ∧ R (IteT K a) H1))
theorem pi_enumA {X : Cx} {e : Expr} {ta : TA} {p pos tpos : Pos} {elts : List Expr} {kk : Nat} (hg : Gl X "enumerate") (hm : X.mg "enumerate" = none) (ha : PA X [e] ta) (hs : starEach [e] X.env = [(false, eval e X.env)]) :
    PI X (.Tuple elts kk tpos) (.Call (.Name "enumerate" p) [e] [] pos) (iEnumA X.K ta) := by
  refine ⟨fun pins s σ H R I h => ?_⟩
  refine Call_ (ld_blt I hg hm boot_enumerate (PyProof.Rows.callWith_type1 (thn (ha.run pos pins s σ H _ I h) fun us s1 ⟨vs, H1, I1, r1, q1⟩ => ?_) hs rfl))
  obtain ⟨a, xs, ex, q⟩ := q1
  subst ex
  obtain ⟨u, rfl, ru⟩ := vals1 r1
  cases ru
  have fpk : ∀ b ∈ [s1.heap.objs.size + 1, s1.heap.objs.size], FpOk X pins H1 b := fun b hb => by
    have e' : b = s1.heap.objs.size + 1 ∨ b = s1.heap.objs.size := by simpa using hb
    have hle : s1.heap.objs.size ≤ b := by omega
    exact I1.fpOk hle (I1.hok.fresh hle)
  rcases q with ⟨hq, q⟩ | ⟨hq, q⟩
  · obtain ⟨its, rv, p', hz⟩ := I1.list hq
    refine call_enumerate_list p'.isList fun h' he hit hsz hk => wpAny_pyIter_enum he ?_
    have I2 : Inv X pins σ H1 { s1 with heap := h' } := I1.kept (t' := s1.toks) hk
    exact ⟨s1.heap.objs.size + 1, [s1.heap.objs.size + 1, s1.heap.objs.size], _, _, H1, rfl, I2, turn_enum a (s1.heap.objs.size + 1) s1.heap.objs.size, ⟨⟨.none, he⟩, hit, Nat.succ_ne_self _⟩, fpk, q⟩
  · obtain ⟨its, rv, p', hz⟩ := I1.tuple hq
    refine callEnumB (begins_tuple a its.toArray) p' (F.typeCall_enumerate_1 _) (F.newCall_enumerate_1 _) fun h' he ho hsz hk => wpAny_pyIter_enum he ?_
    have I2 : Inv X pins σ H1 { s1 with heap := h' } := I1.kept (t' := s1.toks) hk
    exact ⟨s1.heap.objs.size + 1, [s1.heap.objs.size + 1, s1.heap.objs.size], _, _, H1, rfl, I2, turn_enumT a (s1.heap.objs.size + 1) s1.heap.objs.size, ⟨⟨.none, he⟩, ⟨_, ho, rfl, rfl⟩, Nat.succ_ne_self _⟩, fpk, q⟩
end Dn

set_option Elab.async false
set_option linter.all false
set_option maxRecDepth 100000
set_option maxHeartbeats 4000000
namespace Dn
open PySem PySem.Spec L2
open PyProof.Rows hiding St
variable {P : Program} {Wd : World}

/-! ### targets: names and tuples of names -/
mutual
inductive Pat where
  | nm (i : Nat)
  | tp (ps : Pats)
inductive Pats where
  | nil
  | cons (p : Pat) (ps : Pats)
end
def Pats.len : Pats → Nat
  | .nil => 0
  | .cons _ ps => ps.len + 1
mutual
def Pat.within (vs : List Nat) : Pat → Bool
  | .nm i => vs.contains i
  | .tp ps => ps.within vs
def Pats.within (vs : List Nat) : Pats → Bool
  | .nil => true
  | .cons p ps => p.within vs && ps.within vs
end
mutual
def bindP : Pat → D → Ev → Option Ev
  | .nm i, d, env => some (env.set i (some d))
  | .tp ps, .tup ds, env => bindPs ps ds env
  | .tp _, _, _ => none
def bindPs : Pats → List D → Ev → Option Ev
  | .nil, [], env => some env
  | .cons p ps, d :: ds, env => match bindP p d env with
    | some env1 => bindPs ps ds env1
    | none => none
  | _, _, _ => none
end
mutual
def gPat (K : PySem.W.Frag) : Pat → TG
  | .nm i => gName i
  | .tp ps => gTup K ps.len (gPats K ps)
def gPats (K : PySem.W.Frag) : Pats → TGs
  | .nil => gNil
  | .cons p ps => gCons (gPat K p) (gPats K ps)
end
theorem wipe_set (σ : St) (i : Nat) (x : Option V) : ∀ vs : List Nat, wipe (σ.set i x) vs = if i ∈ vs then wipe σ vs else (wipe σ vs).set i x
  | [] => by simp [wipe]
  | v :: vs => by
    have ih := wipe_set σ i x vs
    unfold wipe
    rw [ih]
    by_cases h : i ∈ vs
    · rw [if_pos h, if_pos (List.mem_cons_of_mem _ h)]
    · rw [if_neg h]
      by_cases e : i = v
      · subst e
        rw [if_pos List.mem_cons_self, List.set_set]
      · rw [if_neg (by simp [e, h]), List.set_comm _ _ e]
section
variable {K : PySem.W.Frag} {mg : Str → Option Value} {H : Hp}
mutual
theorem gPat_ok : ∀ (p : Pat) (d : D) (v : V) (env env' : Ev) (σ : St) (Q : St → Hp → Prop), RelS K mg H env σ → IsD K mg H d v → bindP p d env = some env' →
    (∀ σ', RelS K mg H env' σ' → (∀ vs, p.within vs = true → wipe σ' vs = wipe σ vs) → Q σ' H) → gPat K p v σ H Q
  | .nm i, d, v, env, env', σ, Q, S, r, e, k => by
    simp only [bindP, Option.some.injEq] at e
    subst e
    refine k _ (S.set r i) fun vs h => ?_
    rw [wipe_set, if_pos (by simpa [Pat.within] using h)]
  | .tp ps, .tup ds, v, env, env', σ, Q, S, r, e, k => by
    obtain ⟨a, xs, rfl, h1, h2⟩ := (by rw [IsD] at r; exact r : ∃ a xs, v = .ref a ∧ SqT K H a xs ∧ IsDs K mg H ds xs)
    rw [bindP] at e
    refine ⟨a, xs, rfl, h1, ?_, gPats_ok ps ds xs env env' σ Q S h2 e fun σ' S' w => k σ' S' fun vs h => w vs (by simpa [Pat.within] using h)⟩
    rw [h2.length]
    exact bindPs_len ps ds env env' e
  | .tp _, .non, _, _, _, _, _, _, _, e, _ => by simp [bindP] at e
  | .tp _, .bl _, _, _, _, _, _, _, _, e, _ => by simp [bindP] at e
  | .tp _, .int _, _, _, _, _, _, _, _, e, _ => by simp [bindP] at e
  | .tp _, .str _, _, _, _, _, _, _, _, e, _ => by simp [bindP] at e
  | .tp _, .ref _, _, _, _, _, _, _, _, e, _ => by simp [bindP] at e
  | .tp _, .fn _, _, _, _, _, _, _, _, e, _ => by simp [bindP] at e
  | .tp _, .kls _, _, _, _, _, _, _, _, e, _ => by simp [bindP] at e
theorem gPats_ok : ∀ (ps : Pats) (ds : List D) (vs : List V) (env env' : Ev) (σ : St) (Q : St → Hp → Prop), RelS K mg H env σ → IsDs K mg H ds vs → bindPs ps ds env = some env' →
    (∀ σ', RelS K mg H env' σ' → (∀ ws, ps.within ws = true → wipe σ' ws = wipe σ ws) → Q σ' H) → gPats K ps vs σ H Q
  | .nil, [], vs, env, env', σ, Q, S, r, e, k => by
    simp only [bindPs, Option.some.injEq] at e
    subst e
    exact ⟨r.eqnil, k σ S fun _ _ => rfl⟩
  | .cons p ps, d :: ds, vs, env, env', σ, Q, S, r, e, k => by
    obtain ⟨v, t, rfl, h1, h2⟩ := r.uncons
    rw [bindPs] at e
    cases e1 : bindP p d env with
    | none => rw [e1] at e; cases e
    | some env1 =>
      rw [e1] at e
      refine ⟨v, t, rfl, gPat_ok p d v env env1 σ _ S h1 e1 fun σ1 S1 w1 => gPats_ok ps ds t env1 env' σ1 Q S1 h2 e fun σ2 S2 w2 => k σ2 S2 fun ws h => ?_⟩
      rw [Pats.within, Bool.and_eq_true] at h
      rw [w2 ws h.2, w1 ws h.1]
  | .nil, _ :: _, _, _, _, _, _, _, _, e, _ => by simp [bindPs] at e
  | .cons _ _, [], _, _, _, _, _, _, _, e, _ => by simp [bindPs] at e
theorem bindPs_len : ∀ (ps : Pats) (ds : List D) (env env' : Ev), bindPs ps ds env = some env' → ds.length = ps.len
  | .nil, [], _, _, _ => rfl
  | .cons p ps, d :: ds, env, env', e => by
    rw [bindPs] at e
    cases e1 : bindP p d env with
    | none => rw [e1] at e; cases e
    | some env1 =>
      rw [e1] at e
      rw [List.length_cons, Pats.len, bindPs_len ps ds env1 env' e]
  | .nil, _ :: _, _, _, e => by simp [bindPs] at e
  | .cons _ _, [], _, _, e => by simp [bindPs] at e
end
end

/-! ### what a loop walks -/
abbrev TDI := Ev → MH → (List D → (MH → Prop) → MH → Prop) → Prop
def ItOk (P : Program) (Wd : World) (K : PySem.W.Frag) (mg : Str → Option Value) (H0 : Hp) (J : It) (items : List D) (G : MH → Prop) : Prop :=
  ∀ i H M, TLe K H0 H → Rel P Wd K mg H M → G M → (∀ d, items[i]? = some d → J.go i H ∧ ∀ x H', J.yld i H x H' → IsD K mg H' d x ∧ Rel P Wd K mg H' M ∧ TLe K H H') ∧ (items.length ≤ i → J.stop i H)
def lfI (P : Program) (Wd : World) (K : PySem.W.Frag) (mg : Str → Option Value) (t : TDI) : TI := fun σ H R => ∃ env M Q0, Rel P Wd K mg H M ∧ RelS K mg H env σ ∧ t env M Q0 ∧
  ∀ items G M' J H', Q0 items G M' → TLe K H H' → Rel P Wd K mg H' M' → ItOk P Wd K mg H' J items G → R J H'
abbrev DI (X : Cx) (tg e : Expr) (t : TDI) : Prop := PI X tg e (lfI X.prog X.w X.K X.mg t)
theorem PI.imp {X : Cx} {tg e : Expr} {t t' : TI} (h : PI X tg e t) (w : ∀ σ H R, t' σ H R → t σ H R) : PI X tg e t' := ⟨fun pins s σ H R I q => h.run pins s σ H R I (w σ H R q)⟩
section
variable {K : PySem.W.Frag} {mg : Str → Option Value} {H : Hp} {M : MH}
theorem it_list {a : Addr} {ds : List D} : ItOk P Wd K mg H (Itl K a) ds (fun M => rdL M a = some ds) := by
  intro i H1 M1 l R g
  obtain ⟨vs, h1, h2⟩ := rdL_sq R g
  refine ⟨fun d e => ?_, fun hi => ⟨vs, h1, by rw [h2.length]; exact hi⟩⟩
  obtain ⟨v, h3, h4⟩ := h2.get e
  refine ⟨⟨vs, v, h1, h3⟩, fun x H' y => ?_⟩
  obtain ⟨rfl, y⟩ := y
  have := y vs h1
  rw [h3] at this
  cases this
  exact ⟨h4, R, .refl⟩
theorem it_tup {a : Addr} {ds : List D} {vs : List V} (h1 : SqT K H a vs) (h2 : IsDs K mg H ds vs) : ItOk P Wd K mg H (Itt K a) ds (fun _ => True) := by
  intro i H1 M1 l R g
  have g1 := (l a vs).1 h1
  have g2 := h2.le l _ _
  refine ⟨fun d e => ?_, fun hi => ⟨vs, g1, by rw [h2.length]; exact hi⟩⟩
  obtain ⟨v, h3, h4⟩ := g2.get e
  refine ⟨⟨vs, v, g1, h3⟩, fun x H' y => ?_⟩
  obtain ⟨rfl, y⟩ := y
  have := y vs g1
  rw [h3] at this
  cases this
  exact ⟨h4, R, .refl⟩
def strD (z : Str) : List D := z.cps.toList.map fun c => D.str ⟨#[c]⟩
theorem it_str {z : Str} : ItOk P Wd K mg H (Its z) (strD z) (fun _ => True) := by
  intro i H1 M1 l R g
  refine ⟨fun d e => ?_, fun hi => ?_⟩
  · unfold strD at e
    rw [List.getElem?_map, Option.map_eq_some_iff] at e
    obtain ⟨c, e, rfl⟩ := e
    have e2 : z.cps[i]? = some c := by rw [← Array.getElem?_toList]; exact e
    refine ⟨(Array.getElem?_eq_some_iff.mp e2).1, fun x H' y => ?_⟩
    obtain ⟨rfl, c', e3, rfl⟩ := y
    rw [e2] at e3
    cases e3
    exact ⟨rfl, R, .refl⟩
  · unfold strD at hi
    show z.cps.size ≤ i
    simpa using hi
def rgD (lo c : Int) (n : Nat) : List D := (List.range n).map fun (i : Nat) => D.int (lo + i * c)
theorem rgD_get {lo c : Int} {n i : Nat} {d : D} (h : (rgD lo c n)[i]? = some d) : i < n ∧ d = .int (lo + i * c) := by
  unfold rgD at h
  rw [List.getElem?_map, Option.map_eq_some_iff] at h
  obtain ⟨j, e, rfl⟩ := h
  obtain ⟨h1, h2⟩ := List.getElem?_eq_some_iff.mp e
  rw [List.getElem_range] at h2
  subst h2
  exact ⟨by simpa using h1, rfl⟩
theorem rgD_len {lo c : Int} {n : Nat} : (rgD lo c n).length = n := by simp [rgD]
theorem it_rng {lo : Int} {n : Nat} : ItOk P Wd K mg H (Itr lo n) (rgD lo 1 n) (fun _ => True) := by
  intro i H1 M1 l R g
  refine ⟨fun d e => ?_, fun hi => by rw [rgD_len] at hi; exact hi⟩
  obtain ⟨h1, rfl⟩ := rgD_get e
  refine ⟨h1, fun x H' y => ?_⟩
  obtain ⟨rfl, rfl⟩ := y
  exact ⟨by show V.int _ = V.int _; rw [Int.mul_one], R, .refl⟩
theorem it_rngC {lo c : Int} {n : Nat} : ItOk P Wd K mg H (Itc lo c n) (rgD lo c n) (fun _ => True) := by
  intro i H1 M1 l R g
  refine ⟨fun d e => ?_, fun hi => by rw [rgD_len] at hi; exact hi⟩
  obtain ⟨h1, rfl⟩ := rgD_get e
  refine ⟨h1, fun x H' y => ?_⟩
  obtain ⟨rfl, rfl⟩ := y
  exact ⟨rfl, R, .refl⟩
def enD (ds : List D) : List D := ds.mapIdx fun i d => D.tup [.int i, d]
theorem pair_ok {H1 : Hp} {M1 : MH} (R : Rel P Wd K mg H1 M1) {T : Addr} (hT : H1 T = none) {ds : List D} {vs : List V} (r : IsDs K mg H1 ds vs) : IsD K mg (upd H1 T (.tup vs)) (.tup ds) (.ref T) ∧ Rel P Wd K mg (upd H1 T (.tup vs)) M1 ∧ TLe K H1 (upd H1 T (.tup vs)) :=
  ⟨(newT R r hT).2.2, (newT R r hT).2.1, (newT R r hT).1⟩
theorem it_enL {a : Addr} {ds : List D} : ItOk P Wd K mg H (Ite K a) (enD ds) (fun M => rdL M a = some ds) := by
  intro i H1 M1 l R g
  obtain ⟨vs, h1, h2⟩ := rdL_sq R g
  refine ⟨fun d e => ?_, fun hi => ⟨vs, h1, by rw [h2.length]; simpa [enD] using hi⟩⟩
  unfold enD at e
  rw [List.getElem?_mapIdx, Option.map_eq_some_iff] at e
  obtain ⟨d0, e, rfl⟩ := e
  obtain ⟨v, h3, h4⟩ := h2.get e
  refine ⟨⟨vs, v, h1, h3⟩, fun x H' y => ?_⟩
  obtain ⟨T, x', rfl, hT, rfl, y⟩ := y
  have := y vs h1
  rw [h3] at this
  cases this
  exact pair_ok R hT (.cons rfl (.cons h4 .nil))
theorem it_enT {a : Addr} {ds : List D} {vs : List V} (h1 : SqT K H a vs) (h2 : IsDs K mg H ds vs) : ItOk P Wd K mg H (IteT K a) (enD ds) (fun _ => True) := by
  intro i H1 M1 l R g
  have g1 := (l a vs).1 h1
  have g2 := h2.le l _ _
  refine ⟨fun d e => ?_, fun hi => ⟨vs, g1, by rw [h2.length]; simpa [enD] using hi⟩⟩
  unfold enD at e
  rw [List.getElem?_mapIdx, Option.map_eq_some_iff] at e
  obtain ⟨d0, e, rfl⟩ := e
  obtain ⟨v, h3, h4⟩ := g2.get e
  refine ⟨⟨vs, v, g1, h3⟩, fun x H' y => ?_⟩
  obtain ⟨T, x', rfl, hT, rfl, y⟩ := y
  have := y vs g1
  rw [h3] at this
  cases this
  exact pair_ok R hT (.cons rfl (.cons h4 .nil))
def zpD (xs ys : List D) : List D := List.zipWith (fun x y => D.tup [x, y]) xs ys
theorem zpD_get {xs ys : List D} {i : Nat} {d : D} (h : (zpD xs ys)[i]? = some d) : ∃ x y, xs[i]? = some x ∧ ys[i]? = some y ∧ d = .tup [x, y] := by
  unfold zpD at h
  rw [List.getElem?_zipWith] at h
  split at h
  · rename_i x y e1 e2
    cases h
    exact ⟨x, y, e1, e2, rfl⟩
  · cases h
theorem it_zpL {a b : Addr} {xs ys : List D} : ItOk P Wd K mg H (Itz K a b) (zpD xs ys) (fun M => rdL M a = some xs ∧ rdL M b = some ys) := by
  intro i H1 M1 l R g
  obtain ⟨vs, h1, h2⟩ := rdL_sq R g.1
  obtain ⟨us, k1, k2⟩ := rdL_sq R g.2
  refine ⟨fun d e => ?_, fun hi => ⟨vs, us, h1, k1, by rw [h2.length, k2.length]; simp [zpD] at hi; omega⟩⟩
  obtain ⟨x, y, e1, e2, rfl⟩ := zpD_get e
  obtain ⟨v, h3, h4⟩ := h2.get e1
  obtain ⟨u, k3, k4⟩ := k2.get e2
  refine ⟨⟨vs, us, v, u, h1, k1, h3, k3⟩, fun x H' z => ?_⟩
  obtain ⟨T, x', y', rfl, hT, rfl, z1, z2⟩ := z
  have := z1 vs h1
  rw [h3] at this
  cases this
  have := z2 us k1
  rw [k3] at this
  cases this
  exact pair_ok R hT (.cons h4 (.cons k4 .nil))
theorem it_zpT {a b : Addr} {xs ys : List D} {vs us : List V} (h1 : SqT K H a vs) (h2 : IsDs K mg H xs vs) (k1 : SqT K H b us) (k2 : IsDs K mg H ys us) : ItOk P Wd K mg H (RZ.ItzT K a b) (zpD xs ys) (fun _ => True) := by
  intro i H1 M1 l R g
  have h1 := (l a vs).1 h1
  have h2 := h2.le l _ _
  have k1 := (l b us).1 k1
  have k2 := k2.le l _ _
  refine ⟨fun d e => ?_, fun hi => ⟨vs, us, h1, k1, by rw [h2.length, k2.length]; simp [zpD] at hi; omega⟩⟩
  obtain ⟨x, y, e1, e2, rfl⟩ := zpD_get e
  obtain ⟨v, h3, h4⟩ := h2.get e1
  obtain ⟨u, k3, k4⟩ := k2.get e2
  refine ⟨⟨vs, us, v, u, h1, k1, h3, k3⟩, fun x H' z => ?_⟩
  obtain ⟨T, x', y', rfl, hT, rfl, z1, z2⟩ := z
  have := z1 vs h1
  rw [h3] at this
  cases this
  have := z2 us k1
  rw [k3] at this
  cases this
  exact pair_ok R hT (.cons h4 (.cons k4 .nil))
end

/-! #### the sources -/
def iSeqV (K : PySem.W.Frag) (te : TE) : TI := fun σ H R => te σ H fun x H1 => (∃ a xs, x = .ref a ∧ SqL K H1 a xs ∧ R (Itl K a) H1) ∨ (∃ a xs, x = .ref a ∧ SqT K H1 a xs ∧ R (Itt K a) H1) ∨ (∃ z, x = .str z ∧ R (Its z) H1)
theorem pi_seq {X : Cx} {tg l : Expr} {te : TE} (hl : PE X l te) : PI X tg l (iSeqV X.K te) := by
  refine ⟨fun pins s σ H R I h => ?_⟩
  refine thn (hl.run pins s σ H _ I h) fun v s1 ⟨x, H1, I1, r1, q1⟩ => ?_
  rcases q1 with ⟨a, xs, e, hq, q⟩ | ⟨a, xs, e, hq, q⟩ | ⟨z, e, q⟩
  · subst e
    cases r1
    obtain ⟨its, rv, p, hz⟩ := I1.list hq
    exact wpAny_pyIter_list p.isList (pi_one (tk := s1.toks) I1 _ (turn_list a _) ⟨_, Heap.get?_push_size _ rfl, rfl, rfl⟩ q)
  · subst e
    cases r1
    obtain ⟨its, rv, p, hz⟩ := I1.tuple hq
    exact wpAny_pyIter_tuple (show s1.heap.IsTuple a its.toArray from p) (pi_one (tk := s1.toks) I1 _ (turn_tuple a _) ⟨_, Heap.get?_push_size _ rfl, rfl, rfl⟩ q)
  · subst e
    obtain ⟨t, rfl⟩ := r1
    cases ha : z.cps.all (· < 128)
    · exact wpAny_pyIter_wide ha (pi_one (tk := s1.toks) I1 _ (turn_str _ z t "str_iterator" (.inr rfl)) ⟨_, Heap.get?_push_size _ rfl, rfl, rfl⟩ q)
    · exact wpAny_pyIter_ascii ha (pi_one (tk := s1.toks) I1 _ (turn_str _ z t "str_ascii_iterator" (.inl rfl)) ⟨_, Heap.get?_push_size _ rfl, rfl, rfl⟩ q)
def dSeq (t : TD) : TDI := fun env M Q => t env M fun d M1 => match d with
  | .tup ds => Q ds (fun _ => True) M1
  | .str z => Q (strD z) (fun _ => True) M1
  | .ref a => match rdL M1 a with
    | some ds => Q ds (fun M => rdL M a = some ds) M1
    | none => False
  | _ => False
def dRng1 (t : TDs) : TDI := fun env M Q => t env M fun ds M1 => match ds with
  | [.int j] => (-(2 ^ 62) ≤ j ∧ j < 2 ^ 62) ∧ Q (rgD 0 1 j.toNat) (fun _ => True) M1
  | _ => False
def dRng2 (t : TDs) : TDI := fun env M Q => t env M fun ds M1 => match ds with
  | [.int i, .int j] => (-(2 ^ 62) ≤ i ∧ i < 2 ^ 62 ∧ -(2 ^ 62) ≤ j ∧ j < 2 ^ 62) ∧ Q (rgD i 1 (j - i).toNat) (fun _ => True) M1
  | _ => False
def dRng3 (t : TDs) : TDI := fun env M Q => t env M fun ds M1 => match ds with
  | [.int i, .int j, .int c] => ∃ n, RgC i j c n ∧ Q (rgD i c n) (fun _ => True) M1
  | _ => False
def dEnum (t : TDs) : TDI := fun env M Q => t env M fun ds M1 => match ds with
  | [.tup ds] => Q (enD ds) (fun _ => True) M1
  | [.ref a] => match rdL M1 a with
    | some ds => Q (enD ds) (fun M => rdL M a = some ds) M1
    | none => False
  | _ => False
def dZip (t : TDs) : TDI := fun env M Q => t env M fun ds M1 => match ds with
  | [.tup xs, .tup ys] => Q (zpD xs ys) (fun _ => True) M1
  | [.ref a, .ref b] => match rdL M1 a, rdL M1 b with
    | some xs, some ys => Q (zpD xs ys) (fun M => rdL M a = some xs ∧ rdL M b = some ys) M1
    | _, _ => False
  | _ => False
section
variable {X : Cx} {tg a b c : Expr} {ta : TD} {ts : TDs} {p pos tpos : Pos} {elts : List Expr} {kk : Nat}
theorem di_seq (ha : DE X a ta) : DI X tg a (dSeq ta) := by
  refine PI.imp (pi_seq ha) fun σ H R0 h => ?_
  obtain ⟨env, M, Q0, R, S, h, k⟩ := h
  refine lf_bind R S h fun d M1 v H1 q l R1 S1 r => ?_
  split at q
  · rename_i ds
    obtain ⟨p, xs, rfl, h1, h2⟩ := isD_tupE r
    exact .inr (.inl ⟨p, xs, rfl, h1, k _ _ M1 _ H1 q l R1 (it_tup h1 h2)⟩)
  · rename_i z
    exact .inr (.inr ⟨z, r, k _ _ M1 _ H1 q l R1 it_str⟩)
  · rename_i p
    split at q
    · rename_i ds e
      obtain ⟨xs, h1, h2⟩ := rdL_sq R1 e
      exact .inl ⟨p, xs, r, h1, k _ _ M1 _ H1 q l R1 it_list⟩
    · exact q.elim
  · exact q.elim
theorem isDs3 {K : PySem.W.Frag} {mg : Str → Option Value} {H : Hp} {d e f : D} {vs : List V} (h : IsDs K mg H [d, e, f] vs) : ∃ v w u, vs = [v, w, u] ∧ IsD K mg H d v ∧ IsD K mg H e w ∧ IsD K mg H f u := by
  obtain ⟨v, r, rfl, h1, h2⟩ := h.uncons
  obtain ⟨w, u, rfl, h3, h4⟩ := isDs2 h2
  exact ⟨v, w, u, rfl, h1, h3, h4⟩
theorem di_rng1 (hg : Gl X "range") (hm : X.mg "range" = none) (ha : DA X [a] ts) (hs : starEach [a] X.env = [(false, eval a X.env)]) : DI X tg (.Call (.Name "range" p) [a] [] pos) (dRng1 ts) := by
  refine PI.imp (pi_range1 hg hm ha hs) fun σ H R0 h => ?_
  obtain ⟨env, M, Q0, R, S, h, k⟩ := h
  refine lfA_bind R S h fun ds M1 vs H1 q l R1 S1 r => ?_
  split at q
  · rename_i j
    obtain ⟨v, rfl, r1⟩ := isDs1 r
    cases (show v = .int j from r1)
    exact ⟨j, rfl, q.1.1, q.1.2, k _ _ M1 _ H1 q.2 l R1 it_rng⟩
  · exact q.elim
theorem di_rng2 (hg : Gl X "range") (hm : X.mg "range" = none) (ha : DA X [a, b] ts) (hs : starEach [a, b] X.env = [(false, eval a X.env), (false, eval b X.env)]) (hs2 : starEach [b] X.env = [(false, eval b X.env)]) :
    DI X tg (.Call (.Name "range" p) [a, b] [] pos) (dRng2 ts) := by
  refine PI.imp (pi_range2 hg hm ha hs hs2) fun σ H R0 h => ?_
  obtain ⟨env, M, Q0, R, S, h, k⟩ := h
  refine lfA_bind R S h fun ds M1 vs H1 q l R1 S1 r => ?_
  split at q
  · rename_i i j
    obtain ⟨v, w, rfl, r1, r2⟩ := isDs2 r
    cases (show v = .int i from r1)
    cases (show w = .int j from r2)
    exact ⟨i, j, rfl, q.1, k _ _ M1 _ H1 q.2 l R1 it_rng⟩
  · exact q.elim
theorem di_rng3 (hg : Gl X "range") (hm : X.mg "range" = none) (ha : DA X [a, b, c] ts) (hs : starEach [a, b, c] X.env = (false, eval a X.env) :: starEach [b, c] X.env) (hpl : (backTo pos (starEach [b, c] X.env)).any (·.1) = false) :
    DI X tg (.Call (.Name "range" p) [a, b, c] [] pos) (dRng3 ts) := by
  refine PI.imp (pi_range3 hg hm ha hs hpl) fun σ H R0 h => ?_
  obtain ⟨env, M, Q0, R, S, h, k⟩ := h
  refine lfA_bind R S h fun ds M1 vs H1 q l R1 S1 r => ?_
  split at q
  · rename_i i j c
    obtain ⟨v, w, u, rfl, r1, r2, r3⟩ := isDs3 r
    cases (show v = .int i from r1)
    cases (show w = .int j from r2)
    cases (show u = .int c from r3)
    obtain ⟨n, q1, q2⟩ := q
    exact ⟨i, j, c, n, rfl, q1, k _ _ M1 _ H1 q2 l R1 it_rngC⟩
  · exact q.elim
theorem di_enum (hg : Gl X "enumerate") (hm : X.mg "enumerate" = none) (ha : DA X [a] ts) (hs : starEach [a] X.env = [(false, eval a X.env)]) : DI X (.Tuple elts kk tpos) (.Call (.Name "enumerate" p) [a] [] pos) (dEnum ts) := by
  refine PI.imp (pi_enumA hg hm ha hs) fun σ H R0 h => ?_
  obtain ⟨env, M, Q0, R, S, h, k⟩ := h
  refine lfA_bind R S h fun ds M1 vs H1 q l R1 S1 r => ?_
  split at q
  · rename_i ds
    obtain ⟨v, rfl, r1⟩ := isDs1 r
    obtain ⟨p, xs, rfl, h1, h2⟩ := isD_tupE r1
    exact ⟨p, xs, rfl, .inr ⟨h1, k _ _ M1 _ H1 q l R1 (it_enT h1 h2)⟩⟩
  · rename_i p
    obtain ⟨v, rfl, r1⟩ := isDs1 r
    cases (show v = .ref p from r1)
    split at q
    · rename_i ds e
      obtain ⟨xs, h1, h2⟩ := rdL_sq R1 e
      exact ⟨p, xs, rfl, .inl ⟨h1, k _ _ M1 _ H1 q l R1 it_enL⟩⟩
    · exact q.elim
  · exact q.elim
theorem di_zip (hg : Gl X "zip") (hm : X.mg "zip" = none) (ha : DA X [a, b] ts) (hs : starEach [a, b] X.env = (false, eval a X.env) :: starEach [b] X.env) (hpl : (backTo pos (starEach [b] X.env)).any (·.1) = false) :
    DI X (.Tuple elts kk tpos) (.Call (.Name "zip" p) [a, b] [] pos) (dZip ts) := by
  refine PI.imp (RZ.pi_zipA hg hm ha hs hpl) fun σ H R0 h => ?_
  obtain ⟨env, M, Q0, R, S, h, k⟩ := h
  refine lfA_bind R S h fun ds M1 vs H1 q l R1 S1 r => ?_
  split at q
  · rename_i xs ys
    obtain ⟨v, w, rfl, r1, r2⟩ := isDs2 r
    obtain ⟨p, vs, rfl, h1, h2⟩ := isD_tupE r1
    obtain ⟨p', us, rfl, k1, k2⟩ := isD_tupE r2
    exact ⟨p, p', vs, us, rfl, .inr ⟨h1, k1, k _ _ M1 _ H1 q l R1 (it_zpT h1 h2 k1 k2)⟩⟩
  · rename_i p p'
    obtain ⟨v, w, rfl, r1, r2⟩ := isDs2 r
    cases (show v = .ref p from r1)
    cases (show w = .ref p' from r2)
    split at q
    · rename_i xs ys e1 e2
      obtain ⟨vs, h1, h2⟩ := rdL_sq R1 e1
      obtain ⟨us, k1, k2⟩ := rdL_sq R1 e2
      exact ⟨p, p', vs, us, rfl, .inl ⟨h1, k1, k _ _ M1 _ H1 q l R1 it_zpL⟩⟩
    · exact q.elim
  · exact q.elim
end
end Dn

set_option Elab.async false
set_option linter.all false
set_option maxRecDepth 100000
set_option maxHeartbeats 4000000
namespace Dn
open PySem PySem.Spec L2
open PyProof.Rows hiding St
variable {P : Program} {Wd : World}

/-! ### statements -/
def dNext : TDS := fun E env M => E.nx env M
def dSeqS (t u : TDS) : TDS := fun E env M => t { E with nx := u E } env M
def dPass : TDS := dNext
def dBrk : TDS := fun E env M => E.bk env M
def dCnt : TDS := fun E env M => E.ct env M
def dRet (t : TD) : TDS := fun E env M => t env M E.rt
def dRetN : TDS := fun E env M => E.rt .non M
def dDrop (t : TD) : TDS := fun E env M => t env M fun _ M1 => E.nx env M1
def dIfS (c : TDT) (t u : TDS) : TDS := fun E env M => c env M fun b M1 => if b = true then t E env M1 else u E env M1
def dAsg (t : TD) (p : Pat) : TDS := fun E env M => t env M fun d M1 => match bindP p d env with
  | some env1 => E.nx env1 M1
  | none => False
section
variable {X : Cx} {st : Stmt} {sts : List Stmt} {t u : TDS} {pos : Pos} {e c : Expr} {te : TD}
/-- what stands behind a step -/
theorem lfS_at {K : PySem.W.Frag} {mg : Str → Option Value} {σ : St} {H H1 : Hp} {t : TDS} {env : Ev} {M : MH} {E0 : En} {E : Ends} (R : Rel P Wd K mg H1 M) (S : RelS K mg H1 env σ) (l : TLe K H H1) (h : t E0 env M)
    (kn : ∀ env' M' σ' H', E0.nx env' M' → TLe K H H' → Rel P Wd K mg H' M' → RelS K mg H' env' σ' → E.nx σ' H')
    (kr : ∀ d M' v H', E0.rt d M' → TLe K H H' → Rel P Wd K mg H' M' → IsD K mg H' d v → E.rt v H')
    (kb : ∀ env' M' σ' H', E0.bk env' M' → TLe K H H' → Rel P Wd K mg H' M' → RelS K mg H' env' σ' → E.bk σ' H')
    (kc : ∀ env' M' σ' H', E0.ct env' M' → TLe K H H' → Rel P Wd K mg H' M' → RelS K mg H' env' σ' → E.ct σ' H') : lfS P Wd K mg t E σ H1 :=
  ⟨env, M, E0, R, S, h, fun e M' s H' q l' => kn e M' s H' q (l.trans l'), fun d M' v H' q l' => kr d M' v H' q (l.trans l'), fun e M' s H' q l' => kb e M' s H' q (l.trans l'), fun e M' s H' q l' => kc e M' s H' q (l.trans l')⟩
theorem dss_nil : DSs X [] dNext := by
  refine PSs.imp pss_nil fun E σ H h => ?_
  obtain ⟨env, M, E0, R, S, h, kn, kr, kb, kc⟩ := h
  exact kn env M σ H h .refl R S
theorem dss_cons (h1 : DS X st t) (h2 : DSs X sts u) : DSs X (st :: sts) (dSeqS t u) := by
  refine PSs.imp (pss_cons h1 h2) fun E σ H h => ?_
  obtain ⟨env, M, E0, R, S, h, kn, kr, kb, kc⟩ := h
  exact ⟨env, M, _, R, S, h, fun env' M' σ' H' q l R' S' => lfS_at R' S' l q kn kr kb kc, kr, kb, kc⟩
theorem dss_one (h1 : DS X st t) : DSs X [st] t := pss_one h1
theorem ds_pass : DS X (.Pass pos) dNext := by
  refine PS.imp ps_pass fun E σ H h => ?_
  obtain ⟨env, M, E0, R, S, h, kn, kr, kb, kc⟩ := h
  exact kn env M σ H h .refl R S
theorem ds_brk : DS X (.Break pos) dBrk := by
  refine PS.imp ps_break fun E σ H h => ?_
  obtain ⟨env, M, E0, R, S, h, kn, kr, kb, kc⟩ := h
  exact kb env M σ H h .refl R S
theorem ds_cnt : DS X (.Continue pos) dCnt := by
  refine PS.imp ps_continue fun E σ H h => ?_
  obtain ⟨env, M, E0, R, S, h, kn, kr, kb, kc⟩ := h
  exact kc env M σ H h .refl R S
theorem ds_ret (he : DE X e te) : DS X (.Return (some e) pos) (dRet te) := by
  refine PS.imp (ps_ret he) fun E σ H h => ?_
  obtain ⟨env, M, E0, R, S, h, kn, kr, kb, kc⟩ := h
  exact ⟨env, M, _, R, S, h, kr⟩
theorem ds_retN : DS X (.Return none pos) dRetN := by
  refine PS.imp ps_retN fun E σ H h => ?_
  obtain ⟨env, M, E0, R, S, h, kn, kr, kb, kc⟩ := h
  exact kr .non M .non H h .refl R rfl
theorem ds_drop (he : DE X e te) (hs : swapsWith e none pos.line X.env = pure false) : DS X (.Expr e pos) (dDrop te) := by
  refine PS.imp (ps_expr he hs) fun E σ H h => ?_
  obtain ⟨env, M, E0, R, S, h, kn, kr, kb, kc⟩ := h
  exact lf_bind R S h fun d M1 v H1 q l R1 S1 r => kn env M1 σ H1 q l R1 S1
theorem ds_if {a b : List Stmt} {tc : TDT} (hc : DT X c tc) (ha : DSs X a t) (hb : DSs X b u) : DS X (.If c a b pos) (dIfS tc t u) := by
  refine PS.imp (ps_if hc ha hb) fun E σ H h => ?_
  obtain ⟨env, M, E0, R, S, h, kn, kr, kb, kc⟩ := h
  refine lfT_bind R S h fun k M1 H1 q l R1 S1 => ?_
  cases k with
  | true => exact lfS_at R1 S1 l q kn kr kb kc
  | false => exact lfS_at R1 S1 l q kn kr kb kc
/-- a statement that reaches nothing -/
def dNever : TDS := fun _ _ _ => False
theorem ds_never : DS X st dNever := ⟨fun pins s σ H E I h => by obtain ⟨_, _, _, _, _, h, _⟩ := h; exact h.elim⟩
/-! stores -/
theorem asg_imp {K : PySem.W.Frag} {mg : Str → Option Value} {p : Pat} {E : Ends} {σ : St} {H : Hp} (h : lfS P Wd K mg (dAsg te p) E σ H) : tAsg (lf P Wd K mg te) (gPat K p) E σ H := by
  obtain ⟨env, M, E0, R, S, h, kn, kr, kb, kc⟩ := h
  refine lf_bind R S h fun d M1 v H1 q l R1 S1 r => ?_
  cases e : bindP p d env with
  | none => rw [e] at q; exact q.elim
  | some env1 =>
    rw [e] at q
    exact gPat_ok p d v env env1 σ _ S1 r e fun σ' S' _ => kn env1 M1 σ' H1 q l R1 S'
theorem ds_set {i : Nat} {x : Str} {pos' : Pos} (hN : X.N.Nodup) (hi : X.N[i]? = some x) (hx : Loc X.env.scope x) (he : DE X e te) (hs : swapsWith e (some (.Name x pos')) pos.line X.env = pure false) (hf : X.fn x = true ∨ X.env.scope.names.lookup x = some .local) :
    DS X (.Assign [.Name x pos'] e pos) (dAsg te (.nm i)) := PS.imp (ps_set hN hi hx he hs hf) fun E σ H h => asg_imp h
theorem ds_asg {tg : Expr} {p : Pat} (he : DE X e te) (hg : PG X tg (gPat X.K p)) (hs : swapsWithSole [tg] e pos.line X.env = pure false) (hw : swappedStores [tg] e X.env = pure none) (h1 : (assignEach [tg] X.env).map (·.2) = [assign tg X.env]) :
    DS X (.Assign [tg] e pos) (dAsg te p) := PS.imp (ps_asg he hg hs hw h1) fun E σ H h => asg_imp h
/-- several names at once -/
def dPar (is : List Nat) (t : TDs) : TDS := fun E env M => t env M fun ds M1 => ds.length = is.length ∧ E.nx ((is.zip ds).foldl (fun e q => e.set q.1 (some q.2)) env) M1
theorem ds_par {i j : Nat} {x y : Str} {a b : Expr} {ta : TDs} {px py pt : Pos} {kt k2 pt2} (hc : X.calm = true) (hN : X.N.Nodup) (hi : X.N[i]? = some x) (hj : X.N[j]? = some y) (hij : i ≠ j)
    (hx : X.env.scope.names.lookup x = some .local) (hy : X.env.scope.names.lookup y = some .local) (ha : DA X [a, b] ta)
    (hw : swappedStores [.Tuple [.Name x px, .Name y py] kt pt] (.Tuple [a, b] k2 pt2) X.env = pure (some [x, y])) (hs : swapsWithSole [.Tuple [.Name x px, .Name y py] kt pt] (.Tuple [a, b] k2 pt2) pos.line X.env = pure false) :
    DS X (.Assign [.Tuple [.Name x px, .Name y py] kt pt] (.Tuple [a, b] k2 pt2) pos) (dPar [i, j] ta) := by
  refine PS.imp (ps_par hc hN hi hj hij hx hy ha hw hs) fun E σ H h => ?_
  obtain ⟨env, M, E0, R, S, h, kn, kr, kb, kc⟩ := h
  refine lfA_bind R S h fun ds M1 vs H1 q l R1 S1 r => ?_
  obtain ⟨hl, q⟩ := q
  match ds, hl with
  | [d1, d2], _ =>
    obtain ⟨v, w, rfl, r1, r2⟩ := isDs2 r
    exact ⟨v, w, rfl, kn _ M1 _ H1 q l R1 ((S1.set r1 i).set r2 j)⟩
theorem ds_par3 {i j k : Nat} {x y z : Str} {a b c : Expr} {ta : TDs} {px py pz pt : Pos} {kt k2 pt2} (hc : X.calm = true) (hN : X.N.Nodup) (hi : X.N[i]? = some x) (hj : X.N[j]? = some y) (hk : X.N[k]? = some z) (hij : i ≠ j) (hik : i ≠ k) (hjk : j ≠ k)
    (hx : X.env.scope.names.lookup x = some .local) (hy : X.env.scope.names.lookup y = some .local) (hz : X.env.scope.names.lookup z = some .local) (ha : DA X [a, b, c] ta)
    (hw : swappedStores [.Tuple [.Name x px, .Name y py, .Name z pz] kt pt] (.Tuple [a, b, c] k2 pt2) X.env = pure (some [x, y, z])) (hs : swapsWithSole [.Tuple [.Name x px, .Name y py, .Name z pz] kt pt] (.Tuple [a, b, c] k2 pt2) pos.line X.env = pure false) :
    DS X (.Assign [.Tuple [.Name x px, .Name y py, .Name z pz] kt pt] (.Tuple [a, b, c] k2 pt2) pos) (dPar [i, j, k] ta) := by
  refine PS.imp (ps_par3 hc hN hi hj hk hij hik hjk hx hy hz ha hw hs) fun E σ H h => ?_
  obtain ⟨env, M, E0, R, S, h, kn, kr, kb, kc⟩ := h
  refine lfA_bind R S h fun ds M1 vs H1 q l R1 S1 r => ?_
  obtain ⟨hl, q⟩ := q
  match ds, hl with
  | [d1, d2, d3], _ =>
    obtain ⟨v, w, u, rfl, r1, r2, r3⟩ := isDs3 r
    exact ⟨v, w, u, rfl, kn _ M1 _ H1 q l R1 (((S1.set r1 i).set r2 j).set r3 k)⟩
end

/-! ### while, for -/
def dWh (c : TDT) (b : TDS) (E : En) : Nat → Ev → MH → Prop
  | 0, _, _ => False
  | n + 1, env, M => c env M fun k M1 => if k = true then b { E with nx := dWh c b E n, ct := dWh c b E n, bk := E.nx } env M1 else E.nx env M1
def dWhile (c : TDT) (b : TDS) : TDS := fun E env M => ∃ n, dWh c b E n env M
def dLoop (p : Pat) (b : TDS) (G : MH → Prop) (E : En) : List D → Ev → MH → Prop
  | [], env, M => G M ∧ E.nx env M
  | d :: ds, env, M => G M ∧ match bindP p d env with
    | some env1 => b { E with nx := dLoop p b G E ds, ct := dLoop p b G E ds, bk := E.nx } env1 M
    | none => False
def dFor (wi : TDI) (p : Pat) (b : TDS) : TDS := fun E env M => wi env M fun items G M1 => dLoop p b G E items env M1
section
variable {X : Cx} {pos : Pos} {c : Expr} {body : List Stmt} {tb : TDS}
theorem ds_while {tc : TDT} (hp : PassesOwn (model X.prog X.w) X.A X.env X.xe) (hc : DT X c tc) (hb : DSs X body tb) : DS X (.While c body [] pos) (dWhile tc tb) := by
  refine PS.imp (ps_while hp hc hb) fun E σ H h => ?_
  obtain ⟨env, M, E0, R, S, h, kn, kr, kb, kc⟩ := h
  obtain ⟨n, h⟩ := h
  refine ⟨fun m σ' H' => ∃ env' M', TLe X.K H H' ∧ Rel X.prog X.w X.K X.mg H' M' ∧ RelS X.K X.mg H' env' σ' ∧ dWh tc tb E0 m env' M', ⟨n, env, M, .refl, R, S, h⟩, ?_⟩
  rintro m σ1 H1 ⟨env1, M1, l1, R1, S1, h1⟩
  cases m with
  | zero => exact h1.elim
  | succ m =>
    refine lfT_bind R1 S1 h1 fun k M2 H2 q l R2 S2 => ?_
    cases k with
    | false => exact kn env1 M2 σ1 H2 q (l1.trans l) R2 S2
    | true =>
      refine ⟨fun σ' H' => ∃ env' M', TLe X.K H H' ∧ Rel X.prog X.w X.K X.mg H' M' ∧ RelS X.K X.mg H' env' σ' ∧ dWh tc tb E0 m env' M', fun σ' H' n => ⟨m, Nat.lt_succ_self m, n⟩, ?_⟩
      exact lfS_at R2 S2 (l1.trans l) q (fun env' M' σ' H' z l' R' S' => ⟨env', M', l', R', S', z⟩) kr kn fun env' M' σ' H' z l' R' S' => ⟨env', M', l', R', S', z⟩
theorem ds_for {tg iter : Expr} {wi : TDI} {p : Pat} (hp : PassesOwn (model X.prog X.w) X.A X.env X.xe) (hc : X.calm = true) (hi : DI X tg iter wi) (hg : PG X tg (gPat X.K p)) (hb : DSs X body tb)
    (hs : ∀ x, foldedSetIterable iter X.env x = pure x) : DS X (.For tg iter body [] pos) (dFor wi p tb) := by
  refine PS.imp (ps_for hp hc hi hg hb hs) fun E σ H h => ?_
  obtain ⟨env, M, E0, R, S, h, kn, kr, kb, kc⟩ := h
  refine ⟨env, M, _, R, S, h, fun items G M1 J H1 q l R1 ok => ?_⟩
  refine ⟨fun i m σ' H' => m = items.length - i ∧ i ≤ items.length ∧ ∃ env' M', TLe X.K H1 H' ∧ Rel X.prog X.w X.K X.mg H' M' ∧ RelS X.K X.mg H' env' σ' ∧ dLoop p tb G E0 (items.drop i) env' M',
    ⟨items.length, rfl, Nat.zero_le _, env, M1, .refl, R1, S.le l, by rw [List.drop_zero]; exact q⟩, ?_⟩
  rintro i m σ2 H2 ⟨hm, hi', env2, M2, l2, R2, S2, q2⟩
  by_cases hlt : i < items.length
  · rw [List.drop_eq_getElem_cons hlt, dLoop] at q2
    obtain ⟨g, q2⟩ := q2
    obtain ⟨hgo, hy⟩ := (ok i H2 M2 l2 R2 g).1 items[i] (List.getElem?_eq_getElem hlt)
    refine .inr ⟨hgo, fun σ' H' => ∃ env' M', TLe X.K H1 H' ∧ Rel X.prog X.w X.K X.mg H' M' ∧ RelS X.K X.mg H' env' σ' ∧ dLoop p tb G E0 (items.drop (i + 1)) env' M', fun σ' H' n => ⟨items.length - (i + 1), by omega, rfl, by omega, n⟩, fun x H3 y => ?_⟩
    obtain ⟨r3, R3, l3⟩ := hy x H3 y
    cases e : bindP p items[i] env2 with
    | none => rw [e] at q2; exact q2.elim
    | some env3 =>
      rw [e] at q2
      refine gPat_ok p items[i] x env2 env3 σ2 _ (S2.le l3) r3 e fun σ4 S4 _ => ?_
      exact lfS_at R3 S4 (l2.trans l3) q2 (fun env' M' σ' H' z l' R' S' => ⟨env', M', l', R', S', z⟩) (fun d M' v H' z l' => kr d M' v H' z (l.trans l')) (fun e M' s H' z l' => kn e M' s H' z (l.trans l')) fun env' M' σ' H' z l' R' S' => ⟨env', M', l', R', S', z⟩
  · have e : i = items.length := by omega
    subst e
    rw [List.drop_length, dLoop] at q2
    exact .inl ⟨(ok _ H2 M2 l2 R2 q2.1).2 (Nat.le_refl _), kn env2 M2 σ2 H2 q2.2 (l.trans l2) R2 S2⟩
end

/-! ### list comprehensions -/
theorem wipe_wipe (σ : St) : ∀ vs : List Nat, wipe (wipe σ vs) vs = wipe σ vs := fun vs => by
  have key : ∀ ws : List Nat, (∀ w ∈ ws, w ∈ vs) → wipe (wipe σ vs) ws = wipe σ vs := by
    intro ws
    induction ws with
    | nil => intro _; rfl
    | cons w ws ih =>
      intro h
      rw [wipe, ih fun x hx => h x (List.mem_cons_of_mem _ hx)]
      have hw := h w List.mem_cons_self
      apply List.ext_getElem?
      intro j
      by_cases hj : w = j
      · subst hj
        by_cases hl : w < (wipe σ vs).length
        · rw [List.getElem?_set_self hl]
          cases q : (wipe σ vs)[w]? with
          | none => rw [List.getElem?_eq_none_iff] at q; omega
          | some o =>
            cases o with
            | none => rfl
            | some x => exact absurd hw (wipe_some q).2
        · rw [List.getElem?_eq_none (by simpa using hl), List.getElem?_eq_none (by omega)]
      · rw [List.getElem?_set_ne hj]
  exact key vs fun _ h => h
def dYes : TDT := fun _ M Q => Q true M
abbrev DTs (X : Cx) (ifs : List Expr) (t : TDT) : Prop := PTs X ifs (lfT X.prog X.w X.K X.mg t)
theorem PTs.imp {X : Cx} {ifs : List Expr} {t t' : TT} (h : PTs X ifs t) (w : ∀ σ H Q, t' σ H Q → t σ H Q) : PTs X ifs t' := ⟨fun pins s σ H Q I q => h.run pins s σ H Q I (w σ H Q q)⟩
theorem dts_nil {X : Cx} : DTs X [] dYes := by
  refine PTs.imp pts_nil fun σ H Q h => ?_
  obtain ⟨env, M, Q0, R, S, h, k⟩ := h
  exact k true M H h .refl R
theorem dts_one {X : Cx} {c : Expr} {t : TDT} (h : DT X c t) : DTs X [c] t := pts_one h
def pushD (M : MH) (D : Addr) (y : Dn.D) (N : MH → Prop) : Prop := match M D with
  | some (.lst acc) => acc.length < LN ∧ N (up M D (.lst (acc ++ [y])))
  | _ => False
def dLcL (p : Pat) (tt : TDT) (te : TD) (G : MH → Prop) (env : Ev) (N : MH → Prop) (D : Addr) : List Dn.D → MH → Prop
  | [], M => G M ∧ N M
  | d :: ds, M => G M ∧ match bindP p d env with
    | some env2 => tt env2 M fun b M2 => if b = true then te env2 M2 fun y M3 => pushD M3 D y (dLcL p tt te G env N D ds) else dLcL p tt te G env N D ds M2
    | none => False
def dLc (wi : TDI) (p : Pat) (tt : TDT) (te : TD) (vs : List Nat) : TD := fun env M Q => wi env M fun items G M1 => ∀ D, M1 D = none → dLcL p tt te G (wp env vs) (Q (.ref D)) D items (up M1 D (.lst []))
section
variable {K : PySem.W.Frag} {mg : Str → Option Value} {H : Hp} {M : MH}
theorem push_ok {D : Addr} {y : Dn.D} {v : V} {N : MH → Prop} {Nx : Hp → Prop} (R : Rel P Wd K mg H M) (r : IsD K mg H y v) (h : pushD M D y N) (k : ∀ H' M', N M' → TLe K H H' → Rel P Wd K mg H' M' → Nx H') :
    ∃ acc, H D = some (.lst acc) ∧ acc.length < sizeLine ∧ Nx (upd H D (.lst (acc ++ [v]))) := by
  unfold pushD at h
  split at h
  · rename_i acc e
    obtain ⟨xs, h1, h2⟩ := R D _ e
    have z := setL R h1 (h2.append (.cons r .nil))
    exact ⟨xs, h1, by rw [h2.length, ln_eq]; exact h.1, k _ _ h.2 z.1 z.2⟩
  · exact h.elim
theorem lc_imp {wi : TDI} {p : Pat} {tt : TDT} {te : TD} {vs : List Nat} {σ : St} {H : Hp} {Q : VK} (hv : p.within vs = true) (h : lf P Wd K mg (dLc wi p tt te vs) σ H Q) :
    tLc (lfI P Wd K mg wi) (gPat K p) (lfT P Wd K mg tt) (lf P Wd K mg te) vs σ H Q := by
  obtain ⟨env, M, Q0, R, S, h, k⟩ := h
  refine ⟨env, M, _, R, S, h, fun items G M1 J H1 q l R1 ok D hD => ?_⟩
  have q := q D (rel_none R1 hD)
  have z := newL R1 (.nil : IsDs K mg H1 [] []) hD
  refine ⟨fun i m H' => m = items.length - i ∧ i ≤ items.length ∧ ∃ M', TLe K H1 H' ∧ Rel P Wd K mg H' M' ∧ dLcL p tt te G (wp env vs) (Q0 (.ref D)) D (items.drop i) M', ⟨items.length, rfl, Nat.zero_le _, _, z.1, z.2, by rw [List.drop_zero]; exact q⟩, ?_⟩
  rintro i m H2 ⟨hm, hi', M2, l2, R2, q2⟩
  by_cases hlt : i < items.length
  · rw [List.drop_eq_getElem_cons hlt, dLcL] at q2
    obtain ⟨g, q2⟩ := q2
    obtain ⟨hgo, hy⟩ := (ok i H2 M2 l2 R2 g).1 items[i] (List.getElem?_eq_getElem hlt)
    refine .inr ⟨hgo, fun H' => ∃ M', TLe K H1 H' ∧ Rel P Wd K mg H' M' ∧ dLcL p tt te G (wp env vs) (Q0 (.ref D)) D (items.drop (i + 1)) M', fun H' n => ⟨items.length - (i + 1), by omega, rfl, by omega, n⟩, fun x H3 y => ?_⟩
    obtain ⟨r3, R3, l3⟩ := hy x H3 y
    have S3 : RelS K mg H3 (wp env vs) (wipe σ vs) := relS_wp (S.le ((l.trans l2).trans l3)) vs
    cases e : bindP p items[i] (wp env vs) with
    | none => rw [e] at q2; exact q2.elim
    | some env3 =>
      rw [e] at q2
      refine gPat_ok p items[i] x (wp env vs) env3 (wipe σ vs) _ S3 r3 e fun σ4 S4 w4 => ⟨?_, ?_⟩
      · rw [w4 vs hv]
        exact wipe_wipe σ vs
      · refine lfT_bind R3 S4 q2 fun b M4 H4 q4 l4 R4 S5 => ?_
        cases b with
        | false => exact ⟨M4, (l2.trans l3).trans l4, R4, q4⟩
        | true =>
          refine lf_bind R4 S5 q4 fun yd M5 yv H5 q5 l5 R5 _ r5 => ?_
          exact push_ok (Nx := fun H' => ∃ M', TLe K H1 H' ∧ Rel P Wd K mg H' M' ∧ dLcL p tt te G (wp env vs) (Q0 (.ref D)) D (items.drop (i + 1)) M') R5 r5 q5 fun H6 M6 n l6 R6 => ⟨M6, (((l2.trans l3).trans l4).trans l5).trans l6, R6, n⟩
  · have e : i = items.length := by omega
    subst e
    rw [List.drop_length, dLcL] at q2
    exact .inl ⟨(ok _ H2 M2 l2 R2 q2.1).2 (Nat.le_refl _), k _ M2 _ H2 q2.2 (l.trans l2) R2 rfl⟩
end
/-- two clauses -/
def dLc2 (wi : TDI) (p : Pat) (tt : TDT) (wi1 : TDI) (p1 : Pat) (tt1 : TDT) (te : TD) (vs vs1 : List Nat) : TD := fun env M Q => wi env M fun items G M1 => ∀ D, M1 D = none →
  let rec go : List Dn.D → MH → Prop
    | [], M => G M ∧ Q (.ref D) M
    | d :: ds, M => G M ∧ match bindP p d (wp env vs) with
      | some env2 => tt env2 M fun b M2 => if b = true then wi1 env2 M2 fun items1 G1 M3 => dLcL p1 tt1 te G1 (wp env2 vs1) (go ds) D items1 M3 else go ds M2
      | none => False
  go items (up M1 D (.lst []))
section
variable {K : PySem.W.Frag} {mg : Str → Option Value} {H : Hp} {M : MH}
theorem lc2_imp {wi wi1 : TDI} {p p1 : Pat} {tt tt1 : TDT} {te : TD} {vs vs1 : List Nat} {σ : St} {H : Hp} {Q : VK} (hv : p.within vs = true) (hv1 : p1.within vs1 = true) (h : lf P Wd K mg (dLc2 wi p tt wi1 p1 tt1 te vs vs1) σ H Q) :
    tLc2 (lfI P Wd K mg wi) (gPat K p) (lfT P Wd K mg tt) (lfI P Wd K mg wi1) (gPat K p1) (lfT P Wd K mg tt1) (lf P Wd K mg te) vs vs1 σ H Q := by
  obtain ⟨env, M, Q0, R, S, h, k⟩ := h
  refine ⟨env, M, _, R, S, h, fun items G M1 J H1 q l R1 ok D hD => ?_⟩
  have q := q D (rel_none R1 hD)
  have z := newL R1 (.nil : IsDs K mg H1 [] []) hD
  refine ⟨fun i m H' => m = items.length - i ∧ i ≤ items.length ∧ ∃ M', TLe K H1 H' ∧ Rel P Wd K mg H' M' ∧ dLc2.go p tt wi1 p1 tt1 te vs vs1 env Q0 G D (items.drop i) M', ⟨items.length, rfl, Nat.zero_le _, _, z.1, z.2, by rw [List.drop_zero]; exact q⟩, ?_⟩
  rintro i m H2 ⟨hm, hi', M2, l2, R2, q2⟩
  by_cases hlt : i < items.length
  · rw [List.drop_eq_getElem_cons hlt, dLc2.go] at q2
    obtain ⟨g, q2⟩ := q2
    obtain ⟨hgo, hy⟩ := (ok i H2 M2 l2 R2 g).1 items[i] (List.getElem?_eq_getElem hlt)
    refine .inr ⟨hgo, fun H' => ∃ M', TLe K H1 H' ∧ Rel P Wd K mg H' M' ∧ dLc2.go p tt wi1 p1 tt1 te vs vs1 env Q0 G D (items.drop (i + 1)) M', fun H' n => ⟨items.length - (i + 1), by omega, rfl, by omega, n⟩, fun x H3 y => ?_⟩
    obtain ⟨r3, R3, l3⟩ := hy x H3 y
    have S3 : RelS K mg H3 (wp env vs) (wipe σ vs) := relS_wp (S.le ((l.trans l2).trans l3)) vs
    cases e : bindP p items[i] (wp env vs) with
    | none => rw [e] at q2; exact q2.elim
    | some env3 =>
      rw [e] at q2
      refine gPat_ok p items[i] x (wp env vs) env3 (wipe σ vs) _ S3 r3 e fun σ4 S4 w4 => ⟨?_, ?_⟩
      · rw [w4 vs hv]
        exact wipe_wipe σ vs
      · refine lfT_bind R3 S4 q2 fun b M4 H4 q4 l4 R4 S5 => ?_
        cases b with
        | false => exact ⟨M4, (l2.trans l3).trans l4, R4, q4⟩
        | true =>
          refine ⟨env3, M4, _, R4, S5, q4, fun items1 G1 M5 J1 H5 q5 l5 R5 ok1 => ?_⟩
          refine ⟨fun j m H' => m = items1.length - j ∧ j ≤ items1.length ∧ ∃ M', TLe K H5 H' ∧ Rel P Wd K mg H' M' ∧ dLcL p1 tt1 te G1 (wp env3 vs1) (dLc2.go p tt wi1 p1 tt1 te vs vs1 env Q0 G D (items.drop (i + 1))) D (items1.drop j) M', ⟨items1.length, rfl, Nat.zero_le _, M5, .refl, R5, by rw [List.drop_zero]; exact q5⟩, ?_⟩
          rintro j m1 H6 ⟨hm1, hj, M6, l6, R6, q6⟩
          have l15 := (l2.trans l3).trans (l4.trans l5)
          by_cases hlt1 : j < items1.length
          · rw [List.drop_eq_getElem_cons hlt1, dLcL] at q6
            obtain ⟨g1, q6⟩ := q6
            obtain ⟨hgo1, hy1⟩ := (ok1 j H6 M6 l6 R6 g1).1 items1[j] (List.getElem?_eq_getElem hlt1)
            refine .inr ⟨hgo1, fun H' => ∃ M', TLe K H5 H' ∧ Rel P Wd K mg H' M' ∧ dLcL p1 tt1 te G1 (wp env3 vs1) (dLc2.go p tt wi1 p1 tt1 te vs vs1 env Q0 G D (items.drop (i + 1))) D (items1.drop (j + 1)) M', fun H' n => ⟨items1.length - (j + 1), by omega, rfl, by omega, n⟩, fun x1 H7 y1 => ?_⟩
            obtain ⟨r7, R7, l7⟩ := hy1 x1 H7 y1
            have S7 : RelS K mg H7 (wp env3 vs1) (wipe σ4 vs1) := relS_wp (S5.le ((l5.trans l6).trans l7)) vs1
            cases e1 : bindP p1 items1[j] (wp env3 vs1) with
            | none => rw [e1] at q6; exact q6.elim
            | some env4 =>
              rw [e1] at q6
              refine gPat_ok p1 items1[j] x1 (wp env3 vs1) env4 (wipe σ4 vs1) _ S7 r7 e1 fun σ8 S8 w8 => ⟨?_, ?_⟩
              · rw [w8 vs1 hv1]
                exact wipe_wipe σ4 vs1
              · refine lfT_bind R7 S8 q6 fun b1 M8 H8 q8 l8 R8 S9 => ?_
                cases b1 with
                | false => exact ⟨M8, (l6.trans l7).trans l8, R8, q8⟩
                | true =>
                  refine lf_bind R8 S9 q8 fun yd M9 yv H9 q9 l9 R9 _ r9 => ?_
                  exact push_ok (Nx := fun H' => ∃ M', TLe K H5 H' ∧ Rel P Wd K mg H' M' ∧ dLcL p1 tt1 te G1 (wp env3 vs1) (dLc2.go p tt wi1 p1 tt1 te vs vs1 env Q0 G D (items.drop (i + 1))) D (items1.drop (j + 1)) M') R9 r9 q9 fun H10 M10 n l10 R10 => ⟨M10, (((l6.trans l7).trans l8).trans l9).trans l10, R10, n⟩
          · have e : j = items1.length := by omega
            subst e
            rw [List.drop_length, dLcL] at q6
            exact .inl ⟨(ok1 _ H6 M6 l6 R6 q6.1).2 (Nat.le_refl _), M6, l15.trans l6, R6, q6.2⟩
  · have e : i = items.length := by omega
    subst e
    rw [List.drop_length, dLc2.go] at q2
    exact .inl ⟨(ok _ H2 M2 l2 R2 q2.1).2 (Nat.le_refl _), k _ M2 _ H2 q2.2 (l.trans l2) R2 rfl⟩
end
end Dn

set_option Elab.async false
set_option linter.all false
set_option maxRecDepth 100000
set_option maxHeartbeats 4000000
namespace Dn
open PySem PySem.Spec L2
open PyProof.Rows hiding St
variable {P : Program} {Wd : World}

/-! ### calls of built-ins -/
def relC (P : Program) (Wd : World) (K : PySem.W.Frag) (mg : Str → Option Value) (f : FD) : List V → Hp → VK → Prop := fun vs H Q => ∃ ds M Q0, Rel P Wd K mg H M ∧ IsDs K mg H ds vs ∧ f ds M Q0 ∧
  ∀ d M' u H', Q0 d M' → TLe K H H' → Rel P Wd K mg H' M' → IsD K mg H' d u → Q u H'
abbrev CallD (X : Cx) (f : Value) (g : FD) : Prop := CallR X f (relC X.prog X.w X.K X.mg g)
theorem CallD.of {X : Cx} {f : Value} {g : FD} {r : List V → Hp → VK → Prop} (c : CallR X f r) (s : SimC X.prog X.w X.K X.mg g r) : CallD X f g := by
  intro pins s0 σ H xs us Q I rs h
  obtain ⟨ds, M, Q0, R, rd, h, k⟩ := h
  exact c pins s0 σ H xs us Q I rs (s ds M Q0 H xs Q R rd h k)
theorem CallD.or {X : Cx} {f : Value} {g g' g2 : FD} (c : CallD X f g) (c' : CallD X f g') (h : ∀ ds M Q, g2 ds M Q → g ds M Q ∨ g' ds M Q) : CallD X f g2 := by
  intro pins s0 σ H xs us Q I rs q
  obtain ⟨ds, M, Q0, R, rd, q, k⟩ := q
  rcases h _ _ _ q with q | q
  · exact c pins s0 σ H xs us Q I rs ⟨ds, M, Q0, R, rd, q, k⟩
  · exact c' pins s0 σ H xs us Q I rs ⟨ds, M, Q0, R, rd, q, k⟩
section
variable {X : Cx} {x : Str} {p pos : Pos} {e : Expr} {es : List Expr} {t : TDs} {id T : String} {g : FD}
theorem df_imp {P : Program} {Wd : World} {K : PySem.W.Frag} {mg : Str → Option Value} {σ : St} {H : Hp} {Q : VK} (h : lf P Wd K mg (dF g t) σ H Q) : tCB (relC P Wd K mg g) (lfA P Wd K mg t) σ H Q := by
  obtain ⟨env, M, Q0, R, S, h, k⟩ := h
  exact lfA_bind R S h fun ds M1 vs H1 q l R1 S1 r => ⟨ds, M1, Q0, R1, r, q, fun d M' u H' q' l' R' r' => k d M' u H' q' (l.trans l') R' r'⟩
theorem de_callB (hc : CallD X (.builtin id) g) (hg : Gl X x) (hm : X.mg x = none) (hv : bootBuiltins x = some (.builtin id)) (ha : DA X (e :: es) t) (hn : x ≠ "__name__") (hdb : (x == ("__debug__" : Str)) = false)
    (he : starEach (e :: es) X.env = (false, eval e X.env) :: starEach es X.env) (hpl : (backTo pos (starEach es X.env)).any (·.1) = false) : DE X (.Call (.Name x p) (e :: es) [] pos) (dF g t) :=
  PE.imp (pe_callB hc hg hm hv ha hn hdb he hpl) fun _ _ _ h => df_imp h
theorem de_callTy (hc : CallD X (.type T) g) (hg : Gl X x) (hm : X.mg x = none) (hv : bootBuiltins x = some (.type T)) (ha : DA X (e :: es) t) (hn : x ≠ "__name__") (hdb : (x == ("__debug__" : Str)) = false)
    (he : starEach (e :: es) X.env = (false, eval e X.env) :: starEach es X.env) (hpl : (backTo pos (starEach es X.env)).any (·.1) = false) : DE X (.Call (.Name x p) (e :: es) [] pos) (dF g t) :=
  PE.imp (pe_callTy hc hg hm hv ha hn hdb he hpl) fun _ _ _ h => df_imp h
end
/-- intsD, bools of a list -/
def intsD : List D → Option (List Int)
  | [] => some []
  | .int i :: r => (intsD r).map (i :: ·)
  | _ => none
def blsD : List D → Option (List Bool)
  | [] => some []
  | .bl i :: r => (blsD r).map (i :: ·)
  | _ => none
section
variable {K : PySem.W.Frag} {mg : Str → Option Value} {H : Hp}
theorem intsD_ok : ∀ {ds : List D} {vs : List V} {ns : List Int}, intsD ds = some ns → IsDs K mg H ds vs → vs = ns.map V.int
  | [], vs, ns, h, r => by
    simp only [intsD, Option.some.injEq] at h
    subst h
    exact r.eqnil
  | .int i :: ds, vs, ns, h, r => by
    simp only [intsD, Option.map_eq_some_iff] at h
    obtain ⟨ms, h, rfl⟩ := h
    obtain ⟨v, t, rfl, h1, h2⟩ := r.uncons
    rw [show v = .int i from h1, intsD_ok h h2]
    rfl
  | .non :: _, _, _, h, _ => by simp [intsD] at h
  | .bl _ :: _, _, _, h, _ => by simp [intsD] at h
  | .str _ :: _, _, _, h, _ => by simp [intsD] at h
  | .tup _ :: _, _, _, h, _ => by simp [intsD] at h
  | .ref _ :: _, _, _, h, _ => by simp [intsD] at h
  | .fn _ :: _, _, _, h, _ => by simp [intsD] at h
  | .kls _ :: _, _, _, h, _ => by simp [intsD] at h
theorem blsD_ok : ∀ {ds : List D} {vs : List V} {ns : List Bool}, blsD ds = some ns → IsDs K mg H ds vs → vs = ns.map V.bl
  | [], vs, ns, h, r => by
    simp only [blsD, Option.some.injEq] at h
    subst h
    exact r.eqnil
  | .bl i :: ds, vs, ns, h, r => by
    simp only [blsD, Option.map_eq_some_iff] at h
    obtain ⟨ms, h, rfl⟩ := h
    obtain ⟨v, t, rfl, h1, h2⟩ := r.uncons
    rw [show v = .bl i from h1, blsD_ok h h2]
    rfl
  | .non :: _, _, _, h, _ => by simp [blsD] at h
  | .int _ :: _, _, _, h, _ => by simp [blsD] at h
  | .str _ :: _, _, _, h, _ => by simp [blsD] at h
  | .tup _ :: _, _, _, h, _ => by simp [blsD] at h
  | .ref _ :: _, _, _, h, _ => by simp [blsD] at h
  | .fn _ :: _, _, _, h, _ => by simp [blsD] at h
  | .kls _ :: _, _, _, h, _ => by simp [blsD] at h
end
/-- what a call of one list asks -/
def onSeq (f : List D → MH → (D → MH → Prop) → Prop) : FD := fun ds M Q => match ds with
  | [.ref a] => match rdL M a with
    | some xs => f xs M Q
    | none => False
  | _ => False
def fSum : FD := onSeq fun xs M Q => match intsD xs with
  | some ns => Q (.int ns.sum) M
  | none => False
def fAny : FD := onSeq fun xs M Q => match blsD xs with
  | some ns => Q (.bl (ns.any id)) M
  | none => False
def fAll : FD := onSeq fun xs M Q => match blsD xs with
  | some ns => Q (.bl (ns.all id)) M
  | none => False
def fMaxL : FD := onSeq fun xs M Q => match intsD xs with
  | some ns => 0 < ns.length ∧ ∀ m, m ∈ ns → (∀ y, y ∈ ns → y ≤ m) → Q (.int m) M
  | none => False
def fMax2 : FD := fun ds M Q => match ds with
  | [.int i, .int j] => Q (.int (if j > i then j else i)) M
  | _ => False
def fMin2 : FD := fun ds M Q => match ds with
  | [.int i, .int j] => Q (.int (if j < i then j else i)) M
  | _ => False
def fMax : FD := fun ds M Q => match ds with
  | [_, _] => fMax2 ds M Q
  | _ => fMaxL ds M Q
def fAbs : FD := fun ds M Q => match ds with
  | [.int i] => Q (.int (if i < 0 then -i else i)) M
  | _ => False
def fInt : FD := fun ds M Q => match ds with
  | [.int i] => Q (.int i) M
  | [.bl b] => Q (.int (if b then 1 else 0)) M
  | _ => False
def fStrI : FD := fun ds M Q => match ds with
  | [.int i] => i.natAbs.log2 < 1920 ∧ Q (.str (toString i)) M
  | _ => False
section
variable {K : PySem.W.Frag} {mg : Str → Option Value}
theorem onSeq_imp {f : List D → MH → (D → MH → Prop) → Prop} {r : List V → Hp → VK → Prop}
    (w : ∀ a xs M Q0 H ys Q, Rel P Wd K mg H M → SqL K H a ys → IsDs K mg H xs ys → f xs M Q0 → (∀ d M' u H', Q0 d M' → TLe K H H' → Rel P Wd K mg H' M' → IsD K mg H' d u → Q u H') → r [.ref a] H Q) : SimC P Wd K mg (onSeq f) r := by
  intro xs M Q0 H vs Q R rs h k
  unfold onSeq at h
  split at h
  · rename_i a
    obtain ⟨v, rfl, r1⟩ := isDs1 rs
    cases (show v = .ref a from r1)
    split at h
    · rename_i ds e
      obtain ⟨ys, h1, h2⟩ := rdL_sq R e
      exact w a ds M Q0 H ys Q R h1 h2 h k
    · exact h.elim
  · exact h.elim
theorem simc_sum : SimC P Wd K mg fSum (rSum K) := onSeq_imp fun a xs M Q0 H ys Q R h1 h2 h k => by
  split at h
  · rename_i ns e
    rw [intsD_ok e h2] at h1
    exact ⟨a, ns, rfl, h1, k _ M _ H h .refl R rfl⟩
  · exact h.elim
theorem simc_any : SimC P Wd K mg fAny (rAny K) := onSeq_imp fun a xs M Q0 H ys Q R h1 h2 h k => by
  split at h
  · rename_i ns e
    rw [blsD_ok e h2] at h1
    exact ⟨a, ns, rfl, h1, k _ M _ H h .refl R rfl⟩
  · exact h.elim
theorem simc_all : SimC P Wd K mg fAll (rAll K) := onSeq_imp fun a xs M Q0 H ys Q R h1 h2 h k => by
  split at h
  · rename_i ns e
    rw [blsD_ok e h2] at h1
    exact ⟨a, ns, rfl, h1, k _ M _ H h .refl R rfl⟩
  · exact h.elim
theorem simc_maxL : SimC P Wd K mg fMaxL (rMax K) := onSeq_imp fun a xs M Q0 H ys Q R h1 h2 h k => by
  split at h
  · rename_i ns e
    rw [intsD_ok e h2] at h1
    exact ⟨a, ns, rfl, h1, h.1, fun m hm hy => k _ M _ H (h.2 m hm hy) .refl R rfl⟩
  · exact h.elim
theorem simc_max2 : SimC P Wd K mg fMax2 (fun xs H Q => ∃ i j, xs = [.int i, .int j] ∧ Q (.int (if j > i then j else i)) H) := by
  intro xs M Q0 H vs Q R rs h k
  unfold fMax2 at h
  split at h
  · rename_i i j
    obtain ⟨v, w, rfl, r1, r2⟩ := isDs2 rs
    cases (show v = .int i from r1)
    cases (show w = .int j from r2)
    exact ⟨i, j, rfl, k _ M _ H h .refl R rfl⟩
  · exact h.elim
theorem simc_min2 : SimC P Wd K mg fMin2 (fun xs H Q => ∃ i j, xs = [.int i, .int j] ∧ Q (.int (if j < i then j else i)) H) := by
  intro xs M Q0 H vs Q R rs h k
  unfold fMin2 at h
  split at h
  · rename_i i j
    obtain ⟨v, w, rfl, r1, r2⟩ := isDs2 rs
    cases (show v = .int i from r1)
    cases (show w = .int j from r2)
    exact ⟨i, j, rfl, k _ M _ H h .refl R rfl⟩
  · exact h.elim
theorem simc_abs : SimC P Wd K mg fAbs (fun xs H Q => ∃ i, xs = [.int i] ∧ Q (.int (if i < 0 then -i else i)) H) := by
  intro xs M Q0 H vs Q R rs h k
  unfold fAbs at h
  split at h
  · rename_i i
    obtain ⟨v, rfl, r1⟩ := isDs1 rs
    cases (show v = .int i from r1)
    exact ⟨i, rfl, k _ M _ H h .refl R rfl⟩
  · exact h.elim
theorem simc_int : SimC P Wd K mg fInt (fun xs H Q => (∃ i, xs = [.int i] ∧ Q (.int i) H) ∨ ∃ k, xs = [.bl k] ∧ Q (.int (if k then 1 else 0)) H) := by
  intro xs M Q0 H vs Q R rs h k
  unfold fInt at h
  split at h
  · rename_i i
    obtain ⟨v, rfl, r1⟩ := isDs1 rs
    cases (show v = .int i from r1)
    exact .inl ⟨i, rfl, k _ M _ H h .refl R rfl⟩
  · rename_i b
    obtain ⟨v, rfl, r1⟩ := isDs1 rs
    cases (show v = .bl b from r1)
    exact .inr ⟨b, rfl, k _ M _ H h .refl R rfl⟩
  · exact h.elim
theorem simc_strI : SimC P Wd K mg fStrI (fun xs H Q => ∃ i, xs = [.int i] ∧ i.natAbs.log2 < 1920 ∧ Q (.str (toString i)) H) := by
  intro xs M Q0 H vs Q R rs h k
  unfold fStrI at h
  split at h
  · rename_i i
    obtain ⟨v, rfl, r1⟩ := isDs1 rs
    cases (show v = .int i from r1)
    exact ⟨i, rfl, h.1, k _ M _ H h.2 .refl R rfl⟩
  · exact h.elim
end
theorem cd_max {X : Cx} (hc : X.calm = true) : CallD X (.builtin "max") fMax :=
  (CallD.of (cr_max hc) simc_maxL).or (CallD.of (call_max2 hc) simc_max2) fun ds M Q h => by
    unfold fMax at h
    split at h
    · exact .inr h
    · exact .inl h

/-! ### isinstance -/
def tyD (M : MH) : D → Option String
  | .non => some "NoneType"
  | .bl _ => some "bool"
  | .int _ => some "int"
  | .str _ => some "str"
  | .tup _ => some "tuple"
  | .ref a => match rdL M a with
    | some _ => some "list"
    | none => none
  | .fn _ => none
  | .kls _ => none
def isiTys : List String := ["int", "bool", "str", "tuple", "list"]
theorem kit_ok (K : PySem.W.Frag) : ∀ (t T : String), t ∈ ["NoneType", "bool", "int", "str", "tuple", "list"] → T ∈ isiTys → PySem.W.kitOne K (.type t) (.type T) = some (t == T || (t == "bool" && T == "int")) := by
  intro t T ht hT
  simp only [isiTys, List.mem_cons, List.not_mem_nil, or_false] at ht hT
  rcases ht with rfl | rfl | rfl | rfl | rfl | rfl <;> rcases hT with rfl | rfl | rfl | rfl | rfl <;> rfl
def dIsi (T : String) (t : TD) : TD := fun env M Q => t env M fun d M1 => match tyD M1 d with
  | some s => Q (.bl (s == T || (s == "bool" && T == "int"))) M1
  | none => False
theorem ty_ok {K : PySem.W.Frag} {mg : Str → Option Value} {H : Hp} {M : MH} (R : Rel P Wd K mg H M) : ∀ (d : D) (v : V) (s : String), tyD M d = some s → IsD K mg H d v → TyX K H v (.type s) ∧ s ∈ ["NoneType", "bool", "int", "str", "tuple", "list"]
  | .non, v, s, h, r => by
    cases h; rw [show v = .non from r]; exact ⟨.base .non, by decide⟩
  | .bl b, v, s, h, r => by
    cases h; rw [show v = .bl b from r]; exact ⟨.base (.bl b), by decide⟩
  | .int i, v, s, h, r => by
    cases h; rw [show v = .int i from r]; exact ⟨.base (.int i), by decide⟩
  | .str x, v, s, h, r => by
    cases h; rw [show v = .str x from r]; exact ⟨.base (.str x), by decide⟩
  | .tup ds, v, s, h, r => by
    cases h
    obtain ⟨a, xs, rfl, h1, h2⟩ := isD_tupE r
    refine ⟨?_, by decide⟩
    rcases h1 with (h1 | ⟨o, h1⟩) | ⟨o, its, n, h1, h3, _⟩
    · exact .base (.tup h1)
    · exact .fTuple h1
    · exact .kTuple h1 h3
  | .ref a, v, s, h, r => by
    cases (show v = .ref a from r)
    simp only [tyD] at h
    cases e : rdL M a with
    | none => rw [e] at h; cases h
    | some xs =>
      rw [e] at h
      cases h
      refine ⟨?_, by decide⟩
      obtain ⟨vs, h1, _⟩ := rdL_sq R e
      rcases h1 with (h1 | ⟨o, h1⟩) | ⟨o, its, n, h1, h3, _⟩
      · exact .base (.lst h1)
      · exact .base (.frz h1)
      · exact .kList h1 h3
  | .fn _, v, s, h, r => by cases h
  | .kls _, v, s, h, r => by cases h
theorem de_isi {X : Cx} {a : Expr} {ta : TD} {p p2 pos : Pos} {T : String} (hT : T ∈ isiTys) (hg : Gl X "isinstance") (hm : X.mg "isinstance" = none) (hg2 : Gl X (Str.ofString T)) (hm2 : X.mg (Str.ofString T) = none) (ha : DE X a ta)
    (hv : bootBuiltins (Str.ofString T) = some (.type T)) (hn : Str.ofString T ≠ "__name__") (hdb : (Str.ofString T == ("__debug__" : Str)) = false)
    (he : starEach [a, .Name (Str.ofString T) p2] X.env = (false, eval a X.env) :: starEach [.Name (Str.ofString T) p2] X.env) : DE X (.Call (.Name "isinstance" p) [a, .Name (Str.ofString T) p2] [] pos) (dIsi T ta) := by
  refine PE.imp (pe_callB call_isi hg hm boot_isinstance (pa_cons ha (pa_cons (pe_bltn (v := .ty T) hg2 hm2 hv rfl hn hdb) pa_nil rfl) he) (by decide) (by decide) he rfl) fun σ H Q h => ?_
  obtain ⟨env, M, Q0, R, S, h, k⟩ := h
  refine lf_bind R S h fun d M1 v H1 q l R1 S1 r => ?_
  cases e : tyD M1 d with
  | none => rw [e] at q; exact q.elim
  | some s =>
    rw [e] at q
    obtain ⟨h1, h2⟩ := ty_ok R1 d v s e r
    exact ⟨v, .ty T, .type s, .type T, _, rfl, .ty T, h1, kit_ok X.K s T h2 hT, k _ M1 _ H1 q l R1 rfl⟩
end Dn

set_option Elab.async false
set_option linter.all false
set_option maxRecDepth 100000
set_option maxHeartbeats 4000000
namespace Dn
open PySem PySem.Spec L2
open PyProof.Rows hiding St
variable {P : Program} {Wd : World}

/-! ### min of data -/
def ltB (M : MH) (a b : D) : Bool := match py M 12 a, py M 12 b with
  | some p, some q => (ltP p q).getD false
  | _, _ => false
def cmpB (M : MH) (a b : D) : Bool := match py M 12 a, py M 12 b with
  | some p, some q => (ltP p q).isSome
  | _, _ => false
def leastD (lt : D → D → Bool) (x : D) (xs : List D) : D := xs.foldl (fun a y => if lt y a then y else a) x
def fMinS (xs : List D) (M : MH) (Q : D → MH → Prop) : Prop := (xs.all fun a => xs.all fun b => cmpB M a b) = true ∧ match xs with
  | [] => False
  | x :: r => Q (leastD (ltB M) x r) M
def fMinL : FD := fun ds M Q => match ds with
  | [.tup xs] => fMinS xs M Q
  | [.ref a] => match rdL M a with
    | some xs => fMinS xs M Q
    | none => False
  | _ => False
def fMin : FD := fun ds M Q => match ds with
  | [_, _] => fMin2 ds M Q
  | _ => fMinL ds M Q
section
variable {X : Cx} {pins : List (Addr × Obj)} {σ : St} {H : Hp} {s : Shared} {M : MH}
theorem min_cmp (R : Rel X.prog X.w X.K X.mg H M) (I : Inv X pins σ H s) {A : Around} (hu : A.units + 64 < cLine) {ds : List D} {vs : List V} {us : Array Value} (r : IsDs X.K X.mg H ds vs) (rv : Vals vs us.toList)
    (hc : (ds.all fun a => ds.all fun b => cmpB M a b) = true) : CmpIn X.prog X.w A .Lt s.heap (fun i v => us[i]? = some v) (fun i j => ltB M (ds.getD i .non) (ds.getD j .non)) := by
  have at_ : ∀ (i : Nat) (v : Value), us[i]? = some v → ∃ d x, ds[i]? = some d ∧ IsD X.K X.mg H d x ∧ RelV x v := by
    intro i v hv
    have hv' : us.toList[i]? = some v := by rw [Array.getElem?_toList]; exact hv
    have hi : i < vs.length := by
      rw [rv.length]
      exact (List.getElem?_eq_some_iff.mp hv').1
    obtain ⟨u, e1, e2⟩ := rv.get (List.getElem?_eq_getElem hi)
    rw [hv'] at e1
    cases e1
    obtain ⟨d, e3, e4⟩ := r.at (List.getElem?_eq_getElem hi)
    exact ⟨d, vs[i], e3, e4, e2⟩
  intro i j vi vj s' Q E hk hi hj hq
  obtain ⟨d1, x1, a1, b1, c1⟩ := at_ i vi hi
  obtain ⟨d2, x2, a2, b2, c2⟩ := at_ j vj hj
  have e1 : ds.getD i .non = d1 := by rw [List.getD_eq_getElem?_getD, a1]; rfl
  have e2 : ds.getD j .non = d2 := by rw [List.getD_eq_getElem?_getD, a2]; rfl
  have hq : Q (.bool (ltB M (ds.getD i .non) (ds.getD j .non))) s' := hq
  rw [e1, e2] at hq
  have hcc : cmpB M d1 d2 = true := List.all_eq_true.mp (List.all_eq_true.mp hc d1 (List.mem_of_getElem? a1)) d2 (List.mem_of_getElem? a2)
  unfold cmpB at hcc
  unfold ltB at hq
  split at hcc
  · rename_i p q g1 g2
    rw [g1, g2] at hq
    obtain ⟨k, hk2⟩ := Option.isSome_iff_exists.mp hcc
    simp only [hk2, Option.getD_some] at hq
    obtain ⟨as, ra⟩ := (py_v R 12 d1 x1 p g1 b1).reads I _ _ _ c1
    obtain ⟨bs, rb⟩ := (py_v R 12 d2 x2 q g2 b2).reads I _ _ _ c2
    have hp := py_depth g1
    exact rcLt_of p q k A s' vi vj as bs (PySem.W.reads_keeps hk ra) (PySem.W.reads_keeps hk rb) ((py_v R 12 d1 x1 p g1 b1).plain _ _) ((py_v R 12 d2 x2 q g2 b2).plain _ _) hk2 (by omega) X.prog X.w E Q hq
  · cases hcc
theorem min_pick {x : D} {r : List D} {vs : List V} {us : Array Value} (rd : IsDs X.K X.mg H (x :: r) vs) (rv : Vals vs us.toList) {v : Value} {k : Nat} (hk : k = us.size - 1)
    (hv : us[argBest (fun i j => ltB M ((x :: r).getD i .non) ((x :: r).getD j .non)) k]? = some v) : ∃ w, IsD X.K X.mg H (leastD (ltB M) x r) w ∧ RelV w v := by
  have hn : us.size = r.length + 1 := by
    have h1 := rd.length
    have h2 := rv.length
    rw [h1] at h2
    simpa using h2.symm
  have hk' : k = r.length := by omega
  subst hk'
  obtain ⟨e1, e2⟩ := PySem.W.argBest_fold (ltB M) .non x r r.length (Nat.le_refl _)
  rw [List.take_length] at e2
  generalize hb : argBest (fun i j => ltB M ((x :: r).getD i .non) ((x :: r).getD j .non)) r.length = b at *
  have hlt : b < (x :: r).length := by simp; omega
  have e3 : (x :: r)[b]? = some (leastD (ltB M) x r) := by
    rw [List.getElem?_eq_getElem hlt]
    rw [List.getD_eq_getElem?_getD, List.getElem?_eq_getElem hlt] at e2
    simpa [leastD] using e2
  obtain ⟨w, h1, h2⟩ := rd.get e3
  obtain ⟨u, h3, h4⟩ := rv.get h1
  rw [Array.getElem?_toList, hv] at h3
  cases h3
  exact ⟨w, h2, h4⟩
theorem cd_minL (hc : X.calm = true) (hu : X.A.units + 80 < cLine) : CallD X (.builtin "min") fMinL := by
  intro pins s σ H xs us Q I rs h
  obtain ⟨ds, M, Q0, R, rd, h, k⟩ := h
  have hh : X.A.in1.handled = none := I.ok.hd hc
  have fin : ∀ {x : D} {r : List D} {vs : List V} {its : List Value} {v : Value} {s' : Shared} {a : Addr} {o : Obj} {s₂ : Shared}, Q0 (leastD (ltB M) x r) M → IsDs X.K X.mg H (x :: r) vs → Vals vs its →
      its.toArray[argBest (fun i j => ltB M ((x :: r).getD i .non) ((x :: r).getD j .non)) (its.toArray.size - 1)]? = some v → s₂ = { s with heap := s.heap.push o } → a = s.heap.objs.size → Moved [a] (fun a b => b = a) s₂ s' → EP X pins σ Q v s' := by
    intro x r vs its v s' a o s₂ q rd rv hv e ha m
    obtain ⟨h', tk, rfl, hk'⟩ := PySem.W.moved_old e ha m
    obtain ⟨w, h1, h2⟩ := min_pick (X := X) (M := M) rd (us := its.toArray) (by simpa using rv) rfl hv
    exact ⟨w, H, I.kept (t' := tk) hk', h2, k _ M w H q .refl R h1⟩
  unfold fMinL at h
  split at h
  · rename_i es
    obtain ⟨v, rfl, r1⟩ := isDs1 rd
    obtain ⟨p, vs, rfl, h1, h2⟩ := isD_tupE r1
    obtain ⟨u, rfl, ru⟩ := vals1 rs
    cases ru
    obtain ⟨its, rv, pt, hz⟩ := I.tuple h1
    obtain ⟨hcm, h⟩ := h
    cases es with
    | nil => exact h.elim
    | cons x r =>
      have hn : 0 < its.toArray.size := by
        have := rv.length
        rw [h2.length] at this
        rw [List.size_toArray, ← this]
        exact Nat.succ_pos _
      refine call_min_walkH (PySem.W.iter_tupleW (A := X.A.in1) hh (show s.heap.IsTuple p its.toArray from pt) fun s₂ e W st hfp hw hk => ?_)
      exact ⟨_, _, _, _, _, _, _, s.heap, _, rfl, W, st, hfp, hn, hw, hk, min_cmp R I (A := X.A.in1) (by show X.A.units + 1 + 64 < _; omega) h2 (by simpa using rv) hcm, fun v s' hP m => fin h h2 rv hP e rfl m⟩
  · rename_i a
    obtain ⟨v, rfl, r1⟩ := isDs1 rd
    cases (show v = .ref a from r1)
    obtain ⟨u, rfl, ru⟩ := vals1 rs
    cases ru
    split at h
    · rename_i es e0
      obtain ⟨vs, h1, h2⟩ := rdL_sq R e0
      obtain ⟨its, rv, pl, hz⟩ := I.list h1
      obtain ⟨hcm, h⟩ := h
      cases es with
      | nil => exact h.elim
      | cons x r =>
        have hn : 0 < its.toArray.size := by
          have := rv.length
          rw [h2.length] at this
          rw [List.size_toArray, ← this]
          exact Nat.succ_pos _
        refine call_min_walkH (PySem.W.iter_listW (A := X.A.in1) hh pl.isList fun s₂ e W st hfp hw hk => ?_)
        exact ⟨_, _, _, _, _, _, _, s.heap, _, rfl, W, st, hfp, hn, hw, hk, min_cmp R I (A := X.A.in1) (by show X.A.units + 1 + 64 < _; omega) h2 (by simpa using rv) hcm, fun v s' hP m => fin h h2 rv hP e rfl m⟩
    · exact h.elim
  · exact h.elim
theorem cd_min (hc : X.calm = true) (hu : X.A.units + 80 < cLine) : CallD X (.builtin "min") fMin :=
  (cd_minL hc hu).or (CallD.of (call_min2 hc) simc_min2) fun ds M Q h => by
    unfold fMin at h
    split at h
    · exact .inr h
    · exact .inl h

/-! ### repr -/
def fRepr : FD := fun ds M Q => match ds with
  | [d] => match py M 12 d with
    | some p => (p.showable = true ∧ p.shown.length ≤ LN) ∧ Q (.str p.shown) M
    | none => False
  | _ => False
theorem plain_nod : ∀ p : PyData, p.plain = true → p.hasDict = false
  | .none, _ => rfl
  | .bool _, _ => rfl
  | .int _, _ => rfl
  | .str _, _ => rfl
  | .list ps, h => by rw [PyData.plain] at h; rw [PyData.hasDict]; exact plain_nods ps h
  | .tuple ps, h => by rw [PyData.plain] at h; rw [PyData.hasDict]; exact plain_nods ps h
  | .dict _, h => by simp [PyData.plain] at h
where plain_nods : ∀ ps : List PyData, PyData.plainAll ps = true → PyData.hasDictAll ps = false
  | [], _ => rfl
  | p :: ps, h => by
    rw [PyData.plainAll, Bool.and_eq_true] at h
    rw [PyData.hasDictAll, plain_nod p h.1, plain_nods ps h.2]; rfl
theorem cd_repr (hu : X.A.units + 64 < cLine) (hg : X.A.guards = some []) : CallD X (.builtin "repr") fRepr := by
  intro pins s σ H xs us Q I rs h
  obtain ⟨ds, M, Q0, R, rd, h, k⟩ := h
  unfold fRepr at h
  split at h
  · rename_i d
    obtain ⟨v, rfl, r1⟩ := isDs1 rd
    obtain ⟨u, rfl, ru⟩ := vals1 rs
    cases e : py M 12 d with
    | none => rw [e] at h; exact h.elim
    | some p =>
      rw [e] at h
      obtain ⟨⟨h1, h2⟩, q⟩ := h
      have pv := py_v R 12 d v p e r1
      have fin : ∀ (h' : Heap) (t tk : Nat), (∀ b o, s.heap.get? b = some o → h'.get? b = some o) → EP X pins σ Q (.str p.shown t) { s with heap := h', toks := tk } := fun h' t tk hk =>
        ⟨.str p.shown, H, I.kept (t' := tk) hk, ⟨t, rfl⟩, k _ M _ H q .refl R rfl⟩
      obtain ⟨as, rr⟩ := pv.reads I _ _ _ ru
      have hp := py_depth e
      have hnd := plain_nod p (pv.plain _ _)
      have sz : p.shown.length ≤ sizeLine := by rw [ln_eq]; exact h2
      cases pv with
      | non => cases ru; exact PySem.P.repr_of_none (fin s.heap _ _ fun _ _ e => e)
      | bl b =>
        cases ru
        refine PySem.P.repr_of_bool ?_
        cases b <;> exact fin s.heap _ _ fun _ _ e => e
      | int i =>
        obtain ⟨t, rfl⟩ := ru
        exact PySem.P.repr_of_int (by simpa [PyData.showable] using h1) (fin s.heap _ _ fun _ _ e => e)
      | str x =>
        obtain ⟨t, rfl⟩ := ru
        exact PySem.P.repr_of_str (fin s.heap _ _ fun _ _ e => e) sz
      | lst ha hb =>
        cases ru
        exact repr_of_reads' rr h1 (fun z => by rw [hnd] at z; cases z) hg (by omega) (fun _ _ e => e) (fun h' u tk hk => fin h' u tk hk) sz
      | tup ha hb =>
        cases ru
        exact repr_of_reads' rr h1 (fun z => by rw [hnd] at z; cases z) hg (by omega) (fun _ _ e => e) (fun h' u tk hk => fin h' u tk hk) sz
  · exact h.elim
end
end Dn

set_option Elab.async false
set_option linter.all false
set_option maxRecDepth 100000
set_option maxHeartbeats 4000000
namespace Dn
open PySem PySem.Spec L2
open PyProof.Rows hiding St
variable {P : Program} {Wd : World}

/-! ### x[::-1] of a tuple or a list -/
section
variable {prog : Program} {w : World} {A : Around} {E : Value → Shared → Prop} {s : Shared}
theorem adj_rev (n : Nat) : Builtin.Slice.sliceAdjust none none (-1) (n : Int) = ((n : Int) - 1, -1) := by
  unfold Builtin.Slice.sliceAdjust
  simp
theorem places_rev (n : Nat) : Builtin.Slice.slicePlaces ((n : Int) - 1) (-1) (-1) = n := by
  unfold Builtin.Slice.slicePlaces
  simp
  try omega
theorem pick_rev (xs : List Value) : (List.range xs.length).filterMap (fun (m : Nat) => xs[((xs.length : Int) - 1 + (m : Int) * (-1)).toNat]?) = xs.reverse := by
  have key : ∀ l : List Nat, (∀ m ∈ l, m < xs.length) → l.filterMap (fun (m : Nat) => xs[((xs.length : Int) - 1 + (m : Int) * (-1)).toNat]?) = l.map (fun m => xs.reverse[m]?.getD default) := by
    intro l
    induction l with
    | nil => intro _; rfl
    | cons m l ih =>
      intro hl
      have hm := hl m List.mem_cons_self
      have e : ((xs.length : Int) - 1 + (m : Int) * (-1)).toNat = xs.length - 1 - m := by omega
      have e2 : xs[((xs.length : Int) - 1 + (m : Int) * (-1)).toNat]? = some (xs.reverse[m]?.getD default) := by
        rw [e, List.getElem?_reverse hm, List.getElem?_eq_getElem (by omega)]
        rfl
      rw [List.filterMap_cons_some (f := fun (m : Nat) => xs[((xs.length : Int) - 1 + (m : Int) * (-1)).toNat]?) e2, ih fun x hx => hl x (List.mem_cons_of_mem _ hx), List.map_cons]
  have h := key (List.range xs.length) fun m hm => List.mem_range.mp hm
  rw [h]
  apply List.ext_getElem?
  intro i
  by_cases hi : i < xs.length
  · rw [List.getElem?_map, List.getElem?_range hi, Option.map_some, List.getElem?_eq_getElem (by simpa using hi)]
    rfl
  · rw [List.getElem?_eq_none (by simpa using hi), List.getElem?_eq_none (by simpa using hi)]
theorem applied_rev {sl : Addr} {n : Nat} {t : Tok} {Q : Int × Int × Nat → Shared → Prop} (hs : s.heap.IsSliceOf sl .none .none (.int (-1) t))
    (h : Q ((n : Int) - 1, -1, n) s) : wpAny (model prog w) A (Builtin.Slice.sliceApplied (.ref sl) (pure (n : Int))) Q E s := by
  obtain ⟨os, hos, hcs, hds⟩ := id hs
  unfold Builtin.Slice.sliceApplied Builtin.Slice.sliceFields
  refine wpAny_bind (wpAny_bind (wpAny_field hos hds (x := .none) rfl (wpAny_bind (wpAny_field hos hds (x := .none) rfl (wpAny_bind (wpAny_field hos hds (x := .int (-1) t) rfl (wpAny_pure ?_)))))))
  refine wpAny_bind (slicePart_int ?_)
  show wpAny _ _ (if ((-1 : Int) == 0) = true then _ else _) _ _ s
  rw [if_neg (by decide)]
  refine wpAny_bind (slicePart_none (wpAny_bind (slicePart_none (wpAny_bind (wpAny_pure ?_)))))
  show wpAny _ _ (match Builtin.Slice.sliceAdjust none none (-1) (n : Int) with | (lo, hi) => pure (lo, (-1 : Int), Builtin.Slice.slicePlaces lo hi (-1))) _ _ s
  rw [adj_rev n]
  show wpAny _ _ (pure ((n : Int) - 1, (-1 : Int), Builtin.Slice.slicePlaces ((n : Int) - 1) (-1) (-1))) _ _ s
  rw [places_rev]
  exact wpAny_pure h
theorem getItem_tuple_rev {t sl : Addr} {its : List Value} {k : Tok} {Q : Value → Shared → Prop} (ht : IsTup s.heap t its.toArray) (hs : s.heap.IsSliceOf sl .none .none (.int (-1) k))
    (h : Q (.ref s.heap.objs.size) { s with heap := s.heap.push { cls := .type "tuple", data := .seq its.reverse.toArray } }) (hsz : its.length ≤ sizeLine) : wpAny (model prog w) A (getItem (.ref t) (.ref sl)) Q E s := by
  have hok : sizeOk (.seq its.reverse.toArray) := by
    show its.reverse.toArray.size ≤ sizeLine
    rw [List.size_toArray, List.length_reverse]
    exact hsz
  obtain ⟨os, hos, hcs, hds⟩ := id hs
  have hTs : s.TypeIs (.ref sl) "slice" := ⟨os, hos, hcs⟩
  unfold getItem
  try with_reducible refine wpAny_holding ?_
  first | refine wpAny_bind (wpAny_pure ?_) | skip
  refine wpAny_bind (wpAny_sequenceKey ht.typeIs (by decide) ?_)
  refine wpAny_bind (wpAny_callSpecial?_slot (name := Str.ofString "__getitem__") ht.typeIs PyProof.Rows.slot_tuple_getitem
    (wpAny_call_entry PyProof.Rows.slot_tuple_getitem ht.typeIs entry_tuple_getitem ?_ (args_tuple_getitem _ _)))
  show wpAny _ _ (Builtin.Tuple.tupleItemsOf (.ref t) >>= _) _ _ s
  refine wpAny_bind (tupleItemsOf_ ht ?_)
  refine wpAny_bind (wpAny_typeOf hTs ?_)
  rw [if_pos (by decide)]
  refine wpAny_bind (applied_rev hs ?_)
  show wpAny _ _ (if ((((its.toArray.size : Nat) : Int) - 1 == 0) && ((-1 : Int) == 1) && (its.toArray.size == its.toArray.size)) = true then _ else _) _ _ s
  rw [if_neg (by simp)]
  have e : ((List.range its.toArray.size).filterMap fun (m : Nat) => its.toArray[(((its.toArray.size : Nat) : Int) - 1 + (m : Int) * (-1)).toNat]?).toArray = its.reverse.toArray := by
    congr 1
    have := pick_rev its
    simpa using this
  rw [e]
  first
    | exact wpAny_bind (m := Builtin.Tuple.tupleExact _) (wpAny_newObj_type (wpAny_pure ⟨_, rfl, wpAny_pure h⟩) hok)
    | exact wpAny_bind (m := Builtin.Tuple.tupleExact _) (wpAny_newObj_type (wpAny_bind (wpAny_pure (wpAny_pure ⟨_, rfl, wpAny_pure h⟩))) hok)
    | exact wpAny_bind (wpAny_bind (m := Builtin.Tuple.tupleExact _) (wpAny_newObj_type (wpAny_pure (wpAny_pure ⟨_, rfl, wpAny_pure h⟩)) hok))
    | exact wpAny_bind (wpAny_bind (m := Builtin.Tuple.tupleExact _) (wpAny_newObj_type (wpAny_pure ⟨_, rfl, wpAny_pure h⟩) hok))
end
def tRev (K : PySem.W.Frag) (te : TE) : TE := fun σ H Q => te σ H fun x H1 => ∃ a xs, x = .ref a ∧ ((SqL K H1 a xs ∧ ∀ p, H1 p = none → Q (.ref p) (upd H1 p (.lst xs.reverse))) ∨ (SqT K H1 a xs ∧ ∀ p, H1 p = none → Q (.ref p) (upd H1 p (.tup xs.reverse))))
section
variable {X : Cx} {e : Expr} {k : Nat} {p1 p2 p3 pos : Pos}
theorem pe_rev {te : TE} (he : PE X e te) : PE X (.Subscript e (.Slice none none (some (.UnaryOp .USub (.Constant (.int 1) k p1) p2)) p3) pos) (tRev X.K te) := by
  refine ⟨fun pins s σ H Q I h => ?_⟩
  refine Subscript_ (thn (he.run pins s σ H _ I h) fun v s1 ⟨x, H1, I1, r1, q1⟩ => ?_)
  obtain ⟨a, xs, ex, q⟩ := q1
  subst ex
  cases r1
  have hst : PO X (some (.UnaryOp .USub (.Constant (.int 1) k p1) p2)) (tPart (tUn (rU fun i => .int (-i)) (tC (.int 1)))) := po_some (pe_un un_neg pe_int)
  refine wpAny_Slice (thn (po_none.run pins s1 σ H1 (fun o H2 => o = none ∧ H2 = H1) I1 ⟨rfl, rfl⟩) fun vl s2 ⟨l, H2, I2, pl, el, e2⟩ => ?_)
  subst el e2
  refine thn (po_none.run pins s2 σ H2 (fun o H3 => o = none ∧ H3 = H2) I2 ⟨rfl, rfl⟩) fun vu s3 ⟨u, H3, I3, pu, eu, e3⟩ => ?_
  subst eu e3
  refine thn (hst.run pins s3 σ H3 (fun o H4 => o = some (-1) ∧ H4 = H3) I3 ⟨1, rfl, -1, rfl, rfl, rfl⟩) fun vs s4 ⟨o, H4, I4, ps, eo, e4⟩ => ?_
  subst eo e4
  cases pl
  cases pu
  cases ps with
  | int _ tk =>
  have I5 : Inv X pins σ H4 { s4 with heap := s4.heap.push { cls := .type "slice", data := .fields #[.none, .none, .int (-1) tk] } } := I4.kept (t' := s4.toks) fun b ob q => Heap.get?_push_of_some _ q
  show wpAny (model X.prog X.w) X.A (subscriptTail e (.Slice none none (some (.UnaryOp .USub (.Constant (.int 1) k p1) p2)) p3) (.ref a) (.ref s4.heap.objs.size)) (EP X pins σ Q) X.xe { s4 with heap := s4.heap.push { cls := .type "slice", data := .fields #[.none, .none, .int (-1) tk] } }
  rcases q with ⟨hx, q⟩ | ⟨hx, q⟩
  · obtain ⟨its, r, ht, hz⟩ := I5.list hx
    have hlen := r.length
    refine tail_any (ops := [.ref a, .ref s4.heap.objs.size]) ht.isList.typeIs (PySem.slot_list_getitem.lookup) ?_ (by with_unfolding_all rfl)
    refine wpAny_getItem_list_slice ht.isList (Heap.IsSliceOf.new _ .none .none (.int (-1) tk)) .none .none (.int (-1) tk) (by decide) ?_ (by rw [List.size_toArray]; omega)
    rw [PySem.W.krv_pick]
    refine ⟨.ref _, _, I5.laid (t' := s4.toks) (o := .lst xs.reverse) (fun b ob q => Heap.get?_push_of_some _ q) (Nat.le_refl _) ?_, rfl, q _ (I5.hok.fresh (Nat.le_refl _))⟩
    exact ⟨by rw [List.length_reverse]; exact hz, _, 0, r.reverse, Heap.get?_push_size _ rfl⟩
  · obtain ⟨its, r, ht, hz⟩ := I5.tuple hx
    have hlen := r.length
    refine tail_any (ops := [.ref a, .ref s4.heap.objs.size]) ht.typeIs PyProof.Rows.slot_tuple_getitem.lookup ?_ (by with_unfolding_all rfl)
    refine getItem_tuple_rev ht (Heap.IsSliceOf.new _ .none .none (.int (-1) tk)) ?_ (by rw [← hlen]; exact hz)
    refine ⟨.ref _, _, I5.laid (t' := s4.toks) (o := .tup xs.reverse) (fun b ob q => Heap.get?_push_of_some _ q) (Nat.le_refl _) ?_, rfl, q _ (I5.hok.fresh (Nat.le_refl _))⟩
    exact ⟨by rw [List.length_reverse]; exact hz, _, r.reverse, IsTup.new _ _⟩
def dRev (t : TD) : TD := fun env M Q => t env M fun d M1 => match d with
  | .tup ds => Q (.tup ds.reverse) M1
  | .ref a => match rdL M1 a with
    | some ds => ∀ r, M1 r = none → Q (.ref r) (up M1 r (.lst ds.reverse))
    | none => False
  | _ => False
theorem de_rev {te : TD} (he : DE X e te) : DE X (.Subscript e (.Slice none none (some (.UnaryOp .USub (.Constant (.int 1) k p1) p2)) p3) pos) (dRev te) := by
  refine PE.imp (pe_rev he) fun σ H Q h => ?_
  obtain ⟨env, M, Q0, R, S, h, k⟩ := h
  refine lf_bind R S h fun d M1 v H1 q l R1 S1 r => ?_
  split at q
  · rename_i ds
    obtain ⟨p, xs, rfl, h1, h2⟩ := isD_tupE r
    exact ⟨p, xs, rfl, .inr ⟨h1, fun p hp => k _ M1 _ _ q (l.trans (newT R1 h2.reverse hp).1) (newT R1 h2.reverse hp).2.1 (newT R1 h2.reverse hp).2.2⟩⟩
  · rename_i a
    cases (show v = .ref a from r)
    split at q
    · rename_i ds e
      obtain ⟨vs, h1, h2⟩ := rdL_sq R1 e
      exact ⟨a, vs, rfl, .inl ⟨h1, fun p hp => k _ _ _ _ (q p (rel_none R1 hp)) (l.trans (newL R1 h2.reverse hp).1) (newL R1 h2.reverse hp).2 rfl⟩⟩
    · exact q.elim
  · exact q.elim
end

/-! ### stores into lists, op= -/
def setD (o i v : D) (M : MH) (N : MH → Prop) : Prop := match o, i with
  | .ref p, .int k => match M p with
    | some (.lst xs) => match ixN xs.length k with
      | some j => N (up M p (.lst (xs.set j v)))
      | none => False
    | _ => False
  | _, _ => False
def dSetS (to ti te : TD) : TDS := fun E env M => te env M fun d M1 => to env M1 fun o M2 => ti env M2 fun i M3 => setD o i d M3 fun M4 => E.nx env M4
def iopD : Operator → D → D → Option D
  | .Add, .int a, .int b => some (.int (a + b))
  | .Sub, .int a, .int b => some (.int (a - b))
  | _, _, _ => none
def dAug (i : Nat) (op : Operator) (te : TD) : TDS := fun E env M => match env[i]? with
  | some (some x) => te env M fun y M1 => match iopD op x y with
    | some z => E.nx (env.set i (some z)) M1
    | none => False
  | _ => False
def getD' (o i : D) (M : MH) : Option D := match o, i with
  | .ref p, .int k => match rdL M p with
    | some xs => atI xs k
    | none => none
  | _, _ => none
def dAugS (op : Operator) (to ti te : TD) : TDS := fun E env M => to env M fun o M1 => ti env M1 fun i M2 => match getD' o i M2 with
  | some x => te env M2 fun y M3 => match iopD op x y with
    | some z => setD o i z M3 fun M4 => E.nx env M4
    | none => False
  | none => False
theorem setD_imp {K : PySem.W.Frag} {mg : Str → Option Value} {H : Hp} {M : MH} {o i v : D} {ov iv vv : V} {N : MH → Prop} {Q : Hp → Prop} (R : Rel P Wd K mg H M) (ro : IsD K mg H o ov) (ri : IsD K mg H i iv) (rv : IsD K mg H v vv) (h : setD o i v M N)
    (k : ∀ M' H', N M' → TLe K H H' → Rel P Wd K mg H' M' → Q H') : rSetL ov iv vv H Q := by
  unfold setD at h
  split at h
  · rename_i p j
    split at h
    · rename_i xs e
      split at h
      · rename_i j' e2
        cases (show ov = .ref p from ro)
        cases (show iv = .int j from ri)
        obtain ⟨ys, h1, h2⟩ := R p _ e
        have z := setL R h1 (h2.set rv j')
        exact ⟨p, ys, j, j', rfl, rfl, h1, by rw [h2.length]; exact e2, k _ _ h z.1 z.2⟩
      · exact h.elim
    · exact h.elim
  · exact h.elim
theorem pget_list {X : Cx} : PGet X (rIxL X.K) := by
  intro pins s σ H x y v u Q I rx ry h
  obtain ⟨p, xs, i, z, rfl, rfl, hq, he, q⟩ := h
  cases rx
  obtain ⟨t, rfl⟩ := ry
  obtain ⟨its, r, pl, hz⟩ := I.list hq
  obtain ⟨j, h1, h2, h3, h4, h5⟩ := atI_get he
  obtain ⟨w, ew, rw'⟩ := r.get h2
  have hl := r.length
  have hn := line63
  have fin : EP X pins σ Q w s := ⟨z, H, I, rw', q⟩
  by_cases h0 : 0 ≤ i
  · have hj : i.toNat = j := by
      rw [seqIndex_of h0 h5] at h1
      exact Option.some.inj h1
    exact wpAny_getItem_list pl.isList h0 (by omega) (by rw [hj]; simpa using ew) fin
  · have hj : (i + (its.toArray.size : Int)).toNat = j := by
      rw [seqIndex_neg (by omega) h4] at h1
      rw [List.size_toArray, ← hl]
      exact Option.some.inj h1
    exact wpAny_getItem_list_neg pl.isList (by omega) (by rw [List.size_toArray] <;> omega) (by omega) (by rw [hj]; simpa using ew) fin
def ipAll : Operator → TIp
  | .Add => ipI fun i j => i + j
  | .Sub => ipI fun i j => i - j
  | _ => fun _ _ _ _ => False
theorem ipAll_ok {X : Cx} : ∀ op : Operator, PIp X op (ipAll op)
  | .Add => ip_add
  | .Sub => ip_sub
  | .Mult => fun _ _ _ _ _ _ _ _ _ _ _ _ h => h.elim
  | .FloorDiv => fun _ _ _ _ _ _ _ _ _ _ _ _ h => h.elim
  | .Mod => fun _ _ _ _ _ _ _ _ _ _ _ _ h => h.elim
  | .Pow => fun _ _ _ _ _ _ _ _ _ _ _ _ h => h.elim
  | .BitXor => fun _ _ _ _ _ _ _ _ _ _ _ _ h => h.elim
  | .MatMult => fun _ _ _ _ _ _ _ _ _ _ _ _ h => h.elim
  | .Div => fun _ _ _ _ _ _ _ _ _ _ _ _ h => h.elim
  | .LShift => fun _ _ _ _ _ _ _ _ _ _ _ _ h => h.elim
  | .RShift => fun _ _ _ _ _ _ _ _ _ _ _ _ h => h.elim
  | .BitOr => fun _ _ _ _ _ _ _ _ _ _ _ _ h => h.elim
  | .BitAnd => fun _ _ _ _ _ _ _ _ _ _ _ _ h => h.elim
theorem iop_imp {K : PySem.W.Frag} {mg : Str → Option Value} {H : Hp} {op : Operator} {x y z : D} {v w : V} {Q : VK} (rx : IsD K mg H x v) (ry : IsD K mg H y w) (h : iopD op x y = some z) (k : ∀ u, IsD K mg H z u → Q u H) : ipAll op v w H Q := by
  unfold iopD at h
  split at h
  · rename_i a b
    cases h
    exact ⟨a, b, rx, ry, k _ rfl⟩
  · rename_i a b
    cases h
    exact ⟨a, b, rx, ry, k _ rfl⟩
  · cases h
section
variable {X : Cx} {o i e : Expr} {to ti te : TD} {pos tpos : Pos}
theorem ds_setS (ho : DE X o to) (hi : DE X i ti) (he : DE X e te)
    (ha : ∀ v, assign (.Subscript o i tpos) X.env v = (do
      let ov ← holding [v] (eval o X.env)
      let iv ← holding [v, ov] (eval i X.env)
      standAt tpos
      holding [v, ov, iv] (setItem ov iv v)
      release [v, ov, iv] []))
    (hs : swapsWithSole [.Subscript o i tpos] e pos.line X.env = pure false) (hw : swappedStores [.Subscript o i tpos] e X.env = pure none) (h1 : (assignEach [.Subscript o i tpos] X.env).map (·.2) = [assign (.Subscript o i tpos) X.env]) :
    DS X (.Assign [.Subscript o i tpos] e pos) (dSetS to ti te) := by
  refine PS.imp (ps_asg he (pg_sub ho hi set_list ha) hs hw h1) fun E σ H h => ?_
  obtain ⟨env, M, E0, R, S, h, kn, kr, kb, kc⟩ := h
  refine lf_bind R S h fun d M1 v H1 q l R1 S1 r => ?_
  refine lf_bind R1 S1 q fun od M2 ov H2 q2 l2 R2 S2 r2 => ?_
  refine lf_bind R2 S2 q2 fun id M3 iv H3 q3 l3 R3 S3 r3 => ?_
  exact setD_imp R3 (r2.le l3 _ _) r3 (r.le (l2.trans l3) _ _) q3 fun M' H' n l' R' => kn env M' σ H' n (((l.trans l2).trans l3).trans l') R' (S3.le l')
theorem ds_aug {j : Nat} {x : Str} {op : Operator} {pos' : Pos} (hN : X.N.Nodup) (hj : X.N[j]? = some x) (hx : Loc X.env.scope x) (he : DE X e te) (hf : X.fn x = true ∨ X.env.scope.names.lookup x = some .local) :
    DS X (.AugAssign (.Name x pos') op e pos) (dAug j op te) := by
  refine PS.imp (ps_aug hN hj hx he (ipAll_ok op) hf) fun E σ H h => ?_
  obtain ⟨env, M, E0, R, S, h, kn, kr, kb, kc⟩ := h
  unfold dAug at h
  split at h
  · rename_i xd ex
    obtain ⟨v, hv, rv⟩ := S.2 j xd ex
    refine ⟨v, hv, lf_bind R S h fun y M1 w H1 q l R1 S1 r => ?_⟩
    cases ez : iopD op xd y with
    | none => rw [ez] at q; exact q.elim
    | some z =>
      rw [ez] at q
      exact iop_imp (rv.le l _ _) r ez fun u ru => kn _ M1 _ H1 q l R1 (S1.set ru j)
  · exact h.elim
theorem ds_augS {op : Operator} (ho : DE X o to) (hi : DE X i ti) (he : DE X e te)
    (ha : ∀ ov iv new, augStore i ov iv new = (do holding [new, ov, iv] (setItem ov iv new); release [new, ov, iv] []; pure .next)) : DS X (.AugAssign (.Subscript o i tpos) op e pos) (dAugS op to ti te) := by
  refine PS.imp (ps_augS ho hi pget_list he (ipAll_ok op) set_list ha) fun E σ H h => ?_
  obtain ⟨env, M, E0, R, S, h, kn, kr, kb, kc⟩ := h
  refine lf_bind R S h fun od M1 ov H1 q l R1 S1 r => ?_
  refine lf_bind R1 S1 q fun id M2 iv H2 q2 l2 R2 S2 r2 => ?_
  cases eg : getD' od id M2 with
  | none => rw [eg] at q2; exact q2.elim
  | some x =>
    rw [eg] at q2
    have ro := r.le l2 _ _
    unfold getD' at eg
    split at eg
    · rename_i p kk
      split at eg
      · rename_i xs e0
        obtain ⟨vs, h1, h2⟩ := rdL_sq R2 e0
        obtain ⟨u, h3, h4⟩ := isDs_atI h2 eg
        refine ⟨p, vs, kk, u, ro, r2, h1, h3, ?_⟩
        refine lf_bind R2 S2 q2 fun y M3 w H3 q3 l3 R3 S3 r3 => ?_
        cases ez : iopD op x y with
        | none => rw [ez] at q3; exact q3.elim
        | some z =>
          rw [ez] at q3
          refine iop_imp (h4.le l3 _ _) r3 ez fun u' ru => ?_
          exact setD_imp R3 (ro.le l3 _ _) (r2.le l3 _ _) ru q3 fun M' H' n l' R' => kn env M' σ H' n (((l.trans l2).trans l3).trans l') R' (S3.le l')
      · cases eg
    · cases eg
/-- (a, b, ..) = a list -/
def dAsgL (t : TD) (ps : Pats) : TDS := fun E env M => t env M fun d M1 => match d with
  | .ref a => match rdL M1 a with
    | some ds => match bindPs ps ds env with
      | some env1 => E.nx env1 M1
      | none => False
    | none => False
  | _ => False
theorem ds_asgL {es : List Expr} {k : Nat} {ps : Pats} {tp : Pos} (hc : X.calm = true) (he : DE X e te) (hg : PGs X es (gPats X.K ps)) (hn : (assignEach es X.env).length = ps.len) (hst : (assignEach es X.env).findIdx? (·.1) = none)
    (hs : swapsWithSole [.Tuple es k tp] e pos.line X.env = pure false) (hw : swappedStores [.Tuple es k tp] e X.env = pure none) (h1 : (assignEach [.Tuple es k tp] X.env).map (·.2) = [assign (.Tuple es k tp) X.env]) : DS X (.Assign [.Tuple es k tp] e pos) (dAsgL te ps) := by
  refine PS.imp (ps_asg he (pg_unl hc hg hn hst) hs hw h1) fun E σ H h => ?_
  obtain ⟨env, M, E0, R, S, h, kn, kr, kb, kc⟩ := h
  refine lf_bind R S h fun d M1 v H1 q l R1 S1 r => ?_
  split at q
  · rename_i a
    cases (show v = .ref a from r)
    split at q
    · rename_i ds e0
      obtain ⟨vs, h1, h2⟩ := rdL_sq R1 e0
      cases eb : bindPs ps ds env with
      | none => rw [eb] at q; exact q.elim
      | some env1 =>
        rw [eb] at q
        exact ⟨a, vs, rfl, h1, by rw [h2.length]; exact bindPs_len (K := X.K) (mg := X.mg) (H := H1) ps ds env env1 eb, gPats_ok ps ds vs env env1 σ _ S1 h2 eb fun σ' S' _ => kn env1 M1 σ' H1 q l R1 S'⟩
    · exact q.elim
  · exact q.elim
end
end Dn

set_option Elab.async false
set_option linter.all false
set_option maxRecDepth 100000
set_option maxHeartbeats 4000000
namespace Dn
open PySem PySem.Spec L2
open PyProof.Rows hiding St
variable {P : Program} {Wd : World}

/-! ### defs: a promise over trees, where no repr is under way -/
structure FnG (P : Program) (w : World) (K : PySem.W.Frag) (mg : Str → Option Value) (base : Heap) (k : Nat) (f : Addr) (fd : FuncData) (ps : List Str) (g : FD) : Prop where
  len : ∀ ds M Q, g ds M Q → ds.length = ps.length
  run : ∀ (A : Around) (outer : List Env) (s : Shared) (H : Hp) (args : Args) (us : List Value) (vs : List V) (Q : VK), Room k A → A.guards = some [] → Env0 P w K mg base A outer s H → BindsTo s fd args (ps.zip us) → Vals vs us → relC P w K mg g vs H Q →
    codeAny (model P w) A (.call (.ref f) args) (CR CX0 outer P w H s Q E0) s
theorem FnG.lenV {P : Program} {w : World} {K : PySem.W.Frag} {mg : Str → Option Value} {base : Heap} {k : Nat} {f : Addr} {fd : FuncData} {ps : List Str} {g : FD} (F : FnG P w K mg base k f fd ps g) {vs : List V} {H : Hp} {Q : VK} (h : relC P w K mg g vs H Q) : vs.length = ps.length := by
  obtain ⟨ds, M, Q0, R, r, h, k⟩ := h
  rw [r.length]
  exact F.len _ _ _ h
section
variable {X : Cx} {k : Nat} {f C : Addr} {fd : FuncData} {ps : List Str} {g : FD} {x m : Str} {p pos apos : Pos} {e o : Expr} {es : List Expr} {t : TDs}
theorem run_fnG {pins : List (Addr × Obj)} {σ : St} {H : Hp} {s : Shared} {Q : VK} {us : List Value} {vs : List V} (F : FnG X.prog X.w X.K X.mg X.base k f fd ps g) (hr : Room k X.A) (hgd : X.A.guards = some []) (hb : Binds X.K fd ps [])
    (I : Inv X pins σ H s) (r : Vals vs us) (h : relC X.prog X.w X.K X.mg g vs H Q) : wpAny (model X.prog X.w) X.A (call (.ref f) us) (EP X pins σ Q) X.xe s := by
  have hl : us.length = ps.length := by rw [← r.length]; exact F.lenV h
  have hb' := hb s us I.kIn (by rw [List.append_nil]; exact hl)
  rw [List.append_nil] at hb'
  refine wpAny_call (codeAny_mono (F.run X.A X.stack s H ⟨us, []⟩ us vs Q hr hgd I.env0 hb' r h) fun r' s' hq => ?_)
  cases r' with
  | error e => exact False.elim hq
  | ok fl =>
    cases fl with
    | ret u => exact I.after hq
    | next => exact False.elim hq
    | brk => exact False.elim hq
    | cont => exact False.elim hq
theorem de_call (F : FnG X.prog X.w X.K X.mg X.base k f fd ps g) (hr : Room k X.A) (hgd : X.A.guards = some []) (hg : Gl X x) (hm : X.mg x = some (.ref f)) (hk : PySem.W.keepIn X.K (.ref f) = true) (hb : Binds X.K fd ps [])
    (ha : DA X (e :: es) t) (hdb : (x == ("__debug__" : Str)) = false) (he : starEach (e :: es) X.env = (false, eval e X.env) :: starEach es X.env) (hpl : (backTo pos (starEach es X.env)).any (·.1) = false) :
    DE X (.Call (.Name x p) (e :: es) [] pos) (dF g t) := by
  refine ⟨fun pins s σ H Q I h => ?_⟩
  refine wpAny_Call_Name_kw (ld_glob I hg hm ?_ hdb)
  refine PySem.W.callWith_K (h₀ := X.base) I.ok.mod.kin hk (thn (ha.run pos pins s σ H _ I (df_imp h)) fun us s1 ⟨vs, H1, I1, r, q⟩ => ⟨I1.kIn, ?_⟩) he hpl
  exact run_fnG F hr hgd hb I1 r q
theorem de_call0 (F : FnG X.prog X.w X.K X.mg X.base k f fd ps g) (hr : Room k X.A) (hgd : X.A.guards = some []) (hg : Gl X x) (hm : X.mg x = some (.ref f)) (hk : PySem.W.keepIn X.K (.ref f) = true) (hb : Binds X.K fd ps [])
    (hdb : (x == ("__debug__" : Str)) = false) : DE X (.Call (.Name x p) [] [] pos) (dF g dNil) := by
  refine ⟨fun pins s σ H Q I h => ?_⟩
  refine wpAny_Call_Name_kw (ld_glob I hg hm ?_ hdb)
  have h2 : tCB (relC X.prog X.w X.K X.mg g) (lfA X.prog X.w X.K X.mg dNil) σ H Q := df_imp h
  have h3 : relC X.prog X.w X.K X.mg g [] H Q := by
    obtain ⟨env, M, Q0, R, S, hh, kk⟩ := h2
    exact kk [] M [] H hh .refl R .nil
  exact PySem.W.callWith_K0 I.kIn hk (run_fnG (us := []) F hr hgd hb I .nil h3)
end
/-- the slots at a def's entry -/
def startE (n : Nat) (ds : List D) : Ev := ds.map some ++ List.replicate (n - ds.length) none
theorem start_rel {K : PySem.W.Frag} {mg : Str → Option Value} {H : Hp} {N : List Str} {ds : List D} {vs : List V} (r : IsDs K mg H ds vs) : RelS K mg H (startE N.length ds) (L2.start N vs) := by
  unfold startE L2.start
  refine ⟨by simp [r.length], fun i d e => ?_⟩
  by_cases hi : i < ds.length
  · rw [List.getElem?_append_left (by simpa using hi), List.getElem?_map] at e
    have e2 : ds[i]? = some d := by
      cases q : ds[i]? with
      | none => rw [q] at e; cases e
      | some d' => rw [q] at e; cases e; rfl
    obtain ⟨v, h1, h2⟩ := r.get e2
    refine ⟨v, ?_, h2⟩
    rw [List.getElem?_append_left (by simpa [r.length] using hi), List.getElem?_map, h1]
    rfl
  · rw [List.getElem?_append_right (by simpa using hi)] at e
    rw [List.getElem?_replicate] at e
    split at e <;> cases e
theorem deeper_guards {A : Around} {env : Env} (h : A.guards = some []) : (A.deeper env).guards = some [] := h
section
variable {w : World} {K : PySem.W.Frag} {mg : Str → Option Value} {base : Heap} {x qual : Str} {params : Arguments} {body : List Stmt} {scope : Scope} {f : Addr} {fd : FuncData} {N ps : List Str} {k : Nat} {g : FD} {t : TDS}
/-- a def's body keeps its promise -/
theorem fnG_of (F : FunD K x qual params body scope [] [] f fd) (S : FnScope N ps scope) (len : ∀ ds M Q, g ds M Q → ds.length = ps.length)
    (hbody : ∀ (cdv : Value) (A : Around) (outer : List Env) (s : Shared) (H : Hp), Room k (A.deeper (envOfC qual scope s.heap.objs.size f cdv)) → (A.deeper (envOfC qual scope s.heap.objs.size f cdv)).guards = some [] →
      DSs (cxOf CX0 P w K mg base N qual scope f cdv A outer s H E0).nox body t)
    (ht : ∀ ds M (Q : D → MH → Prop), g ds M Q → t { nx := fun _ M' => Q .non M', rt := Q } (startE N.length ds) M) : FnG P w K mg base (k + 1) f fd ps g := by
  obtain ⟨oc, od, dV, kV, doc, pm, an, cdv, ct, osl, rfl, lk, hcd, _, _⟩ := F.ex
  refine ⟨len, fun A outer s H args us vs Q hr hgd e0 hb r hsp => ?_⟩
  have hl : vs.length = ps.length := by
    obtain ⟨ds, M, Q0, R, rd, h, _⟩ := hsp
    rw [rd.length]
    exact len _ _ _ h
  have KX : K.In s.heap := e0.mod.kin.keeps fun b o e => (e0.bs b o e).1
  have lim : s.heap.NoLimit := e0.mod.nolimit.keeps fun b o e => (e0.bs b o e).1
  have hkind : ∀ y ∈ ps.zip us, scope.names.lookup y.1 = some .local ∨ (scope.names.lookup y.1 = some .cell ∧ ((cellsFrom (s.heap.objs.size + 1) scope.names []).lookup y.1).isSome = true) := fun ⟨n, v⟩ hy => by
    rcases S.par n (List.of_mem_zip hy).1 with q | q
    · exact .inl q
    · exact .inr ⟨q, PySem.W.cellsFrom_some _ _ _ (.inl q)⟩
  refine codeAny_call_function hr.depth (KX _ _ lk) rfl S.co S.gen rfl (PySem.W.codeRec_of KX hcd) (hb _ _ _ _ ?_)
  refine wpAny_newFunctionEnv_cells S.kind hkind fun env he s1 x => ?_
  subst he
  refine ⟨lim.keeps x.toInCall.keep, codeAny_func ?_⟩
  have hd := (hbody cdv A outer s H (hr.deeper _) (deeper_guards hgd)).nox
  have I : Inv (cxOf CX0 P w K mg base N qual scope f cdv A outer s H E0) [] (L2.start N vs) H s1 := inv_start S hr.hd e0 hl r x
  obtain ⟨ds, M, Q0, R, rd, h, kk⟩ := hsp
  have hq : lfS P w K mg t { nx := fun _ H' => Q .non H', rt := Q } (L2.start N vs) H :=
    ⟨startE N.length ds, M, _, R, start_rel rd, ht ds M Q0 h, fun env' M' σ' H' q l R' S' => kk .non M' .non H' q l R' rfl, fun d M' v H' q l R' r' => kk d M' v H' q l R' r', fun _ _ _ _ q => q.elim, fun _ _ _ _ q => q.elim⟩
  refine wpAny_mono (hd.run [] s1 (L2.start N vs) H _ I hq) (fun fl s' hs => ?_) fun e s' hs => hs
  have fin : ∀ {σ' : St} {H' : Hp} {v : V} {u : Value}, Inv (cxOf CX0 P w K mg base N qual scope f cdv A outer s H E0) [] σ' H' s' → RelV v u → Q v H' → CE outer P w H s Q u s' :=
    fun {σ' H' v u} J rv q => ⟨v, H', J.os, J.bare, J.base, J.hok, rv, q⟩
  cases fl with
  | ret u =>
    obtain ⟨v, σ', H', J, rv, q⟩ := hs
    exact fin J rv q
  | next =>
    obtain ⟨σ', H', J, q⟩ := hs
    exact fin (v := V.non) (u := Value.none) J rfl q
  | brk =>
    obtain ⟨_, _, _, q⟩ := hs
    exact False.elim q
  | cont =>
    obtain ⟨_, _, _, q⟩ := hs
    exact False.elim q
end

/-! ### the module's constants -/
def GloD (K : PySem.W.Frag) (mg : Str → Option Value) (x : Str) (d : D) : Prop := ∃ v u, mg x = some u ∧ RelV v u ∧ ∀ H, IsD K mg H d v
theorem de_glo {X : Cx} {x : Str} {d : D} {pos : Pos} (hg : Gl X x) (h : GloD X.K X.mg x d) (hd : (x == ("__debug__" : Str)) = false) : DE X (.Name x pos) (dC d) := by
  obtain ⟨v, u, h1, h2, h3⟩ := h
  exact de_con (pe_glob hg h1 h2 hd) h3

/-! ### the law's call -/
theorem law_callG {w : World} {K : PySem.W.Frag} {mg mb : Str → Option Value} {k : Nat} {fa a : Addr} {fd : FuncData} {x : Str} {g : FD} {s₁ : Shared} {vs : List Value} {ns : List Int}
    (KX : K.In s₁.heap) (hns : s₁.heap.Ns mainGlobals mg) (hb : s₁.heap.Ns builtinsNs mb) (hbb : ∀ x : Str, x ≠ "__name__" → mb x = bootBuiltins x) (hlim : s₁.heap.NoLimit) (hg : s₁.gens = #[])
    (ha : s₁.heap.get? a = some { cls := .type "list", data := .seq vs.toArray }) (hi : IntsAre vs ns) (hl : ns.length ≤ sizeLine) (hr : Room k callerA)
    (F : ∀ base : Heap, K.In base → base.Ns mainGlobals mg → FnG P w K mg base k fa fd [x] g) (hbind : ∀ (s : Shared) (u : Value), BindsTo s fd ⟨[u], []⟩ [(x, u)])
    (hsp : g [.kls (ns.map D.int)] (fun _ => none) fun d _ => d = .bl true) :
    codeAny (model P w) callerA (.call (.ref fa) ⟨[.ref a], []⟩) (fun r s' => r = .ok (.ret (.bool true)) ∧ OldK s₁.heap s'.heap ∧ s'.os = s₁.os ∧ AllBare s'.gens) s₁ := by
  have rv := vals_ints hi
  have lenV := hi.length
  -- from an abstract heap in which nothing but the script may be tracked
  have core : ∀ H : Hp, (∀ b, b ≠ a → H b = none) → (∀ o, H a = some o → o = .frz { cls := .type "list", data := .seq vs.toArray } (.lst (ns.map V.int))) → SqC K H a (ns.map V.int) → HOk P w H s₁.heap → (H a ≠ none → K.lookup a = none) →
      codeAny (model P w) callerA (.call (.ref fa) ⟨[.ref a], []⟩) (fun r s' => r = .ok (.ret (.bool true)) ∧ OldK s₁.heap s'.heap ∧ s'.os = s₁.os ∧ AllBare s'.gens) s₁ := by
    intro H Hn Ho hS hok hK
    have hA : ∀ b, H b ≠ none → b = a := fun b z => by
      by_cases hb : b = a
      · exact hb
      · exact absurd (Hn b hb) z
    have base_of : ∀ {b : Addr} {o : Obj}, s₁.heap.get? b = some o → H b = none → (hidT s₁.heap H).get? b = some o := fun e n => hidT_get e n
    have noA : ∀ {b : Addr} {o : Obj} {es : Array DictEntry} {ep : Nat}, s₁.heap.get? b = some o → o.data = .dict es ep → H b = none := fun {b o es ep} e d => by
      cases q : H b with
      | none => rfl
      | some u =>
        have e' : b = a := hA b (by rw [q]; simp)
        subst e'
        rw [ha] at e; cases e
        have d' : Data.seq vs.toArray _ = Data.dict es ep := d
        cases d'
    have nsK : ∀ {b : Addr} {m : Str → Option Value}, s₁.heap.Ns b m → (hidT s₁.heap H).Ns b m := fun {b m} ⟨o, es, ep, e, d, r⟩ => ⟨o, es, ep, base_of e (noA e d), d, r⟩
    have hKb : K.In (hidT s₁.heap H) := fun b o e => base_of (KX b o e) (by
      cases q : H b with
      | none => rfl
      | some u =>
        have e' : b = a := hA b (by rw [q]; simp)
        subst e'
        rw [hK (by rw [q]; simp)] at e; cases e)
    have hM : Mod K mg (hidT s₁.heap H) := ⟨hKb, nsK hns, ⟨mb, nsK hb, hbb⟩, let ⟨mc, h1, h2⟩ := hlim; ⟨mc, nsK h1, h2⟩⟩
    have e0 : Env0 P w K mg (hidT s₁.heap H) callerA [] s₁ H := ⟨rfl, hM, fun b o e => of_hidT e, Nat.le_of_eq (hidT_size _ _), trivial, fun b hb => absurd (show b ∈ ([] : List Addr) from hb) (by simp), hok, .of_eq hg⟩
    have R : Rel P w K mg H (fun _ => none) := fun b o z => by cases z
    have rel : relC P w K mg g [.ref a] H (fun v _ => v = .bl true) := ⟨[.kls (ns.map D.int)], _, _, R, .cons (by rw [IsD]; exact ⟨a, _, rfl, hS, .of_ints ns⟩) .nil, hsp, fun d M' u H' q _ _ r => by
      subst q
      exact r⟩
    refine codeAny_mono ((F _ hKb (nsK hns)).run callerA [] s₁ H ⟨[.ref a], []⟩ [.ref a] [.ref a] _ hr rfl e0 (hbind s₁ (.ref a)) (.cons rfl .nil) rel) fun r s' h => ?_
    cases r with
    | error e => exact False.elim h
    | ok fl =>
      cases fl with
      | next => exact False.elim h
      | brk => exact False.elim h
      | cont => exact False.elim h
      | ret u =>
        obtain ⟨v, H', os, bare, un, hok', r', q⟩ := h
        have q' : v = .bl true := q
        subst q'
        obtain rfl : u = Value.bool true := r'
        refine ⟨rfl, OldK.of_keep fun b o e => ?_, os, bare⟩
        cases q : H b with
        | none => exact un.keep b o e q (by intro z; exact absurd (show b ∈ ([] : List Addr) from z) (by simp)) (by simp)
        | some u =>
          have e' : b = a := hA b (by rw [q]; simp)
          subst e'
          rw [Ho u q] at q
          have z2 := un.frzs b _ _ q
          obtain ⟨e1, _⟩ := hok b _ q
          obtain ⟨e2, _⟩ := hok' b _ z2
          rw [e] at e1; cases e1
          exact e2
  cases hk : K.lookup a with
  | some o =>
    have e := KX a o hk
    rw [ha] at e
    cases e
    exact core (fun _ => none) (fun _ _ => rfl) (fun o z => by cases z) (.inr ⟨_, vs.toArray, _, hk, rfl, rfl, rfl, by rw [List.size_toArray, lenV]; exact hl, by simpa using rv⟩) (fun b u z => by have z' : (none : Option HO) = some u := z; cases z') fun z => absurd rfl z
  | none =>
    refine core (fun b => if b = a then some (.frz { cls := .type "list", data := .seq vs.toArray } (.lst (ns.map V.int))) else none) (fun b hb => if_neg hb) (fun o z => ?_) (.inl ⟨{ cls := .type "list", data := .seq vs.toArray }, if_pos rfl⟩) (fun b u z => ?_) fun _ => hk
    · have z' := (if_pos rfl).symm.trans z
      cases z'
      rfl
    · by_cases hb : b = a
      · have z' := (if_pos hb).symm.trans z
        cases z'
        subst hb
        exact ⟨ha, by rw [List.length_map]; exact hl, vs, _, rv, ha⟩
      · have z' := (if_neg hb).symm.trans z
        cases z'
theorem walkG {l : PySem.W.OpenLaw} {n k : Nat} {q : Program} {loose : List Str} {XP : (Str → Option Value) → Heap → Prop} {YP : World → Heap → Prop} {d : DefRec} {x : Str} {g : FD}
    (hn : l.most = some n) (hn2 : n ≤ sizeLine) (hdf : d.params.defaults = []) (hr : Room k callerA)
    (F : ∀ (w : World) (mg : Str → Option Value) (fa : Addr) (h : Heap), YP w h → h.Ns mainGlobals mg → mg d.name = some (.ref fa) →
      ∃ (K : PySem.W.Frag) (fd : FuncData), K.In h ∧ (∀ (s : Shared) (u : Value), BindsTo s fd ⟨[u], []⟩ [(x, u)]) ∧ ∀ base : Heap, K.In base → base.Ns mainGlobals mg → FnG l.prog w K mg base k fa fd [x] g)
    (hsp : ∀ ns : List Int, ns.length ≤ n → g [.kls (ns.map D.int)] (fun _ => none) fun d _ => d = .bl true) :
    PySem.W.WalkO q loose XP YP l.row.toRowW d [] (fun f vs => PySem.call f vs) := by
  refine Att.attach_call hn hdf fun w s₀ s₁ mg mb fa o pm cd doc a vs ns G Y ho hd hcd hmg hobj hints hlen hg => ?_
  obtain ⟨K, fd, KX, hb, hF⟩ := F w mg fa _ Y G.T.g hmg
  exact law_callG KX G.T.g G.T.b G.T.builtins G.T.nolimit hg hobj hints (Nat.le_trans hlen hn2) hr hF hb (hsp ns hlen)
end Dn

set_option Elab.async false
set_option linter.all false
set_option maxRecDepth 100000
set_option maxHeartbeats 4000000
namespace Dn
open PySem PySem.Spec L2
open PyProof.Rows hiding St
variable {P : Program} {Wd : World}

/-! ### the forms that the rules' side conditions ask -/
/-- no star, no slice, no set display, no comprehension -/
def plainX : Expr → Bool
  | .Starred .. => false
  | .Slice .. => false
  | .Set .. => false
  | .ListComp .. => false
  | .SetComp .. => false
  | .DictComp .. => false
  | _ => true
def nst : Expr → Bool
  | .Starred .. => false
  | _ => true
def nsl : Expr → Bool
  | .Slice .. => false
  | _ => true
def nset : Expr → Bool
  | .Set .. => false
  | _ => true
def ncm : Expr → Bool
  | .ListComp .. => false
  | .SetComp .. => false
  | .DictComp .. => false
  | _ => true
def nsup : Expr → Bool
  | .Call (.Name _ _) [] [] _ => false
  | _ => true
def ntst : Expr → Bool
  | .UnaryOp .Not _ _ => false
  | .BoolOp .. => false
  | .IfExp .. => false
  | .Compare .. => false
  | _ => true
theorem star1 {e : Expr} (h : nst e = true) (es : List Expr) (env : Env) : starEach (e :: es) env = (false, eval e env) :: starEach es env := by
  cases e <;> first | rfl | exact absurd h Bool.false_ne_true
def nsts (es : List Expr) : Bool := es.all nst
theorem star_any {es : List Expr} (h : nsts es = true) (env : Env) : (starEach es env).any (·.1) = false := by
  induction es with
  | nil => rfl
  | cons e es ih =>
    have h' : (nst e && nsts es) = true := h
    rw [Bool.and_eq_true] at h'
    rw [star1 h'.1, List.any_cons, ih h'.2]
    rfl
theorem back_any {es : List Expr} (h : nsts es = true) (env : Env) (pos : Pos) : (backTo pos (starEach es env)).any (·.1) = false := by
  unfold backTo
  rw [List.any_map]
  exact star_any h env
theorem back_all {es : List Expr} (h : nsts es = true) (env : Env) (pos : Pos) : (backTo pos (starEach es env)).all (fun x => !x.1) = true := by
  have h2 := back_any h env pos
  rw [List.any_eq_false] at h2
  rw [List.all_eq_true]
  intro x hx
  simpa using h2 x hx
theorem star_len {es : List Expr} (h : nsts es = true) (env : Env) (pos : Pos) (h30 : es.length < 30) :
    ((backTo pos (starEach es env)).all (fun x => !x.1) && (backToKw pos (keywordEach [] env)).all (fun x => x.1.isSome)
      && decide (es.length + ([] : List Keyword).length + (if ([] : List Keyword).isEmpty then 0 else 1) < 30)) = true := by
  rw [back_all h]
  have : decide (es.length + ([] : List Keyword).length + (if ([] : List Keyword).isEmpty then 0 else 1) < 30) = true := by
    simp
    exact h30
  rw [this]
  rfl
theorem fold1 {e : Expr} (h : nset e = true) (env : Env) (x : Value) : foldedSetIterable e env x = pure x := by
  cases e <;> first | rfl | exact absurd h Bool.false_ne_true
theorem mark1 {e : Expr} (h : nset e = true) (op : CmpOp) : behindInMarks op e = false := by
  cases e <;> first | rfl | exact absurd h Bool.false_ne_true
theorem mark2 {e e' : Expr} (h : nset e' = true) (op op' : CmpOp) : lastMarks [op, op'] [e, e'] = false := mark1 h op'
theorem plainIx1 {e : Expr} (h : nsl e = true) : PlainIx e := by
  intro o i
  cases e <;> first | rfl | exact absurd h Bool.false_ne_true
theorem swap1 {e : Expr} (h : ncm e = true) (t : Option Expr) (l : Nat) (env : Env) : swapsWith e t l env = pure false := by
  cases e <;> first | rfl | exact absurd h Bool.false_ne_true
theorem base1 {o : Expr} (h : nsup o = true) (m : Str) (env : Env) (w : Sem Value) : attributeBase o m env w = w := by
  unfold attributeBase
  split
  · exact absurd h Bool.false_ne_true
  · rfl
theorem true1 {e : Expr} (h : ntst e = true) (env : Env) (w : Sem Value) : isTrue e env w = (do let v ← w; standAt e.pos; holding [v] (truthy v)) := by
  cases e with
  | UnaryOp op _ _ => cases op <;> first | rfl | exact absurd h Bool.false_ne_true
  | _ => first | rfl | exact absurd h Bool.false_ne_true
theorem asub1 {o i : Expr} (h : nsl i = true) (tpos : Pos) (env : Env) (v : Value) : assign (.Subscript o i tpos) env v = (do
    let ov ← holding [v] (eval o env)
    let iv ← holding [v, ov] (eval i env)
    standAt tpos
    holding [v, ov, iv] (setItem ov iv v)
    release [v, ov, iv] []) := by
  cases i <;> first | rfl | exact absurd h Bool.false_ne_true
theorem aaug1 {i : Expr} (h : nsl i = true) (ov iv new : Value) : augStore i ov iv new = (do holding [new, ov, iv] (setItem ov iv new); release [new, ov, iv] []; pure .next) := by
  cases i <;> first | rfl | exact absurd h Bool.false_ne_true
theorem each1 {t : Expr} (h : nst t = true) (env : Env) : (assignEach [t] env).map (·.2) = [assign t env] := by
  cases t <;> first | rfl | exact absurd h Bool.false_ne_true
theorem eachc {t : Expr} (h : nst t = true) (ts : List Expr) (env : Env) : assignEach (t :: ts) env = (false, assign t env) :: assignEach ts env := by
  cases t <;> first | rfl | exact absurd h Bool.false_ne_true
def nnm : Expr → Bool
  | .Name _ _ => false
  | _ => true
theorem few_names {α : Type} {f : Expr → Option α} (hf : ∀ e, nnm e = true → f e = none) : ∀ ts : List Expr, ts.any nnm = true → (ts.filterMap f).length < ts.length
  | [], h => by cases h
  | t :: ts, h => by
    rw [List.any_cons, Bool.or_eq_true] at h
    cases e : f t with
    | none =>
      rw [List.filterMap_cons_none e, List.length_cons]
      exact Nat.lt_succ_of_le (List.length_filterMap_le f ts)
    | some v =>
      rcases h with h | h
      · rw [hf t h] at e; cases e
      · rw [List.filterMap_cons_some e, List.length_cons, List.length_cons]
        exact Nat.succ_lt_succ (few_names hf ts h)
/-- no pair of stores is exchanged -/
def swn (t e : Expr) : Bool := match t, e with
  | .Tuple ts _ _, .Tuple vs _ _ => vs.all nst && (!(ts.length == 2 || ts.length == 3) || vs.all (foldedForSure 8) || ts.any nnm)
  | .List _ _, .Tuple _ _ _ => false
  | _, _ => true
theorem swn_ok {t e : Expr} (h : swn t e = true) (env : Env) : swappedStores [t] e env = pure none := by
  unfold swn at h
  split at h
  · rename_i ts k p vs k2 p2
    unfold swappedStores
    rw [Bool.and_eq_true, Bool.or_eq_true, Bool.or_eq_true] at h
    obtain ⟨h0, h⟩ := h
    split
    · rename_i ts' vs' heq
      cases heq
      rcases h with (h | h) | h
      · have : (!(ts.length == 2 || ts.length == 3) || vs.length != ts.length || env.blockKind != .function) = true := by rw [h]; rfl
        rw [if_pos this]
      · split
        · rfl
        · split
          · rfl
          · simp only [h, if_true]
            split <;> rfl
      · split
        · rfl
        · split
          · rfl
          · rename_i h9 h10
            have hlt := few_names (f := fun | .Name id pos => if (env.kindOf id == some .local && pos.line == (ts.head?.map (·.pos.line)).getD 0) = true then some id else none | _ => none) (fun e he => by cases e <;> first | rfl | exact absurd he Bool.false_ne_true) ts h
            refine if_pos ?_
            rw [Bool.or_eq_true]
            left
            simp only [bne_iff_ne]
            exact Nat.ne_of_lt hlt
    · rename_i hno
      exact (hno _ _ rfl).elim
  · exact absurd h Bool.false_ne_true
  · rename_i h1 h2
    unfold swappedStores
    cases t <;> cases e <;> first | rfl | (exact absurd rfl (h1 _ _ _ _ _ _ rfl)) | (exact absurd rfl (h2 _ _ _ _ _ rfl)) | skip
    all_goals first | rfl | (exfalso; exact h1 _ _ _ _ _ _ rfl rfl) | (exfalso; exact h2 _ _ _ _ _ rfl rfl)
theorem blk_fn {env : Env} (h : env.scope.kind = .function) : env.blockKind = .function := by
  unfold Env.blockKind
  rw [h]
  rfl
def swp (vs : List Expr) : Bool := vs.all nst && !(vs.all (foldedForSure 8)) && !(vs.all (constantsAlone 8))
theorem noStar {vs : List Expr} (h : vs.all nst = true) : (vs.any fun | .Starred .. => true | _ => false) = false := by
  rw [List.any_eq_false]
  intro x hx
  have := List.all_eq_true.mp h x hx
  cases x <;> first | exact Bool.false_ne_true | exact absurd this Bool.false_ne_true
theorem swp2_ok {x y : Str} {px py pt pt2 : Pos} {kt k2 : Nat} {a b : Expr} {env : Env} (hk : env.scope.kind = .function) (hx : env.scope.names.lookup x = some .local) (hy : env.scope.names.lookup y = some .local) (hl : py.line = px.line) (hne : x ≠ y)
    (h : swp [a, b] = true) : swappedStores [.Tuple [.Name x px, .Name y py] kt pt] (.Tuple [a, b] k2 pt2) env = pure (some [x, y]) := by
  unfold swp at h
  rw [Bool.and_eq_true, Bool.and_eq_true] at h
  obtain ⟨⟨h0, h1⟩, h2⟩ := h
  have e1 : env.kindOf x = some .local := hx
  have e2 : env.kindOf y = some .local := hy
  unfold swappedStores
  simp only [pure_bind, blk_fn hk, noStar h0]
  have h1' : ([a, b].all (foldedForSure 8)) = false := by rw [Bool.not_eq_true'] at h1; exact h1
  have h2' : ([a, b].all (constantsAlone 8)) = false := by rw [Bool.not_eq_true'] at h2; exact h2
  have hd : ([x, y].eraseDups).length = 2 := by
    simp [List.eraseDups_cons, hne, Ne.symm hne]
  simp [e1, e2, hl, h1', h2', Expr.pos]
  simp [List.eraseDups_cons, hne, Ne.symm hne]
  simp only [List.all_cons, List.all_nil, Bool.and_true, Bool.and_eq_true] at h0
  intro hh
  exfalso
  rcases hh with hh | hh
  · cases a <;> first | exact absurd hh Bool.false_ne_true | exact absurd h0.1 Bool.false_ne_true
  · cases b <;> first | exact absurd hh Bool.false_ne_true | exact absurd h0.2 Bool.false_ne_true
theorem swp3_ok {x y z : Str} {px py pz pt pt2 : Pos} {kt k2 : Nat} {a b c : Expr} {env : Env} (hk : env.scope.kind = .function) (hx : env.scope.names.lookup x = some .local) (hy : env.scope.names.lookup y = some .local) (hz : env.scope.names.lookup z = some .local)
    (hl : py.line = px.line) (hl2 : pz.line = px.line) (hxy : x ≠ y) (hxz : x ≠ z) (hyz : y ≠ z) (h : swp [a, b, c] = true) : swappedStores [.Tuple [.Name x px, .Name y py, .Name z pz] kt pt] (.Tuple [a, b, c] k2 pt2) env = pure (some [x, y, z]) := by
  unfold swp at h
  rw [Bool.and_eq_true, Bool.and_eq_true] at h
  obtain ⟨⟨h0, h1⟩, h2⟩ := h
  have e1 : env.kindOf x = some .local := hx
  have e2 : env.kindOf y = some .local := hy
  have e3 : env.kindOf z = some .local := hz
  unfold swappedStores
  simp only [pure_bind, blk_fn hk, noStar h0]
  have h1' : ([a, b, c].all (foldedForSure 8)) = false := by rw [Bool.not_eq_true'] at h1; exact h1
  have h2' : ([a, b, c].all (constantsAlone 8)) = false := by rw [Bool.not_eq_true'] at h2; exact h2
  simp [e1, e2, e3, hl, hl2, h1', h2', Expr.pos]
  simp [List.eraseDups_cons, hxy, hxz, hyz, Ne.symm hxy, Ne.symm hxz, Ne.symm hyz]
  simp only [List.all_cons, List.all_nil, Bool.and_true, Bool.and_eq_true] at h0
  intro hh
  exfalso
  rcases hh with hh | hh | hh
  · cases a <;> first | exact absurd hh Bool.false_ne_true | exact absurd h0.1 Bool.false_ne_true
  · cases b <;> first | exact absurd hh Bool.false_ne_true | exact absurd h0.2.1 Bool.false_ne_true
  · cases c <;> first | exact absurd hh Bool.false_ne_true | exact absurd h0.2.2 Bool.false_ne_true
end Dn

set_option Elab.async false
set_option linter.all false
set_option maxRecDepth 100000
set_option maxHeartbeats 4000000
namespace Dn
open PySem PySem.Spec L2
open PyProof.Rows hiding St
variable {P : Program} {Wd : World}

/-! ### the small form -/
inductive Cn where
  | non | bl (b : Bool) | int (i : Int) | str (x : Str)
def Cn.d : Cn → D
  | .non => .non
  | .bl b => .bl b
  | .int i => .int i
  | .str x => .str x
inductive Bi where
  | len | list | tuple | sum | any | all | max | min | abs | int | repr | str
inductive Mt where
  | append | pop | insert | extend
mutual
inductive Ex where
  | var (i : Nat)
  | cst (c : Cn)
  | glo (i : Nat)
  | tup (es : Exs)
  | lst (es : Exs)
  | bin (op : Operator) (a b : Ex)
  | neg (a : Ex)
  | not_ (a : Ex)
  | cmp (op : CmpOp) (a b : Ex)
  | chain (op op' : CmpOp) (a b c : Ex)
  | bop (k : Bool) (es : Exs)
  | ite (c a b : Ex)
  | ix (a b : Ex)
  | sl (a : Ex) (lo hi : Oe)
  | rev (a : Ex)
  | bi (b : Bi) (es : Exs)
  | isi (t : String) (a : Ex)
  | kin (neg : Bool) (i : Nat) (a : Ex)
  | kix (i : Nat) (a : Ex)
  | call (i : Nat) (es : Exs)
  | mt (m : Mt) (o : Ex) (es : Exs)
  | lc (s : Src) (p : Pat) (c : Oe) (e : Ex) (own : List (Str × Nat))
  | lc2 (s : Src) (p : Pat) (c : Oe) (s1 : Src) (p1 : Pat) (c1 : Oe) (e : Ex) (own : List (Str × Nat)) (vs1 : List Nat)
inductive Exs where
  | nil
  | cons (e : Ex) (es : Exs)
inductive Oe where
  | non
  | som (e : Ex)
inductive Src where
  | seq (e : Ex)
  | rng1 (a : Ex)
  | rng2 (a b : Ex)
  | rng3 (a b c : Ex)
  | enm (a : Ex)
  | zp (a b : Ex)
end
mutual
inductive Stm where
  | expr (e : Ex)
  | asg (p : Pat) (e : Ex)
  | asgL (ps : Pats) (e : Ex)
  | par (is : List Nat) (es : Exs)
  | setS (o i e : Ex)
  | aug (i : Nat) (op : Operator) (e : Ex)
  | augS (op : Operator) (o i e : Ex)
  | ite (c : Ex) (a b : Stms)
  | whl (c : Ex) (b : Stms)
  | for_ (s : Src) (p : Pat) (b : Stms)
  | ret (e : Ex)
  | retN | pass | brk | cnt | never
inductive Stms where
  | nil
  | cons (s : Stm) (r : Stms)
end

/-! ### its reading -/
structure Cst where
  c : List (Str × D)
  d : List (Str × List (Str × D))
def lkS (kvs : List (Str × D)) (z : Str) : Option D := (kvs.find? fun p => decide (p.1 = z)).map (·.2)
def dKin (neg : Bool) (kvs : List (Str × D)) (t : TD) : TD := fun env M Q => t env M fun d M1 => match d with
  | .str z => Q (.bl (if neg then !(lkS kvs z).isSome else (lkS kvs z).isSome)) M1
  | _ => False
def dKix (kvs : List (Str × D)) (t : TD) : TD := fun env M Q => t env M fun d M1 => match d with
  | .str z => match lkS kvs z with
    | some v => Q v M1
    | none => False
  | _ => False
/-- a dict of the module with text keys -/
def DctG (K : PySem.W.Frag) (w : World) (mg : Str → Option Value) (x : Str) (kvs : List (Str × D)) : Prop := ∃ d es n, mg x = some (.ref d) ∧ L2.KDict K w d es n ∧
  ∀ z, ∃ r, PySem.W.nsIn K d z = some r ∧ r.isSome = (lkS kvs z).isSome ∧ ∀ u dd, r = some u → lkS kvs z = some dd → ∃ v, RelV v u ∧ ∀ H, IsD K mg H dd v
section
variable {X : Cx} {x : Str} {kvs : List (Str × D)} {a : Expr} {ta : TD} {p pos : Pos}
theorem de_kin (neg : Bool) (hg : Gl X x) (h : DctG X.K X.w X.mg x kvs) (hd : (x == ("__debug__" : Str)) = false) (ha : DE X a ta) : DE X (.Compare a [if neg = true then .NotIn else .In] [.Name x p] pos) (dKin neg kvs ta) := by
  obtain ⟨d, es, n, h1, h2, h3⟩ := h
  have hb : PE X (.Name x p) (tC (.ref d)) := pe_glob hg h1 rfl hd
  have hm : ∀ op, behindInMarks op (.Name x p) = false := fun _ => rfl
  cases neg with
  | false =>
    refine PE.imp (pe_cmpR (op_in_kd h2) ha hb (hm _)) fun σ H Q h => ?_
    obtain ⟨env, M, Q0, R, S, h, k⟩ := h
    refine lf_bind R S h fun dd M1 v H1 q l R1 S1 r => ?_
    split at q
    · rename_i z
      obtain ⟨r0, e1, e2, _⟩ := h3 z
      refine ⟨z, r0, r, rfl, e1, ?_⟩
      rw [e2]
      exact k _ M1 _ H1 q l R1 rfl
    · exact q.elim
  | true =>
    refine PE.imp (pe_cmpR (op_notIn_kd h2) ha hb (hm _)) fun σ H Q h => ?_
    obtain ⟨env, M, Q0, R, S, h, k⟩ := h
    refine lf_bind R S h fun dd M1 v H1 q l R1 S1 r => ?_
    split at q
    · rename_i z
      obtain ⟨r0, e1, e2, _⟩ := h3 z
      refine ⟨z, r0, r, rfl, e1, ?_⟩
      rw [e2]
      exact k _ M1 _ H1 q l R1 rfl
    · exact q.elim
theorem de_kix (hg : Gl X x) (h : DctG X.K X.w X.mg x kvs) (hd : (x == ("__debug__" : Str)) = false) (ha : DE X a ta) (hs : PlainIx a) : DE X (.Subscript (.Name x p) a pos) (dKix kvs ta) := by
  obtain ⟨d, es, n, h1, h2, h3⟩ := h
  have hb : PE X (.Name x p) (tC (.ref d)) := pe_glob hg h1 rfl hd
  refine PE.imp (pe_ix ix_kdict hb ha hs) fun σ H Q h => ?_
  obtain ⟨env, M, Q0, R, S, h, k⟩ := h
  refine lf_bind R S h fun dd M1 v H1 q l R1 S1 r => ?_
  split at q
  · rename_i z
    split at q
    · rename_i v0 e0
      obtain ⟨r0, e1, e2, e3⟩ := h3 z
      rw [e0] at e2
      cases r0 with
      | none => cases e2
      | some u =>
        obtain ⟨v1, e4, e5⟩ := e3 u v0 rfl e0
        exact ⟨d, z, v1, rfl, r, ⟨es, n, u, h2.at_, h2.lit, e1, e4⟩, k _ M1 _ H1 q l R1 (e5 H1)⟩
    · exact q.elim
  · exact q.elim
end
def Bi.den : Bi → FD
  | .len => fLen | .list => fList | .tuple => fTuple | .sum => fSum | .any => fAny | .all => fAll | .max => fMax | .min => fMin | .abs => fAbs | .int => fInt | .repr => fRepr | .str => fStrI
def Mt.den : Mt → FM
  | .append => mAppend | .pop => mPop | .insert => mInsert | .extend => mExtend
section
variable (R : Nat → FD) (cs : Cst)
mutual
def denE : Ex → TD
  | .var i => dVar i
  | .cst c => dC c.d
  | .glo i => match cs.c[i]? with
    | some p => dC p.2
    | none => fun _ _ _ => False
  | .tup es => dTup (denEs es)
  | .lst es => dLst (denEs es)
  | .bin op a b => dOp (dBin op) (denE a) (denE b)
  | .neg a => dNeg (denE a)
  | .not_ a => dNotV (denE a)
  | .cmp op a b => dOp (dCmp op) (denE a) (denE b)
  | .chain op op' a b c => dChain (dCmp op) (dCmp op') (denE a) (denE b) (denE c)
  | .bop k es => denB k es
  | .ite c a b => dIf (denT c) (denE a) (denE b)
  | .ix a b => dOp dIx (denE a) (denE b)
  | .sl a lo hi => dSl (denE a) (denO lo) (denO hi)
  | .rev a => dRev (denE a)
  | .bi b es => dF b.den (denEs es)
  | .isi t a => dIsi t (denE a)
  | .kin neg i a => match cs.d[i]? with
    | some p => dKin neg p.2 (denE a)
    | none => fun _ _ _ => False
  | .kix i a => match cs.d[i]? with
    | some p => dKix p.2 (denE a)
    | none => fun _ _ _ => False
  | .call i es => dF (R i) (denEs es)
  | .mt m o es => dMt isLst m.den (denE o) (denEs es)
  | .lc s p c e own => dLc (denS s) p (denI c) (denE e) (own.map (·.2))
  | .lc2 s p c s1 p1 c1 e own vs1 => dLc2 (denS s) p (denI c) (denS s1) p1 (denI c1) (denE e) (own.map (·.2)) vs1
def denEs : Exs → TDs
  | .nil => dNil
  | .cons e es => dCons (denE e) (denEs es)
def denB (k : Bool) : Exs → TD
  | .nil => fun _ _ _ => False
  | .cons e .nil => denE e
  | .cons e (.cons e2 es) => if k = true then dAndV (denE e) (denB k (.cons e2 es)) else dOrV (denE e) (denB k (.cons e2 es))
def denT : Ex → TDT
  | .bop k es => denTB k es
  | .not_ a => dNot (denT a)
  | .var i => dTB (dVar i)
  | .cst c => dTB (dC c.d)
  | .cmp op a b => dTB (dOp (dCmp op) (denE a) (denE b))
  | .chain op op' a b c => dTB (dChain (dCmp op) (dCmp op') (denE a) (denE b) (denE c))
  | .ix a b => dTB (dOp dIx (denE a) (denE b))
  | .bi b es => dTB (dF b.den (denEs es))
  | .isi t a => dTB (dIsi t (denE a))
  | .call i es => dTB (dF (R i) (denEs es))
  | _ => fun _ _ _ => False
def denTB (k : Bool) : Exs → TDT
  | .nil => fun _ _ _ => False
  | .cons e .nil => denT e
  | .cons e (.cons e2 es) => if k = true then dAnd (denT e) (denTB k (.cons e2 es)) else dOr (denT e) (denTB k (.cons e2 es))
def denO : Oe → TDO
  | .non => dNoPart
  | .som e => dPart (denE e)
def denI : Oe → TDT
  | .non => dYes
  | .som e => denT e
def denS : Src → TDI
  | .seq e => dSeq (denE e)
  | .rng1 a => dRng1 (dCons (denE a) dNil)
  | .rng2 a b => dRng2 (dCons (denE a) (dCons (denE b) dNil))
  | .rng3 a b c => dRng3 (dCons (denE a) (dCons (denE b) (dCons (denE c) dNil)))
  | .enm a => dEnum (dCons (denE a) dNil)
  | .zp a b => dZip (dCons (denE a) (dCons (denE b) dNil))
end
mutual
def denSt : Stm → TDS
  | .expr e => dDrop (denE R cs e)
  | .asg p e => dAsg (denE R cs e) p
  | .asgL ps e => dAsgL (denE R cs e) ps
  | .par is es => dPar is (denEs R cs es)
  | .setS o i e => dSetS (denE R cs o) (denE R cs i) (denE R cs e)
  | .aug i op e => dAug i op (denE R cs e)
  | .augS op o i e => dAugS op (denE R cs o) (denE R cs i) (denE R cs e)
  | .ite c a b => dIfS (denT R cs c) (denSs a) (denSs b)
  | .whl c b => dWhile (denT R cs c) (denSs b)
  | .for_ s p b => dFor (denS R cs s) p (denSs b)
  | .ret e => dRet (denE R cs e)
  | .retN => dRetN
  | .pass => dNext
  | .brk => dBrk
  | .cnt => dCnt
  | .never => dNever
def denSs : Stms → TDS
  | .nil => dNext
  | .cons s r => dSeqS (denSt s) (denSs r)
end
end

/-! ### that a text is of that form -/
structure CC where
  N : List Str
  sc : Scope
  fnb : Str → Bool
structure Tb where
  cs : Cst
  fs : List Str
  bs : List Str
def CC.blk (C : CC) (scope : Scope) : CC := ⟨C.N, relS scope C.sc, fun x => scope.names.lookup x == some .cell⟩
def visB (sc : Scope) (x : Str) : Bool := sc.names.lookup x == some .local || sc.names.lookup x == some .cell || sc.names.lookup x == some .free
def glB (sc : Scope) (x : Str) : Bool := sc.names.lookup x == some .globalImplicit
def locB (C : CC) (x : Str) : Bool := C.sc.names.lookup x == some .local || (C.sc.names.lookup x == some .cell && C.fnb x)
def okN (x : Str) : Bool := !(x == ("__debug__" : Str)) && !(x == ("__classdict__" : Str)) && decide (x ≠ ("__name__" : Str))
def ixB (N : List Str) (i : Nat) (x : Str) : Bool := decide (N[i]? = some x)
def blkB (C : CC) (scope : Scope) (own : List (Str × Nat)) : Bool :=
  decide (scope.kind = .function) && scope.names.all (fun y => scope.names.lookup y.1 == some y.2) && own.all (fun p => ixB C.N p.2 p.1) &&
  scope.names.all (fun y => !(y.2 == .free) || C.sc.names.lookup y.1 == some .cell || C.sc.names.lookup y.1 == some .free) &&
  scope.names.all (fun y => !(y.2 == .local || y.2 == .cell) || (own.map (·.1)).contains y.1 || !C.N.contains y.1)
def Cn.chk : Cn → Const → Bool
  | .non, .none => true
  | .bl b, .bool c => decide (b = c)
  | .int i, .int j => decide (i = j)
  | .str x, .str y => decide (x = y)
  | _, _ => false
def Bi.nm : Bi → Str
  | .len => "len" | .list => "list" | .tuple => "tuple" | .sum => "sum" | .any => "any" | .all => "all" | .max => "max" | .min => "min" | .abs => "abs" | .int => "int" | .repr => "repr" | .str => "str"
def Mt.nm : Mt → Str
  | .append => "append" | .pop => "pop" | .insert => "insert" | .extend => "extend"
mutual
def chkP (C : CC) : Pat → Expr → Bool
  | .nm i, e => match e with
    | .Name x _ => ixB C.N i x && locB C x
    | _ => false
  | .tp ps, e => match e with
    | .Tuple es _ _ => chkPs C ps es
    | _ => false
def chkPs (C : CC) : Pats → List Expr → Bool
  | .nil, es => es.isEmpty
  | .cons p ps, es => match es with
    | e :: r => nst e && chkP C p e && chkPs C ps r
    | [] => false
end
section
variable (T : Tb)
def biB (C : CC) (x : Str) : Bool := T.bs.contains x && glB C.sc x && okN x
mutual
def chkE : Ex → CC → Expr → Bool
  | .var i, C, e => match e with
    | .Name x _ => ixB C.N i x && visB C.sc x && okN x
    | _ => false
  | .cst c, C, e => match e with
    | .Constant v _ _ => c.chk v
    | _ => false
  | .glo i, C, e => match e with
    | .Name x _ => (match T.cs.c[i]? with
      | some p => decide (p.1 = x)
      | none => false) && glB C.sc x && okN x
    | _ => false
  | .tup es, C, e => match e with
    | .Tuple xs _ _ => chkEs es C xs
    | _ => false
  | .lst es, C, e => match e with
    | .List xs _ => chkEs es C xs
    | _ => false
  | .bin op a b, C, e => match e with
    | .BinOp x o y _ => decide (op = o) && chkE a C x && chkE b C y
    | _ => false
  | .neg a, C, e => match e with
    | .UnaryOp .USub x _ => chkE a C x
    | _ => false
  | .not_ a, C, e => match e with
    | .UnaryOp .Not x _ => chkE a C x
    | _ => false
  | .cmp op a b, C, e => match e with
    | .Compare x [o] [y] _ => decide (op = o) && chkE a C x && chkE b C y && nset y
    | _ => false
  | .chain op op' a b c, C, e => match e with
    | .Compare x [o, o'] [y, z] _ => decide (op = o) && decide (op' = o') && chkE a C x && chkE b C y && chkE c C z && nset z
    | _ => false
  | .bop k es, C, e => match e with
    | .BoolOp o xs _ => decide (o = if k = true then .And else .Or) && chkEs es C xs
    | _ => false
  | .ite c a b, C, e => match e with
    | .IfExp x y z _ => chkT c C x && chkE a C y && chkE b C z
    | _ => false
  | .ix a b, C, e => match e with
    | .Subscript x y _ => chkE a C x && chkE b C y && nsl y
    | _ => false
  | .sl a lo hi, C, e => match e with
    | .Subscript x (.Slice l h none _) _ => chkE a C x && chkO lo C l && chkO hi C h
    | _ => false
  | .rev a, C, e => match e with
    | .Subscript x (.Slice none none (some (.UnaryOp .USub (.Constant (.int i) _ _) _)) _) _ => decide (i = 1) && chkE a C x
    | _ => false
  | .bi b es, C, e => match e with
    | .Call (.Name x _) xs [] _ => decide (x = b.nm) && biB T C x && chkEs es C xs && !xs.isEmpty
    | _ => false
  | .isi t a, C, e => match e with
    | .Call (.Name x _) [y, .Name z _] [] _ => decide (x = ("isinstance" : Str)) && decide (z = Str.ofString t) && isiTys.contains t && biB T C x && biB T C z && chkE a C y && nst y
    | _ => false
  | .kin neg i a, C, e => match e with
    | .Compare x [o] [.Name y _] _ => decide (o = if neg = true then .NotIn else .In) && (match T.cs.d[i]? with
      | some p => decide (p.1 = y)
      | none => false) && glB C.sc y && okN y && chkE a C x
    | _ => false
  | .kix i a, C, e => match e with
    | .Subscript (.Name y _) x _ => (match T.cs.d[i]? with
      | some p => decide (p.1 = y)
      | none => false) && glB C.sc y && okN y && chkE a C x && nsl x
    | _ => false
  | .call i es, C, e => match e with
    | .Call (.Name x _) xs [] _ => ixB T.fs i x && glB C.sc x && okN x && chkEs es C xs
    | _ => false
  | .mt m o es, C, e => match e with
    | .Call (.Attribute y nm ap) xs [] cp => decide (nm = m.nm) && chkE o C y && nsup y && (ap.endLine == cp.line) && chkEs es C xs && decide (xs.length < 30)
    | _ => false
  | .lc s p c e own, C, x => match x with
    | .ListComp elt [⟨tg, it, fs, a⟩] scope _ => decide (a = 0) && chkS s C tg it && nset it && blkB C scope own && chkP (C.blk scope) p tg && p.within (own.map (·.2)) && chkI c (C.blk scope) fs && chkE e (C.blk scope) elt
    | _ => false
  | .lc2 s p c s1 p1 c1 e own vs1, C, x => match x with
    | .ListComp elt [⟨tg, it, fs, a⟩, ⟨tg1, it1, fs1, a1⟩] scope _ => decide (a = 0) && decide (a1 = 0) && chkS s C tg it && nset it && nset it1 && blkB C scope own && chkP (C.blk scope) p tg && p.within (own.map (·.2)) && chkI c (C.blk scope) fs &&
      chkS s1 (C.blk scope) tg1 it1 && chkP (C.blk scope) p1 tg1 && p1.within vs1 && vs1.all (fun i => (own.map (·.2)).contains i) && chkI c1 (C.blk scope) fs1 && chkE e (C.blk scope) elt
    | _ => false
def chkEs : Exs → CC → List Expr → Bool
  | .nil, _, xs => xs.isEmpty
  | .cons e es, C, xs => match xs with
    | x :: r => nst x && chkE e C x && chkEs es C r
    | [] => false
def chkT : Ex → CC → Expr → Bool
  | .bop k es, C, e => match e with
    | .BoolOp o xs _ => decide (o = if k = true then .And else .Or) && chkTs es C xs
    | _ => false
  | .not_ a, C, e => match e with
    | .UnaryOp .Not x _ => chkT a C x
    | _ => false
  | .var i, C, e => ntst e && (match e with
    | .Name x _ => ixB C.N i x && visB C.sc x && okN x
    | _ => false)
  | .cst c, C, e => match e with
    | .Constant v _ _ => c.chk v
    | _ => false
  | .cmp op a b, C, e => match e with
    | .Compare x [o] [y] _ => decide (op = o) && chkE a C x && chkE b C y && nset y
    | _ => false
  | .chain op op' a b c, C, e => match e with
    | .Compare x [o, o'] [y, z] _ => decide (op = o) && decide (op' = o') && chkE a C x && chkE b C y && chkE c C z && nset z
    | _ => false
  | .ix a b, C, e => match e with
    | .Subscript x y _ => chkE a C x && chkE b C y && nsl y
    | _ => false
  | .bi b es, C, e => match e with
    | .Call (.Name x _) xs [] _ => decide (x = b.nm) && biB T C x && chkEs es C xs && !xs.isEmpty
    | _ => false
  | .isi t a, C, e => match e with
    | .Call (.Name x _) [y, .Name z _] [] _ => decide (x = ("isinstance" : Str)) && decide (z = Str.ofString t) && isiTys.contains t && biB T C x && biB T C z && chkE a C y && nst y
    | _ => false
  | .call i es, C, e => match e with
    | .Call (.Name x _) xs [] _ => ixB T.fs i x && glB C.sc x && okN x && chkEs es C xs
    | _ => false
  | _, _, _ => false
def chkTs : Exs → CC → List Expr → Bool
  | .nil, _, _ => false
  | .cons e .nil, C, xs => match xs with
    | [x] => chkT e C x
    | _ => false
  | .cons e (.cons e2 es), C, xs => match xs with
    | x :: y :: r => chkT e C x && chkTs (.cons e2 es) C (y :: r)
    | _ => false
def chkO : Oe → CC → Option Expr → Bool
  | .non, _, x => x.isNone
  | .som e, C, x => match x with
    | some y => chkE e C y
    | none => false
def chkI : Oe → CC → List Expr → Bool
  | .non, _, xs => xs.isEmpty
  | .som e, C, xs => match xs with
    | [y] => chkT e C y
    | _ => false
def chkS : Src → CC → Expr → Expr → Bool
  | .seq e, C, _, it => chkE e C it
  | .rng1 a, C, _, it => match it with
    | .Call (.Name x _) [y] [] _ => decide (x = ("range" : Str)) && biB T C x && chkE a C y && nst y
    | _ => false
  | .rng2 a b, C, _, it => match it with
    | .Call (.Name x _) [y, z] [] _ => decide (x = ("range" : Str)) && biB T C x && chkE a C y && chkE b C z && nst y && nst z
    | _ => false
  | .rng3 a b c, C, _, it => match it with
    | .Call (.Name x _) [y, z, u] [] _ => decide (x = ("range" : Str)) && biB T C x && chkE a C y && chkE b C z && chkE c C u && nst y && nst z && nst u
    | _ => false
  | .enm a, C, tg, it => match tg, it with
    | .Tuple _ _ _, .Call (.Name x _) [y] [] _ => decide (x = ("enumerate" : Str)) && biB T C x && chkE a C y && nst y
    | _, _ => false
  | .zp a b, C, tg, it => match tg, it with
    | .Tuple _ _ _, .Call (.Name x _) [y, z] [] _ => decide (x = ("zip" : Str)) && biB T C x && chkE a C y && chkE b C z && nst y && nst z
    | _, _ => false
end
end
end Dn

set_option Elab.async false
set_option linter.all false
set_option maxRecDepth 100000
set_option maxHeartbeats 4000000
namespace Dn
open PySem PySem.Spec L2
open PyProof.Rows hiding St
variable {P : Program} {Wd : World}

structure Okx (T : Tb) (R : Nat → FD) (n : Nat) (C : CC) (X : Cx) : Prop where
  hN : X.N = C.N
  nd : C.N.Nodup
  sc : X.env.scope = C.sc
  knd : C.sc.kind = .function
  fn : ∀ x, C.fnb x = true → X.fn x = true
  calm : X.calm = true
  grd : X.A.guards = some []
  room : Room n X.A
  bs : ∀ x, T.bs.contains x = true → X.mg x = none
  cs : ∀ (i : Nat) p, T.cs.c[i]? = some p → GloD X.K X.mg p.1 p.2
  ds : ∀ (i : Nat) p, T.cs.d[i]? = some p → DctG X.K X.w X.mg p.1 p.2
  fs : ∀ (i : Nat) x, T.fs[i]? = some x → ∃ f fd ps, X.mg x = some (.ref f) ∧ PySem.W.keepIn X.K (.ref f) = true ∧ Binds X.K fd ps [] ∧ FnG X.prog X.w X.K X.mg X.base n f fd ps (R i)
section
variable {T : Tb} {R : Nat → FD} {n : Nat} {C : CC} {X : Cx}
theorem Okx.units (o : Okx T R n C X) : X.A.units + 80 < cLine := by
  have := o.room.un
  omega
theorem Okx.blk (o : Okx T R n C X) {scope : Scope} (hk : scope.kind = .function) (s : Shared) (H : Hp) (cn : Addr) (cl : List (Str × Addr)) (fp : List Addr) :
    Okx T R n (C.blk scope) (X.blk s H scope (compEnvC scope cl cn X.env) fp) where
  hN := o.hN
  nd := o.nd
  sc := by
    show relS scope X.env.scope = relS scope C.sc
    rw [o.sc]
  knd := hk
  fn := fun x h => h
  calm := o.calm
  grd := o.grd
  room := o.room
  bs := o.bs
  cs := o.cs
  ds := o.ds
  fs := o.fs
theorem Okx.blkOk (o : Okx T R n C X) {scope : Scope} {own : List (Str × Nat)} (h : blkB C scope own = true) : BlkOk X.N X.env.scope scope own ∧ scope.kind = .function := by
  unfold blkB at h
  simp only [Bool.and_eq_true, decide_eq_true_eq, List.all_eq_true, Bool.or_eq_true, Bool.not_eq_true', beq_iff_eq] at h
  obtain ⟨⟨⟨⟨h1, h2⟩, h3⟩, h4⟩, h5⟩ := h
  refine ⟨⟨h1, fun y hy => h2 y hy, fun p hp => ?_, fun y hy e => ?_, fun y hy e => ?_⟩, h1⟩
  · have := h3 p hp
    unfold ixB at this
    rw [o.hN]
    exact of_decide_eq_true this
  · rw [o.sc]
    rcases h4 y hy with (q | q) | q
    · rw [e] at q; exact absurd q (by decide)
    · exact .inl q
    · exact .inr q
  · rcases h5 y hy with (q | q) | q
    · rcases e with e | e <;> rw [e] at q <;> exact absurd q (by decide)
    · exact .inl (by simpa using q)
    · right
      rw [o.hN]
      simpa using q
theorem okN_1 {x : Str} (h : okN x = true) : (x == ("__debug__" : Str)) = false ∧ (x == ("__classdict__" : Str)) = false ∧ x ≠ ("__name__" : Str) := by
  unfold okN at h
  simp only [Bool.and_eq_true, Bool.not_eq_true', decide_eq_true_eq] at h
  exact ⟨h.1.1, h.1.2, h.2⟩
theorem Okx.vis (o : Okx T R n C X) {x : Str} (h : visB C.sc x = true) : Vis X.env.scope x := by
  unfold visB at h
  simp only [Bool.or_eq_true, beq_iff_eq] at h
  rw [o.sc]
  rcases h with (h | h) | h
  · exact .inl h
  · exact .inr (.inl h)
  · exact .inr (.inr h)
theorem Okx.gl (o : Okx T R n C X) {x : Str} (h : glB C.sc x = true) : Gl X x := by
  unfold glB at h
  have h2 : C.sc.names.lookup x = some .globalImplicit := by simpa using h
  show X.env.scope.names.lookup x = _
  rw [o.sc]
  exact h2
theorem Okx.ix (o : Okx T R n C X) {i : Nat} {x : Str} (h : ixB C.N i x = true) : X.N[i]? = some x := by
  rw [o.hN]
  exact of_decide_eq_true h
theorem Okx.loc (o : Okx T R n C X) {x : Str} (h : locB C x = true) : Loc X.env.scope x ∧ (X.fn x = true ∨ X.env.scope.names.lookup x = some .local) := by
  unfold locB at h
  simp only [Bool.or_eq_true, Bool.and_eq_true, beq_iff_eq] at h
  rw [o.sc]
  rcases h with h | ⟨h, h2⟩
  · exact ⟨.inl h, .inr h⟩
  · exact ⟨.inr h, .inl (o.fn x h2)⟩
theorem Okx.nodup (o : Okx T R n C X) : X.N.Nodup := by rw [o.hN]; exact o.nd
theorem Okx.blt (o : Okx T R n C X) {x : Str} (h : biB T C x = true) : Gl X x ∧ X.mg x = none ∧ (x == ("__debug__" : Str)) = false ∧ x ≠ ("__name__" : Str) := by
  unfold biB at h
  rw [Bool.and_eq_true, Bool.and_eq_true] at h
  exact ⟨o.gl h.1.2, o.bs x h.1.1, (okN_1 h.2).1, (okN_1 h.2).2.2⟩
theorem cn_ok {X : Cx} {c : Cn} {v : Const} {j : Nat} {pos : Pos} (h : c.chk v = true) : DE X (.Constant v j pos) (dC c.d) := by
  cases c with
  | non => cases v <;> first | exact de_non | exact absurd h Bool.false_ne_true
  | bl b =>
    cases v with
    | bool c =>
      have e : b = c := of_decide_eq_true h
      subst e
      exact de_bl
    | _ => exact absurd h Bool.false_ne_true
  | int i =>
    cases v with
    | int c =>
      have e : i = c := of_decide_eq_true h
      subst e
      exact de_int
    | _ => exact absurd h Bool.false_ne_true
  | str x =>
    cases v with
    | str c =>
      have e : x = c := of_decide_eq_true h
      subst e
      exact de_str
    | _ => exact absurd h Bool.false_ne_true
theorem boot_b1 : bootBuiltins "len" = some (.builtin "len") := by decide +kernel
theorem boot_b2 : bootBuiltins "list" = some (.type "list") := by decide +kernel
theorem boot_b3 : bootBuiltins "tuple" = some (.type "tuple") := by decide +kernel
theorem boot_b4 : bootBuiltins "sum" = some (.builtin "sum") := by decide +kernel
theorem boot_b5 : bootBuiltins "any" = some (.builtin "any") := by decide +kernel
theorem boot_b6 : bootBuiltins "all" = some (.builtin "all") := by decide +kernel
theorem boot_b7 : bootBuiltins "max" = some (.builtin "max") := by decide +kernel
theorem boot_b8 : bootBuiltins "min" = some (.builtin "min") := by decide +kernel
theorem boot_b9 : bootBuiltins "abs" = some (.builtin "abs") := by decide +kernel
theorem boot_b10 : bootBuiltins "int" = some (.type "int") := by decide +kernel
theorem boot_b11 : bootBuiltins "repr" = some (.builtin "repr") := by decide +kernel
theorem boot_b12 : bootBuiltins "str" = some (.type "str") := by decide +kernel
theorem boot_b13 : bootBuiltins "bool" = some (.type "bool") := by decide +kernel
theorem bi_ok (o : Okx T R n C X) (b : Bi) {p pos : Pos} {e : Expr} {es : List Expr} {t : TDs} (hb : biB T C b.nm = true) (ha : DA X (e :: es) t) (hs : nsts (e :: es) = true) : DE X (.Call (.Name b.nm p) (e :: es) [] pos) (dF b.den t) := by
  obtain ⟨g1, g2, g3, g4⟩ := o.blt hb
  have hs' : nst e = true ∧ nsts es = true := by
    have : (nst e && nsts es) = true := hs
    rwa [Bool.and_eq_true] at this
  have s1 := star1 hs'.1 es X.env
  have s2 := back_any hs'.2 X.env pos
  have hu := o.units
  cases b with
  | len => exact de_callB (CallD.of (call_len_seq.or call_len_str) simc_len) g1 g2 boot_b1 ha g4 g3 s1 s2
  | list => exact de_callTy (CallD.of call_list_of simc_list) g1 g2 boot_b2 ha g4 g3 s1 s2
  | tuple => exact de_callTy (CallD.of call_tuple_of simc_tuple) g1 g2 boot_b3 ha g4 g3 s1 s2
  | sum => exact de_callB (CallD.of (cr_sum o.calm) simc_sum) g1 g2 boot_b4 ha g4 g3 s1 s2
  | any => exact de_callB (CallD.of (cr_any o.calm) simc_any) g1 g2 boot_b5 ha g4 g3 s1 s2
  | all => exact de_callB (CallD.of (cr_all o.calm) simc_all) g1 g2 boot_b6 ha g4 g3 s1 s2
  | max => exact de_callB (cd_max o.calm) g1 g2 boot_b7 ha g4 g3 s1 s2
  | min => exact de_callB (cd_min o.calm hu) g1 g2 boot_b8 ha g4 g3 s1 s2
  | abs => exact de_callB (CallD.of call_abs simc_abs) g1 g2 boot_b9 ha g4 g3 s1 s2
  | int => exact de_callTy (CallD.of call_int1 simc_int) g1 g2 boot_b10 ha g4 g3 s1 s2
  | repr => exact de_callB (cd_repr (by omega) o.grd) g1 g2 boot_b11 ha g4 g3 s1 s2
  | str => exact de_callTy (CallD.of call_str_int simc_strI) g1 g2 boot_b12 ha g4 g3 s1 s2
theorem mt_ok (m : Mt) {apos cpos : Pos} {y : Expr} {es : List Expr} {to : TD} {t : TDs} (ho : DE X y to) (ha : DA X es t) (h1 : nsup y = true) (h2 : (apos.endLine == cpos.line) = true) (hs : nsts es = true) (h30 : es.length < 30)
    (h0 : es = [] → t = dNil) : DE X (.Call (.Attribute y m.nm apos) es [] cpos) (dMt isLst m.den to t) := by
  cases es with
  | nil =>
    rw [h0 rfl]
    cases m with
    | append => exact de_mt0 PySem.F.slot_list_append PySem.F.type_list_append mt_append simm_append ho (base1 h1 _ _ _) h2
    | pop => exact de_mt0 PySem.F.slot_list_pop PySem.F.type_list_pop (MtR.or mt_pop mt_popAt) simm_pop ho (base1 h1 _ _ _) h2
    | insert => exact de_mt0 PySem.F.slot_list_insert PySem.F.type_list_insert mt_insert simm_insert ho (base1 h1 _ _ _) h2
    | extend => exact de_mt0 PySem.F.slot_list_extend PySem.F.type_list_extend (MtR.or mt_extend mt_extT) simm_extend ho (base1 h1 _ _ _) h2
  | cons e es =>
    have hs' : nst e = true ∧ nsts es = true := by
      have : (nst e && nsts es) = true := hs
      rwa [Bool.and_eq_true] at this
    have s1 := star1 hs'.1 es X.env
    have s2 := back_any hs'.2 X.env cpos
    have s3 := star_len hs X.env cpos h30
    cases m with
    | append => exact de_mt PySem.F.slot_list_append PySem.F.type_list_append mt_append simm_append ho ha (base1 h1 _ _ _) s3 h2 s1 s2
    | pop => exact de_mt PySem.F.slot_list_pop PySem.F.type_list_pop (MtR.or mt_pop mt_popAt) simm_pop ho ha (base1 h1 _ _ _) s3 h2 s1 s2
    | insert => exact de_mt PySem.F.slot_list_insert PySem.F.type_list_insert mt_insert simm_insert ho ha (base1 h1 _ _ _) s3 h2 s1 s2
    | extend => exact de_mt PySem.F.slot_list_extend PySem.F.type_list_extend (MtR.or mt_extend mt_extT) simm_extend ho ha (base1 h1 _ _ _) s3 h2 s1 s2
theorem isi_ok (o : Okx T R n C X) {t : String} {a : Expr} {ta : TD} {p p2 pos : Pos} (hT : t ∈ isiTys) (h1 : biB T C "isinstance" = true) (h2 : biB T C (Str.ofString t) = true) (ha : DE X a ta) (hs : nst a = true) :
    DE X (.Call (.Name "isinstance" p) [a, .Name (Str.ofString t) p2] [] pos) (dIsi t ta) := by
  obtain ⟨g1, g2, _, _⟩ := o.blt h1
  obtain ⟨k1, k2, k3, k4⟩ := o.blt h2
  have hv : bootBuiltins (Str.ofString t) = some (.type t) := by
    simp only [isiTys, List.mem_cons, List.not_mem_nil, or_false] at hT
    rcases hT with rfl | rfl | rfl | rfl | rfl
    · exact boot_b10
    · exact boot_b13
    · exact boot_b12
    · exact boot_b3
    · exact boot_b2
  exact de_isi hT g1 g2 k1 k2 ha hv k4 k3 (star1 hs _ _)
end
section
variable {T : Tb} {R : Nat → FD} {n : Nat} {C : CC} {X : Cx}
mutual
theorem chkP_ok (o : Okx T R n C X) : ∀ (p : Pat) (e : Expr), chkP C p e = true → PG X e (gPat X.K p) ∧ nst e = true
  | .nm i, e, h => by
    simp only [chkP] at h
    split at h
    · rw [Bool.and_eq_true] at h
      exact ⟨pg_name o.nodup (o.ix h.1) (o.loc h.2).1 (o.loc h.2).2, rfl⟩
    · cases h
  | .tp ps, e, h => by
    simp only [chkP] at h
    split at h
    · obtain ⟨h1, h2, h3⟩ := chkPs_ok o ps _ h
      exact ⟨pg_tup o.calm h1 h2 h3, rfl⟩
    · cases h
theorem chkPs_ok (o : Okx T R n C X) : ∀ (ps : Pats) (es : List Expr), chkPs C ps es = true → PGs X es (gPats X.K ps) ∧ (assignEach es X.env).length = ps.len ∧ (assignEach es X.env).findIdx? (·.1) = none
  | .nil, es, h => by
    simp only [chkPs, List.isEmpty_iff] at h
    subst h
    exact ⟨pgs_nil, rfl, rfl⟩
  | .cons p ps, es, h => by
    simp only [chkPs] at h
    split at h
    · rename_i e r
      rw [Bool.and_eq_true, Bool.and_eq_true] at h
      obtain ⟨⟨h1, h2⟩, h3⟩ := h
      obtain ⟨g1, _⟩ := chkP_ok o p e h2
      obtain ⟨k1, k2, k3⟩ := chkPs_ok o ps r h3
      have ee := eachc h1 r X.env
      refine ⟨pgs_cons g1 k1 (by rw [ee]; rfl), by rw [ee, List.length_cons, k2]; rfl, ?_⟩
      rw [ee, List.findIdx?_cons]
      simp [k3]
    · cases h
end
end
end Dn

set_option Elab.async false
set_option linter.all false
set_option maxRecDepth 100000
set_option maxHeartbeats 8000000
namespace Dn
open PySem PySem.Spec L2
open PyProof.Rows hiding St
variable {P : Program} {Wd : World}
theorem chkEs_nst {T : Tb} : ∀ (es : Exs) (C : CC) (xs : List Expr), chkEs T es C xs = true → nsts xs = true
  | .nil, C, xs, h => by
    simp only [chkEs, List.isEmpty_iff] at h
    subst h
    rfl
  | .cons e es, C, xs, h => by
    simp only [chkEs] at h
    split at h
    · rename_i x r
      rw [Bool.and_eq_true, Bool.and_eq_true] at h
      show (nst x && nsts r) = true
      rw [h.1.1, chkEs_nst es C r h.2]
      rfl
    · cases h
theorem chkEs_nil {T : Tb} {R : Nat → FD} {cs : Cst} : ∀ (es : Exs) (C : CC), chkEs T es C [] = true → denEs R cs es = dNil
  | .nil, _, _ => rfl
  | .cons _ _, _, h => by simp [chkEs] at h
theorem chkEs_cons {T : Tb} {C : CC} {e : Ex} {es : Exs} {xs : List Expr} : chkEs T (.cons e es) C xs = match xs with
    | x :: r => nst x && chkE T e C x && chkEs T es C r
    | [] => false := by
  cases xs <;> simp only [chkEs]
theorem chkTs_cons {T : Tb} {C : CC} {e e2 : Ex} {es : Exs} {xs : List Expr} : chkTs T (.cons e (.cons e2 es)) C xs = match xs with
    | x :: y :: r => chkT T e C x && chkTs T (.cons e2 es) C (y :: r)
    | _ => false := by
  rcases xs with _ | ⟨x, _ | ⟨y, r⟩⟩ <;> simp only [chkTs]
section
variable {T : Tb} {R : Nat → FD} {n : Nat}
mutual
theorem chkE_ok : ∀ (ir : Ex) (C : CC) (X : Cx) (e : Expr), Okx T R n C X → chkE T ir C e = true → DE X e (denE R T.cs ir)
  | .var i, C, X, e, o, h => by
    simp only [chkE] at h
    split at h
    · rename_i x pos
      rw [Bool.and_eq_true, Bool.and_eq_true] at h
      exact de_var (o.ix h.1.1) (o.vis h.1.2) (okN_1 h.2).1 (okN_1 h.2).2.1
    · cases h
  | .cst c, C, X, e, o, h => by
    simp only [chkE] at h
    split at h
    · exact cn_ok h
    · cases h
  | .glo i, C, X, e, o, h => by
    simp only [chkE] at h
    split at h
    · rename_i x pos
      rw [Bool.and_eq_true, Bool.and_eq_true] at h
      obtain ⟨⟨h1, h2⟩, h3⟩ := h
      split at h1
      · rename_i p ep
        have e1 : p.1 = x := of_decide_eq_true h1
        subst e1
        rw [denE, ep]
        exact de_glo (o.gl h2) (o.cs i p ep) (okN_1 h3).1
      · cases h1
    · cases h
  | .tup es, C, X, e, o, h => by
    simp only [chkE] at h
    split at h
    · exact de_tup (chkEs_ok es C X _ o h)
    · cases h
  | .lst es, C, X, e, o, h => by
    simp only [chkE] at h
    split at h
    · exact de_lst (chkEs_ok es C X _ o h)
    · cases h
  | .bin op a b, C, X, e, o, h => by
    simp only [chkE] at h
    split at h
    · rename_i x op' y pos
      rw [Bool.and_eq_true, Bool.and_eq_true] at h
      have e1 : op = op' := of_decide_eq_true h.1.1
      subst e1
      exact de_bin (bin_ok op) (bin_sim op) (chkE_ok a C X x o h.1.2) (chkE_ok b C X y o h.2)
    · cases h
  | .neg a, C, X, e, o, h => by
    simp only [chkE] at h
    split at h
    · exact de_neg (chkE_ok a C X _ o h)
    · cases h
  | .not_ a, C, X, e, o, h => by
    simp only [chkE] at h
    split at h
    · exact de_not (chkE_ok a C X _ o h)
    · cases h
  | .cmp op a b, C, X, e, o, h => by
    simp only [chkE] at h
    split at h
    · rename_i x op' y pos
      rw [Bool.and_eq_true, Bool.and_eq_true, Bool.and_eq_true] at h
      obtain ⟨⟨⟨h1, h2⟩, h3⟩, h4⟩ := h
      have e1 : op = op' := of_decide_eq_true h1
      subst e1
      exact de_cmp (cmp_ok (by have := o.units; omega) op) (cmp_sim op) (chkE_ok a C X x o h2) (chkE_ok b C X y o h3) (mark1 h4 op)
    · cases h
  | .chain op op' a b c, C, X, e, o, h => by
    simp only [chkE] at h
    split at h
    · rename_i x q q' y z pos
      simp only [Bool.and_eq_true] at h
      obtain ⟨⟨⟨⟨⟨h1, h2⟩, h3⟩, h4⟩, h5⟩, h6⟩ := h
      have e1 : op = q := of_decide_eq_true h1
      have e2 : op' = q' := of_decide_eq_true h2
      subst e1 e2
      exact de_chain (by have := o.units; omega) (chkE_ok a C X x o h3) (chkE_ok b C X y o h4) (chkE_ok c C X z o h5) (mark2 h6 op op')
    · cases h
  | .bop k es, C, X, e, o, h => by
    simp only [chkE] at h
    split at h
    · rename_i op xs pos
      rw [Bool.and_eq_true] at h
      have e1 : op = if k = true then .And else .Or := of_decide_eq_true h.1
      rw [e1]
      exact chkB_ok k es C X xs o h.2 pos
    · cases h
  | .ite c a b, C, X, e, o, h => by
    simp only [chkE] at h
    split at h
    · rename_i x y z pos
      rw [Bool.and_eq_true, Bool.and_eq_true] at h
      exact de_if (chkT_ok c C X x o h.1.1) (chkE_ok a C X y o h.1.2) (chkE_ok b C X z o h.2)
    · cases h
  | .ix a b, C, X, e, o, h => by
    simp only [chkE] at h
    split at h
    · rename_i x y pos
      rw [Bool.and_eq_true, Bool.and_eq_true] at h
      exact de_ix (chkE_ok a C X x o h.1.1) (chkE_ok b C X y o h.1.2) (plainIx1 h.2)
    · cases h
  | .sl a lo hi, C, X, e, o, h => by
    simp only [chkE] at h
    split at h
    · rename_i x l hh p1 pos
      rw [Bool.and_eq_true, Bool.and_eq_true] at h
      exact de_slice (chkE_ok a C X x o h.1.1) (chkO_ok lo C X l o h.1.2) (chkO_ok hi C X hh o h.2)
    · cases h
  | .rev a, C, X, e, o, h => by
    simp only [chkE] at h
    split at h
    · rename_i x i j p1 p2 p3 pos
      rw [Bool.and_eq_true] at h
      have e1 : i = 1 := of_decide_eq_true h.1
      subst e1
      exact de_rev (chkE_ok a C X x o h.2)
    · cases h
  | .bi b es, C, X, e, o, h => by
    simp only [chkE] at h
    split at h
    · rename_i x p xs pos
      rw [Bool.and_eq_true, Bool.and_eq_true, Bool.and_eq_true] at h
      obtain ⟨⟨⟨h1, h2⟩, h3⟩, h4⟩ := h
      have e1 : x = b.nm := of_decide_eq_true h1
      subst e1
      cases xs with
      | nil => cases h4
      | cons y ys => exact bi_ok o b h2 (chkEs_ok es C X _ o h3) (chkEs_nst es C _ h3)
    · cases h
  | .isi t a, C, X, e, o, h => by
    simp only [chkE] at h
    split at h
    · rename_i x p y z p2 pos
      simp only [Bool.and_eq_true] at h
      obtain ⟨⟨⟨⟨⟨⟨h1, h2⟩, h3⟩, h4⟩, h5⟩, h6⟩, h7⟩ := h
      have e1 := of_decide_eq_true h1
      have e2 := of_decide_eq_true h2
      subst e1 e2
      exact isi_ok o (by simpa using h3) h4 h5 (chkE_ok a C X y o h6) h7
    · cases h
  | .kin neg i a, C, X, e, o, h => by
    simp only [chkE] at h
    split at h
    · rename_i x op y p pos
      simp only [Bool.and_eq_true] at h
      obtain ⟨⟨⟨⟨h1, h2⟩, h3⟩, h4⟩, h5⟩ := h
      have e1 := of_decide_eq_true h1
      subst e1
      split at h2
      · rename_i p ep
        have e1 : p.1 = y := of_decide_eq_true h2
        subst e1
        rw [denE, ep]
        exact de_kin neg (o.gl h3) (o.ds i p ep) (okN_1 h4).1 (chkE_ok a C X x o h5)
      · cases h2
    · cases h
  | .kix i a, C, X, e, o, h => by
    simp only [chkE] at h
    split at h
    · rename_i y p x pos
      simp only [Bool.and_eq_true] at h
      obtain ⟨⟨⟨⟨h2, h3⟩, h4⟩, h5⟩, h6⟩ := h
      split at h2
      · rename_i p ep
        have e1 : p.1 = y := of_decide_eq_true h2
        subst e1
        rw [denE, ep]
        exact de_kix (o.gl h3) (o.ds i p ep) (okN_1 h4).1 (chkE_ok a C X x o h5) (plainIx1 h6)
      · cases h2
    · cases h
  | .call i es, C, X, e, o, h => by
    simp only [chkE] at h
    split at h
    · rename_i x p xs pos
      rw [Bool.and_eq_true, Bool.and_eq_true, Bool.and_eq_true] at h
      obtain ⟨⟨⟨h1, h2⟩, h3⟩, h4⟩ := h
      obtain ⟨f, fd, ps, g1, g2, g3, g4⟩ := o.fs i x (of_decide_eq_true h1)
      have hs := chkEs_nst es C _ h4
      cases xs with
      | nil =>
        rw [denE, chkEs_nil es C h4]
        exact de_call0 g4 o.room o.grd (o.gl h2) g1 g2 g3 (okN_1 h3).1
      | cons y ys =>
        have hs' : nst y = true ∧ nsts ys = true := by
          have : (nst y && nsts ys) = true := hs
          rwa [Bool.and_eq_true] at this
        exact de_call g4 o.room o.grd (o.gl h2) g1 g2 g3 (chkEs_ok es C X _ o h4) (okN_1 h3).1 (star1 hs'.1 _ _) (back_any hs'.2 _ _)
    · cases h
  | .mt m oo es, C, X, e, o, h => by
    simp only [chkE] at h
    split at h
    · rename_i y nm ap xs cp
      simp only [Bool.and_eq_true] at h
      obtain ⟨⟨⟨⟨⟨h1, h2⟩, h3⟩, h4⟩, h5⟩, h6⟩ := h
      have e1 := of_decide_eq_true h1
      subst e1
      refine mt_ok m (chkE_ok oo C X y o h2) (chkEs_ok es C X xs o h5) h3 h4 (chkEs_nst es C _ h5) (of_decide_eq_true h6) fun e => ?_
      subst e
      exact chkEs_nil es C h5
    · cases h
  | .lc s p c el own, C, X, e, o, h => by
    simp only [chkE] at h
    split at h
    · rename_i elt tg it fs a scope pos
      simp only [Bool.and_eq_true] at h
      obtain ⟨⟨⟨⟨⟨⟨⟨h1, h2⟩, h3⟩, h4⟩, h5⟩, h6⟩, h7⟩, h8⟩ := h
      have e1 := of_decide_eq_true h1
      subst e1
      obtain ⟨b1, b2⟩ := o.blkOk h4
      refine PE.imp (pe_lc (te := lf X.prog X.w X.K X.mg (denE R T.cs el)) (tt := lfT X.prog X.w X.K X.mg (denI R T.cs c)) (g := gPat X.K p) o.calm o.nodup (chkS_ok s C X tg it o h2) b1 (fun s H cn cl fp => (chkP_ok (o.blk b2 s H cn cl fp) p tg h5).1) (fun s H cn cl fp => chkI_ok c _ _ fs (o.blk b2 s H cn cl fp) h7)
        (fun s H cn cl fp => chkE_ok el _ _ elt (o.blk b2 s H cn cl fp) h8) (fun x => fold1 h3 X.env x)) fun σ H Q hh => ?_
      exact lc_imp h6 hh
    · cases h
  | .lc2 s p c s1 p1 c1 el own vs1, C, X, e, o, h => by
    simp only [chkE] at h
    split at h
    · rename_i elt tg it fs a tg1 it1 fs1 a1 scope pos
      simp only [Bool.and_eq_true] at h
      obtain ⟨⟨⟨⟨⟨⟨⟨⟨⟨⟨⟨⟨⟨⟨h1, h2⟩, h3⟩, h4⟩, h5⟩, h6⟩, h7⟩, h8⟩, h9⟩, h10⟩, h11⟩, h12⟩, h13⟩, h14⟩, h15⟩ := h
      have e1 := of_decide_eq_true h1
      have e2 := of_decide_eq_true h2
      subst e1 e2
      obtain ⟨b1, b2⟩ := o.blkOk h6
      have hv : ∀ i ∈ vs1, i ∈ own.map (·.2) := fun i hi => by
        have := List.all_eq_true.mp h13 i hi
        simpa using this
      refine PE.imp (pe_lc2 (te := lf X.prog X.w X.K X.mg (denE R T.cs el)) (tt := lfT X.prog X.w X.K X.mg (denI R T.cs c)) (tt1 := lfT X.prog X.w X.K X.mg (denI R T.cs c1)) (g := gPat X.K p) (g1 := gPat X.K p1) (wi1 := lfI X.prog X.w X.K X.mg (denS R T.cs s1)) o.calm o.nodup (chkS_ok s C X tg it o h3) b1 hv (fun s H cn cl fp => (chkP_ok (o.blk b2 s H cn cl fp) p tg h7).1) (fun s H cn cl fp => chkI_ok c _ _ fs (o.blk b2 s H cn cl fp) h9)
        (fun s H cn cl fp => chkS_ok s1 _ _ tg1 it1 (o.blk b2 s H cn cl fp) h10) (fun s H cn cl fp => (chkP_ok (o.blk b2 s H cn cl fp) p1 tg1 h11).1) (fun s H cn cl fp => chkI_ok c1 _ _ fs1 (o.blk b2 s H cn cl fp) h14)
        (fun s H cn cl fp => chkE_ok el _ _ elt (o.blk b2 s H cn cl fp) h15) (fun x => fold1 h4 X.env x) (fun env x => fold1 h5 env x)) fun σ H Q hh => ?_
      exact lc2_imp h8 h12 hh
    · cases h
theorem chkEs_ok : ∀ (es : Exs) (C : CC) (X : Cx) (xs : List Expr), Okx T R n C X → chkEs T es C xs = true → DA X xs (denEs R T.cs es)
  | .nil, C, X, xs, o, h => by
    simp only [chkEs, List.isEmpty_iff] at h
    subst h
    exact da_nil
  | .cons e es, C, X, xs, o, h => by
    simp only [chkEs] at h
    split at h
    · rename_i x r
      rw [Bool.and_eq_true, Bool.and_eq_true] at h
      exact da_cons (chkE_ok e C X x o h.1.2) (chkEs_ok es C X r o h.2) (star1 h.1.1 _ _)
    · cases h
theorem chkB_ok : ∀ (k : Bool) (es : Exs) (C : CC) (X : Cx) (xs : List Expr), Okx T R n C X → chkEs T es C xs = true → ∀ pos, DE X (.BoolOp (if k = true then .And else .Or) xs pos) (denB R T.cs k es)
  | k, .nil, C, X, xs, o, h, pos => by
    rw [denB]
    exact ⟨fun pins s σ H Q I hh => by obtain ⟨_, _, _, _, _, hh, _⟩ := hh; exact hh.elim⟩
  | k, .cons e .nil, C, X, xs, o, h, pos => by
    simp only [chkEs] at h
    split at h
    · rename_i x r
      rw [Bool.and_eq_true, Bool.and_eq_true] at h
      have : r = [] := by simpa using h.2
      subst this
      rw [denB]
      exact de_one (chkE_ok e C X x o h.1.2)
    · cases h
  | k, .cons e (.cons e2 es), C, X, xs, o, h, pos => by
    rw [chkEs_cons] at h
    split at h
    · rename_i x r
      rw [Bool.and_eq_true, Bool.and_eq_true] at h
      have ih := chkB_ok k (.cons e2 es) C X r o h.2
      rw [denB]
      cases r with
      | nil => simp [chkEs] at h
      | cons y ys =>
        cases k with
        | true => exact de_and (chkE_ok e C X x o h.1.2) (ih pos)
        | false => exact de_or (chkE_ok e C X x o h.1.2) (ih pos)
    · cases h
theorem chkT_ok : ∀ (ir : Ex) (C : CC) (X : Cx) (e : Expr), Okx T R n C X → chkT T ir C e = true → DT X e (denT R T.cs ir)
  | .bop k es, C, X, e, o, h => by
    simp only [chkT] at h
    split at h
    · rename_i op xs pos
      rw [Bool.and_eq_true] at h
      have e1 : op = if k = true then .And else .Or := of_decide_eq_true h.1
      rw [e1]
      exact (chkTs_ok k es C X xs o h.2 pos).pt
    · cases h
  | .not_ a, C, X, e, o, h => by
    simp only [chkT] at h
    split at h
    · exact dt_not (chkT_ok a C X _ o h)
    · cases h
  | .var i, C, X, e, o, h => by
    simp only [chkT] at h
    rw [Bool.and_eq_true] at h
    obtain ⟨h0, h⟩ := h
    split at h
    · rename_i x pos
      rw [Bool.and_eq_true, Bool.and_eq_true] at h
      exact dt_val (de_var (o.ix h.1.1) (o.vis h.1.2) (okN_1 h.2).1 (okN_1 h.2).2.1) fun w => true1 h0 _ w
    · cases h
  | .cst c, C, X, e, o, h => by
    simp only [chkT] at h
    split at h
    · exact dt_val (cn_ok h) fun w => true1 rfl _ w
    · cases h
  | .cmp op a b, C, X, e, o, h => by
    simp only [chkT] at h
    split at h
    · rename_i x op' y pos
      rw [Bool.and_eq_true, Bool.and_eq_true, Bool.and_eq_true] at h
      obtain ⟨⟨⟨h1, h2⟩, h3⟩, h4⟩ := h
      have e1 : op = op' := of_decide_eq_true h1
      subst e1
      exact dt_cmp (by have := o.units; omega) (chkE_ok a C X x o h2) (chkE_ok b C X y o h3) (mark1 h4 op)
    · cases h
  | .chain op op' a b c, C, X, e, o, h => by
    simp only [chkT] at h
    split at h
    · rename_i x q q' y z pos
      simp only [Bool.and_eq_true] at h
      obtain ⟨⟨⟨⟨⟨h1, h2⟩, h3⟩, h4⟩, h5⟩, h6⟩ := h
      have e1 : op = q := of_decide_eq_true h1
      have e2 : op' = q' := of_decide_eq_true h2
      subst e1 e2
      exact dt_chain (by have := o.units; omega) (chkE_ok a C X x o h3) (chkE_ok b C X y o h4) (chkE_ok c C X z o h5) (mark2 h6 op op')
    · cases h
  | .ix a b, C, X, e, o, h => by
    simp only [chkT] at h
    split at h
    · rename_i x y pos
      rw [Bool.and_eq_true, Bool.and_eq_true] at h
      exact dt_val (de_ix (chkE_ok a C X x o h.1.1) (chkE_ok b C X y o h.1.2) (plainIx1 h.2)) fun w => true1 rfl _ w
    · cases h
  | .bi b es, C, X, e, o, h => by
    simp only [chkT] at h
    split at h
    · rename_i x p xs pos
      rw [Bool.and_eq_true, Bool.and_eq_true, Bool.and_eq_true] at h
      obtain ⟨⟨⟨h1, h2⟩, h3⟩, h4⟩ := h
      have e1 : x = b.nm := of_decide_eq_true h1
      subst e1
      cases xs with
      | nil => cases h4
      | cons y ys => exact dt_val (bi_ok o b h2 (chkEs_ok es C X _ o h3) (chkEs_nst es C _ h3)) fun w => true1 rfl _ w
    · cases h
  | .isi t a, C, X, e, o, h => by
    simp only [chkT] at h
    split at h
    · rename_i x p y z p2 pos
      simp only [Bool.and_eq_true] at h
      obtain ⟨⟨⟨⟨⟨⟨h1, h2⟩, h3⟩, h4⟩, h5⟩, h6⟩, h7⟩ := h
      have e1 := of_decide_eq_true h1
      have e2 := of_decide_eq_true h2
      subst e1 e2
      exact dt_val (isi_ok o (by simpa using h3) h4 h5 (chkE_ok a C X y o h6) h7) fun w => true1 rfl _ w
    · cases h
  | .call i es, C, X, e, o, h => by
    simp only [chkT] at h
    split at h
    · rename_i x p xs pos
      rw [Bool.and_eq_true, Bool.and_eq_true, Bool.and_eq_true] at h
      obtain ⟨⟨⟨h1, h2⟩, h3⟩, h4⟩ := h
      obtain ⟨f, fd, ps, g1, g2, g3, g4⟩ := o.fs i x (of_decide_eq_true h1)
      have hs := chkEs_nst es C _ h4
      cases xs with
      | nil =>
        rw [denT, chkEs_nil es C h4]
        exact dt_val (de_call0 g4 o.room o.grd (o.gl h2) g1 g2 g3 (okN_1 h3).1) fun w => true1 rfl _ w
      | cons y ys =>
        have hs' : nst y = true ∧ nsts ys = true := by
          have : (nst y && nsts ys) = true := hs
          rwa [Bool.and_eq_true] at this
        exact dt_val (de_call g4 o.room o.grd (o.gl h2) g1 g2 g3 (chkEs_ok es C X _ o h4) (okN_1 h3).1 (star1 hs'.1 _ _) (back_any hs'.2 _ _)) fun w => true1 rfl _ w
    · cases h
  | .glo _, _, _, _, _, h => by simp [chkT] at h
  | .kin _ _ _, _, _, _, _, h => by simp [chkT] at h
  | .kix _ _, _, _, _, _, h => by simp [chkT] at h
  | .tup _, _, _, _, _, h => by simp [chkT] at h
  | .lst _, _, _, _, _, h => by simp [chkT] at h
  | .bin _ _ _, _, _, _, _, h => by simp [chkT] at h
  | .neg _, _, _, _, _, h => by simp [chkT] at h
  | .ite _ _ _, _, _, _, _, h => by simp [chkT] at h
  | .sl _ _ _, _, _, _, _, h => by simp [chkT] at h
  | .rev _, _, _, _, _, h => by simp [chkT] at h
  | .mt _ _ _, _, _, _, _, h => by simp [chkT] at h
  | .lc _ _ _ _ _, _, _, _, _, h => by simp [chkT] at h
  | .lc2 _ _ _ _ _ _ _ _ _, _, _, _, _, h => by simp [chkT] at h
theorem chkTs_ok : ∀ (k : Bool) (es : Exs) (C : CC) (X : Cx) (xs : List Expr), Okx T R n C X → chkTs T es C xs = true → ∀ pos, DW X (.BoolOp (if k = true then .And else .Or) xs pos) (denTB R T.cs k es)
  | k, .nil, C, X, xs, o, h, pos => by simp [chkTs] at h
  | k, .cons e .nil, C, X, xs, o, h, pos => by
    simp only [chkTs] at h
    split at h
    · rename_i x
      rw [denTB]
      cases k with
      | true => exact dw_and1 (chkT_ok e C X x o h)
      | false => exact dw_or1 (chkT_ok e C X x o h)
    · cases h
  | k, .cons e (.cons e2 es), C, X, xs, o, h, pos => by
    rw [chkTs_cons] at h
    split at h
    · rename_i x y r
      rw [Bool.and_eq_true] at h
      have ih := chkTs_ok k (.cons e2 es) C X (y :: r) o h.2
      rw [denTB]
      cases k with
      | true => exact dw_and (chkT_ok e C X x o h.1) (ih pos)
      | false => exact dw_or (chkT_ok e C X x o h.1) (ih pos)
    · cases h
theorem chkO_ok : ∀ (ir : Oe) (C : CC) (X : Cx) (e : Option Expr), Okx T R n C X → chkO T ir C e = true → PO X e (lfO X.prog X.w X.K X.mg (denO R T.cs ir))
  | .non, C, X, e, o, h => by
    simp only [chkO, Option.isNone_iff_eq_none] at h
    subst h
    exact do_none
  | .som a, C, X, e, o, h => by
    simp only [chkO] at h
    split at h
    · rename_i y
      exact do_some (chkE_ok a C X y o h)
    · cases h
theorem chkI_ok : ∀ (ir : Oe) (C : CC) (X : Cx) (e : List Expr), Okx T R n C X → chkI T ir C e = true → DTs X e (denI R T.cs ir)
  | .non, C, X, e, o, h => by
    simp only [chkI, List.isEmpty_iff] at h
    subst h
    exact dts_nil
  | .som a, C, X, e, o, h => by
    simp only [chkI] at h
    split at h
    · rename_i y
      exact dts_one (chkT_ok a C X y o h)
    · cases h
theorem chkS_ok : ∀ (ir : Src) (C : CC) (X : Cx) (tg it : Expr), Okx T R n C X → chkS T ir C tg it = true → DI X tg it (denS R T.cs ir)
  | .seq e, C, X, tg, it, o, h => by
    simp only [chkS] at h
    exact di_seq (chkE_ok e C X it o h)
  | .rng1 a, C, X, tg, it, o, h => by
    simp only [chkS] at h
    split at h
    · rename_i x p y pos
      simp only [Bool.and_eq_true] at h
      obtain ⟨⟨⟨h1, h2⟩, h3⟩, h4⟩ := h
      have e1 := of_decide_eq_true h1
      subst e1
      obtain ⟨g1, g2, _, _⟩ := o.blt h2
      exact di_rng1 g1 g2 (da_cons (chkE_ok a C X y o h3) da_nil (star1 h4 _ _)) (star1 h4 _ _)
    · cases h
  | .rng2 a b, C, X, tg, it, o, h => by
    simp only [chkS] at h
    split at h
    · rename_i x p y z pos
      simp only [Bool.and_eq_true] at h
      obtain ⟨⟨⟨⟨⟨h1, h2⟩, h3⟩, h4⟩, h5⟩, h6⟩ := h
      have e1 := of_decide_eq_true h1
      subst e1
      obtain ⟨g1, g2, _, _⟩ := o.blt h2
      have s2 : starEach [z] X.env = [(false, eval z X.env)] := star1 h6 _ _
      exact di_rng2 g1 g2 (da_cons (chkE_ok a C X y o h3) (da_cons (chkE_ok b C X z o h4) da_nil (star1 h6 _ _)) (star1 h5 _ _)) (by rw [star1 h5, s2]) s2
    · cases h
  | .rng3 a b c, C, X, tg, it, o, h => by
    simp only [chkS] at h
    split at h
    · rename_i x p y z u pos
      simp only [Bool.and_eq_true] at h
      obtain ⟨⟨⟨⟨⟨⟨⟨h1, h2⟩, h3⟩, h4⟩, h5⟩, h6⟩, h7⟩, h8⟩ := h
      have e1 := of_decide_eq_true h1
      subst e1
      obtain ⟨g1, g2, _, _⟩ := o.blt h2
      have hs : nsts [z, u] = true := by simp [nsts, h7, h8]
      exact di_rng3 g1 g2 (da_cons (chkE_ok a C X y o h3) (da_cons (chkE_ok b C X z o h4) (da_cons (chkE_ok c C X u o h5) da_nil (star1 h8 _ _)) (star1 h7 _ _)) (star1 h6 _ _)) (star1 h6 _ _) (back_any hs _ _)
    · cases h
  | .enm a, C, X, tg, it, o, h => by
    simp only [chkS] at h
    split at h
    · rename_i elts kk tpos x p y pos
      simp only [Bool.and_eq_true] at h
      obtain ⟨⟨⟨h1, h2⟩, h3⟩, h4⟩ := h
      have e1 := of_decide_eq_true h1
      subst e1
      obtain ⟨g1, g2, _, _⟩ := o.blt h2
      exact di_enum g1 g2 (da_cons (chkE_ok a C X y o h3) da_nil (star1 h4 _ _)) (star1 h4 _ _)
    · cases h
  | .zp a b, C, X, tg, it, o, h => by
    simp only [chkS] at h
    split at h
    · rename_i elts kk tpos x p y z pos
      simp only [Bool.and_eq_true] at h
      obtain ⟨⟨⟨⟨⟨h1, h2⟩, h3⟩, h4⟩, h5⟩, h6⟩ := h
      have e1 := of_decide_eq_true h1
      subst e1
      obtain ⟨g1, g2, _, _⟩ := o.blt h2
      have hs : nsts [z] = true := by simp [nsts, h6]
      exact di_zip g1 g2 (da_cons (chkE_ok a C X y o h3) (da_cons (chkE_ok b C X z o h4) da_nil (star1 h6 _ _)) (star1 h5 _ _)) (star1 h5 _ _) (back_any hs _ _)
    · cases h
end
end
end Dn

set_option Elab.async false
set_option linter.all false
set_option maxRecDepth 100000
set_option maxHeartbeats 8000000
namespace Dn
open PySem PySem.Spec L2
open PyProof.Rows hiding St
variable {P : Program} {Wd : World}

def swc (C : CC) (y : Str) (py pos : Pos) (scope : Scope) : Bool := C.sc.names.lookup y == some .local && py.line == pos.line && !(scope.names.any fun (n, k) => n == y && (k == .local || k == .cell))
theorem swap2 {t : Expr} (h : nnm t = true) (e : Expr) (l : Nat) (env : Env) : swapsWith e (some t) l env = pure false := by
  cases e <;> first
    | rfl
    | (cases t <;> first | rfl | exact absurd h Bool.false_ne_true)
section
variable (T : Tb)
mutual
def chkSt : Stm → CC → Stmt → Bool
  | .expr e, C, s => match s with
    | .Expr x _ => chkE T e C x && ncm x
    | _ => false
  | .asg p e, C, s => match s with
    | .Assign [tg] x pos => (match tg with
      | .Name y py => (match p with
        | .nm i => ixB C.N i y && locB C y && (match x with
          | .ListComp elt gens scope cpos => (match e with
            | .lc s1 p1 c1 el own => if swc C y py cpos scope then chkE T (.lc s1 p1 c1 el own) C (.ListComp elt gens scope cpos) else false
            | .lc2 s1 p1 c1 s2 p2 c2 el own vs1 => if swc C y py cpos scope then chkE T (.lc2 s1 p1 c1 s2 p2 c2 el own vs1) C (.ListComp elt gens scope cpos) else false
            | _ => false)
          | x => ncm x && chkE T e C x)
        | _ => false)
      | tg => nnm tg && chkP C p tg && swn tg x && chkE T e C x)
    | _ => false
  | .asgL ps e, C, s => match s with
    | .Assign [.Tuple es _ _] x _ => chkPs C ps es && swn (.Tuple es 0 ⟨0, 0, 0, 0⟩) x && chkE T e C x
    | _ => false
  | .par is es, C, s => match s with
    | .Assign [.Tuple [.Name x px, .Name y py] _ _] (.Tuple [a, b] _ _) _ => (match is with
      | [i, j] => ixB C.N i x && ixB C.N j y && decide (x ≠ y) && (C.sc.names.lookup x == some .local) && (C.sc.names.lookup y == some .local) && (py.line == px.line) && swp [a, b] && chkEs T es C [a, b]
      | _ => false)
    | .Assign [.Tuple [.Name x px, .Name y py, .Name z pz] _ _] (.Tuple [a, b, c] _ _) _ => (match is with
      | [i, j, k] => ixB C.N i x && ixB C.N j y && ixB C.N k z && decide (x ≠ y) && decide (x ≠ z) && decide (y ≠ z) && (C.sc.names.lookup x == some .local) && (C.sc.names.lookup y == some .local) && (C.sc.names.lookup z == some .local) &&
        (py.line == px.line) && (pz.line == px.line) && swp [a, b, c] && chkEs T es C [a, b, c]
      | _ => false)
    | _ => false
  | .setS o i e, C, s => match s with
    | .Assign [.Subscript x y _] z _ => chkE T o C x && chkE T i C y && chkE T e C z && nsl y
    | _ => false
  | .aug i op e, C, s => match s with
    | .AugAssign (.Name x _) o z _ => decide (op = o) && ixB C.N i x && locB C x && chkE T e C z
    | _ => false
  | .augS op o i e, C, s => match s with
    | .AugAssign (.Subscript x y _) o' z _ => decide (op = o') && chkE T o C x && chkE T i C y && chkE T e C z && nsl y
    | _ => false
  | .ite c a b, C, s => match s with
    | .If x xs ys _ => chkT T c C x && chkSs a C xs && chkSs b C ys
    | _ => false
  | .whl c b, C, s => match s with
    | .While x xs [] _ => chkT T c C x && chkSs b C xs
    | _ => false
  | .for_ sr p b, C, s => match s with
    | .For tg it xs [] _ => chkS T sr C tg it && chkP C p tg && nset it && chkSs b C xs
    | _ => false
  | .ret e, C, s => match s with
    | .Return (some x) _ => chkE T e C x
    | _ => false
  | .retN, _, s => match s with
    | .Return none _ => true
    | _ => false
  | .pass, _, s => match s with
    | .Pass _ => true
    | _ => false
  | .brk, _, s => match s with
    | .Break _ => true
    | _ => false
  | .cnt, _, s => match s with
    | .Continue _ => true
    | _ => false
  | .never, _, _ => true
def chkSs : Stms → CC → List Stmt → Bool
  | .nil, _, xs => xs.isEmpty
  | .cons s r, C, xs => match xs with
    | x :: ys => chkSt s C x && chkSs r C ys
    | [] => false
end
end
section
variable {T : Tb} {R : Nat → FD} {n : Nat} {C : CC} {X : Cx}
theorem ds_lc (o : Okx T R n C X) {i : Nat} {y : Str} {py pos cpos : Pos} {elt : Expr} {gens : List Comprehension} {scope : Scope} {s : Src} {p : Pat} {c : Oe} {el : Ex} {own : List (Str × Nat)} (hi : X.N[i]? = some y) (hsw : swc C y py cpos scope = true)
    (h : chkE T (.lc s p c el own) C (.ListComp elt gens scope cpos) = true) : DS X (.Assign [.Name y py] (.ListComp elt gens scope cpos) pos) (dAsg (denE R T.cs (.lc s p c el own)) (.nm i)) := by
  unfold swc at hsw
  simp only [Bool.and_eq_true, beq_iff_eq] at hsw
  obtain ⟨⟨w1, w2⟩, w3⟩ := hsw
  have hk : X.env.scope.kind = .function := by rw [o.sc]; exact o.knd
  have hl : X.env.scope.names.lookup y = some .local := by rw [o.sc]; exact w1
  have hs : swapsWith (.ListComp elt gens scope cpos) (some (.Name y py)) pos.line X.env = pure true := by
    show (pure (X.env.blockKind == .function && X.env.kindOf y == some .local && py.line == cpos.line && !(scope.names.any fun (n, k) => n == y && (k == .local || k == .cell))) : Sem Bool) = pure true
    rw [blk_fn hk, show X.env.kindOf y = some .local from hl, w2, w3]
    simp
  simp only [chkE] at h
  split at h
  · rename_i elt' tg it fs a scope' pos' hh
    cases hh
    simp only [Bool.and_eq_true] at h
    obtain ⟨⟨⟨⟨⟨⟨⟨h1, h2⟩, h3⟩, h4⟩, h5⟩, h6⟩, h7⟩, h8⟩ := h
    have e1 := of_decide_eq_true h1
    subst e1
    obtain ⟨b1, b2⟩ := o.blkOk h4
    refine PS.imp (ps_setLc (te := lf X.prog X.w X.K X.mg (denE R T.cs el)) (tt := lfT X.prog X.w X.K X.mg (denI R T.cs c)) (g := gPat X.K p) o.calm o.nodup hi hl hs (chkS_ok s C X tg it o h2) b1 (fun s H cn cl fp => (chkP_ok (o.blk b2 s H cn cl fp) p tg h5).1)
      (fun s H cn cl fp => chkI_ok c _ _ fs (o.blk b2 s H cn cl fp) h7) (fun s H cn cl fp => chkE_ok el _ _ elt (o.blk b2 s H cn cl fp) h8) (fun x => fold1 h3 X.env x)) fun E σ H hh => ?_
    exact lc_imp h6 (asg_imp (p := .nm i) hh)
  · cases h
theorem ds_lc2 (o : Okx T R n C X) {i : Nat} {y : Str} {py pos cpos : Pos} {elt : Expr} {gens : List Comprehension} {scope : Scope} {s s1 : Src} {p p1 : Pat} {c c1 : Oe} {el : Ex} {own : List (Str × Nat)} {vs1 : List Nat} (hi : X.N[i]? = some y) (hsw : swc C y py cpos scope = true)
    (h : chkE T (.lc2 s p c s1 p1 c1 el own vs1) C (.ListComp elt gens scope cpos) = true) : DS X (.Assign [.Name y py] (.ListComp elt gens scope cpos) pos) (dAsg (denE R T.cs (.lc2 s p c s1 p1 c1 el own vs1)) (.nm i)) := by
  unfold swc at hsw
  simp only [Bool.and_eq_true, beq_iff_eq] at hsw
  obtain ⟨⟨w1, w2⟩, w3⟩ := hsw
  have hk : X.env.scope.kind = .function := by rw [o.sc]; exact o.knd
  have hl : X.env.scope.names.lookup y = some .local := by rw [o.sc]; exact w1
  have hs : swapsWith (.ListComp elt gens scope cpos) (some (.Name y py)) pos.line X.env = pure true := by
    show (pure (X.env.blockKind == .function && X.env.kindOf y == some .local && py.line == cpos.line && !(scope.names.any fun (n, k) => n == y && (k == .local || k == .cell))) : Sem Bool) = pure true
    rw [blk_fn hk, show X.env.kindOf y = some .local from hl, w2, w3]
    simp
  simp only [chkE] at h
  split at h
  · rename_i elt' tg it fs a tg1 it1 fs1 a1 scope' pos' hh
    cases hh
    simp only [Bool.and_eq_true] at h
    obtain ⟨⟨⟨⟨⟨⟨⟨⟨⟨⟨⟨⟨⟨⟨h1, h2⟩, h3⟩, h4⟩, h5⟩, h6⟩, h7⟩, h8⟩, h9⟩, h10⟩, h11⟩, h12⟩, h13⟩, h14⟩, h15⟩ := h
    have e1 := of_decide_eq_true h1
    have e2 := of_decide_eq_true h2
    subst e1 e2
    obtain ⟨b1, b2⟩ := o.blkOk h6
    have hv : ∀ i ∈ vs1, i ∈ own.map (·.2) := fun i hi => by
      have := List.all_eq_true.mp h13 i hi
      simpa using this
    refine PS.imp (ps_setLc2 (te := lf X.prog X.w X.K X.mg (denE R T.cs el)) (tt := lfT X.prog X.w X.K X.mg (denI R T.cs c)) (tt1 := lfT X.prog X.w X.K X.mg (denI R T.cs c1)) (g := gPat X.K p) (g1 := gPat X.K p1) (wi1 := lfI X.prog X.w X.K X.mg (denS R T.cs s1)) o.calm o.nodup hi hl hs (chkS_ok s C X tg it o h3) b1 hv (fun s H cn cl fp => (chkP_ok (o.blk b2 s H cn cl fp) p tg h7).1)
      (fun s H cn cl fp => chkI_ok c _ _ fs (o.blk b2 s H cn cl fp) h9) (fun s H cn cl fp => chkS_ok s1 _ _ tg1 it1 (o.blk b2 s H cn cl fp) h10) (fun s H cn cl fp => (chkP_ok (o.blk b2 s H cn cl fp) p1 tg1 h11).1) (fun s H cn cl fp => chkI_ok c1 _ _ fs1 (o.blk b2 s H cn cl fp) h14)
      (fun s H cn cl fp => chkE_ok el _ _ elt (o.blk b2 s H cn cl fp) h15) (fun x => fold1 h4 X.env x) (fun env x => fold1 h5 env x)) fun E σ H hh => ?_
    exact lc2_imp h8 h12 (asg_imp (p := .nm i) hh)
  · cases h
end
section
variable {T : Tb} {R : Nat → FD} {n : Nat} {C : CC} {X : Cx}
theorem chkSt_asg (o : Okx T R n C X) (p : Pat) (e : Ex) (st : Stmt) (h : chkSt T (.asg p e) C st = true) : DS X st (denSt R T.cs (.asg p e)) := by
  simp only [chkSt] at h
  split at h
  · rename_i tg x pos
    split at h
    · rename_i y py
      split at h
      · rename_i i
        rw [Bool.and_eq_true, Bool.and_eq_true] at h
        obtain ⟨⟨h1, h2⟩, h3⟩ := h
        split at h3
        · rename_i elt gens scope cpos
          split at h3
          · rename_i s1 p1 c1 el own
            split at h3
            · rename_i hsw
              exact ds_lc o (o.ix h1) hsw h3
            · cases h3
          · rename_i s1 p1 c1 s2 p2 c2 el own vs1
            split at h3
            · rename_i hsw
              exact ds_lc2 o (o.ix h1) hsw h3
            · cases h3
          · cases h3
        · rename_i x' hx
          rw [Bool.and_eq_true] at h3
          exact ds_set o.nodup (o.ix h1) (o.loc h2).1 (chkE_ok e C X x o h3.2) (swap1 h3.1 _ _ _) (o.loc h2).2
      · cases h
    · rename_i tg' htg
      rw [Bool.and_eq_true, Bool.and_eq_true, Bool.and_eq_true] at h
      obtain ⟨⟨⟨h1, h2⟩, h3⟩, h4⟩ := h
      obtain ⟨g1, g2⟩ := chkP_ok o p tg h2
      exact ds_asg (chkE_ok e C X x o h4) g1 (swap2 h1 _ _ _) (swn_ok h3 _) (each1 g2 _)
  · cases h
theorem chkSt_par (o : Okx T R n C X) (is : List Nat) (es : Exs) (st : Stmt) (h : chkSt T (.par is es) C st = true) : DS X st (denSt R T.cs (.par is es)) := by
  have hk : X.env.scope.kind = .function := by rw [o.sc]; exact o.knd
  have nij : ∀ {i j : Nat} {x y : Str}, X.N[i]? = some x → X.N[j]? = some y → x ≠ y → i ≠ j := fun h1 h2 h3 e => by
    subst e
    rw [h1] at h2
    exact h3 (Option.some.inj h2)
  simp only [chkSt] at h
  split at h
  · rename_i x px y py k pt a b k2 pt2 pos
    split at h
    · rename_i i j
      simp only [Bool.and_eq_true, beq_iff_eq] at h
      obtain ⟨⟨⟨⟨⟨⟨⟨h1, h2⟩, h3⟩, h4⟩, h5⟩, h6⟩, h7⟩, h8⟩ := h
      have hxy : x ≠ y := of_decide_eq_true h3
      have l1 : X.env.scope.names.lookup x = some .local := by rw [o.sc]; exact h4
      have l2 : X.env.scope.names.lookup y = some .local := by rw [o.sc]; exact h5
      exact ds_par o.calm o.nodup (o.ix h1) (o.ix h2) (nij (o.ix h1) (o.ix h2) hxy) l1 l2 (chkEs_ok es C X _ o h8) (swp2_ok hk l1 l2 h6 hxy h7) rfl
    · cases h
  · rename_i x px y py z pz k pt a b c k2 pt2 pos
    split at h
    · rename_i i j k
      simp only [Bool.and_eq_true, beq_iff_eq] at h
      obtain ⟨⟨⟨⟨⟨⟨⟨⟨⟨⟨⟨⟨h1, h2⟩, h3⟩, h4⟩, h5⟩, h6⟩, h7⟩, h8⟩, h9⟩, h10⟩, h11⟩, h12⟩, h13⟩ := h
      have hxy : x ≠ y := of_decide_eq_true h4
      have hxz : x ≠ z := of_decide_eq_true h5
      have hyz : y ≠ z := of_decide_eq_true h6
      have l1 : X.env.scope.names.lookup x = some .local := by rw [o.sc]; exact h7
      have l2 : X.env.scope.names.lookup y = some .local := by rw [o.sc]; exact h8
      have l3 : X.env.scope.names.lookup z = some .local := by rw [o.sc]; exact h9
      exact ds_par3 o.calm o.nodup (o.ix h1) (o.ix h2) (o.ix h3) (nij (o.ix h1) (o.ix h2) hxy) (nij (o.ix h1) (o.ix h3) hxz) (nij (o.ix h2) (o.ix h3) hyz) l1 l2 l3 (chkEs_ok es C X _ o h13) (swp3_ok hk l1 l2 l3 h10 h11 hxy hxz hyz h12) rfl
    · cases h
  · cases h
theorem swn_pos {ts : List Expr} {k : Nat} {p : Pos} {e : Expr} (h : swn (.Tuple ts 0 ⟨0, 0, 0, 0⟩) e = true) : swn (.Tuple ts k p) e = true := by
  cases e <;> exact h
mutual
theorem chkSt_ok (hp : PassesOwn (model X.prog X.w) X.A X.env X.xe) (o : Okx T R n C X) : ∀ (ir : Stm) (st : Stmt), chkSt T ir C st = true → DS X st (denSt R T.cs ir)
  | .asg p e, st, h => chkSt_asg o p e st h
  | .par is es, st, h => chkSt_par o is es st h
  | .expr e, st, h => by
    simp only [chkSt] at h
    split at h
    · rw [Bool.and_eq_true] at h
      exact ds_drop (chkE_ok e C X _ o h.1) (swap1 h.2 _ _ _)
    · cases h
  | .asgL ps e, st, h => by
    simp only [chkSt] at h
    split at h
    · rename_i es k tp x pos
      rw [Bool.and_eq_true, Bool.and_eq_true] at h
      obtain ⟨g1, g2, g3⟩ := chkPs_ok o ps es h.1.1
      exact ds_asgL o.calm (chkE_ok e C X x o h.2) g1 g2 g3 (swap2 (t := .Tuple es k tp) rfl x pos.line X.env) (swn_ok (swn_pos h.1.2) _) (each1 rfl _)
    · cases h
  | .setS oo i e, st, h => by
    simp only [chkSt] at h
    split at h
    · rename_i x y tp z pos
      simp only [Bool.and_eq_true] at h
      obtain ⟨⟨⟨h1, h2⟩, h3⟩, h4⟩ := h
      exact ds_setS (chkE_ok oo C X x o h1) (chkE_ok i C X y o h2) (chkE_ok e C X z o h3) (fun v => asub1 h4 _ _ v) (swap2 (t := .Subscript x y tp) rfl z pos.line X.env) (swn_ok (by cases z <;> rfl) _) (each1 rfl _)
    · cases h
  | .aug i op e, st, h => by
    simp only [chkSt] at h
    split at h
    · rename_i x px op' z pos
      simp only [Bool.and_eq_true] at h
      obtain ⟨⟨⟨h1, h2⟩, h3⟩, h4⟩ := h
      have e1 := of_decide_eq_true h1
      subst e1
      exact ds_aug o.nodup (o.ix h2) (o.loc h3).1 (chkE_ok e C X z o h4) (o.loc h3).2
    · cases h
  | .augS op oo i e, st, h => by
    simp only [chkSt] at h
    split at h
    · rename_i x y tp op' z pos
      simp only [Bool.and_eq_true] at h
      obtain ⟨⟨⟨⟨h1, h2⟩, h3⟩, h4⟩, h5⟩ := h
      have e1 := of_decide_eq_true h1
      subst e1
      exact ds_augS (chkE_ok oo C X x o h2) (chkE_ok i C X y o h3) (chkE_ok e C X z o h4) (fun a b c => aaug1 h5 a b c)
    · cases h
  | .ite c a b, st, h => by
    simp only [chkSt] at h
    split at h
    · rename_i x xs ys pos
      rw [Bool.and_eq_true, Bool.and_eq_true] at h
      exact ds_if (chkT_ok c C X x o h.1.1) (chkSs_ok hp o a xs h.1.2) (chkSs_ok hp o b ys h.2)
    · cases h
  | .whl c b, st, h => by
    simp only [chkSt] at h
    split at h
    · rename_i x xs pos
      rw [Bool.and_eq_true] at h
      exact ds_while hp (chkT_ok c C X x o h.1) (chkSs_ok hp o b xs h.2)
    · cases h
  | .for_ sr p b, st, h => by
    simp only [chkSt] at h
    split at h
    · rename_i tg it xs pos
      simp only [Bool.and_eq_true] at h
      obtain ⟨⟨⟨h1, h2⟩, h3⟩, h4⟩ := h
      exact ds_for hp o.calm (chkS_ok sr C X tg it o h1) (chkP_ok o p tg h2).1 (chkSs_ok hp o b xs h4) (fun x => fold1 h3 _ x)
    · cases h
  | .ret e, st, h => by
    simp only [chkSt] at h
    split at h
    · exact ds_ret (chkE_ok e C X _ o h)
    · cases h
  | .retN, st, h => by
    simp only [chkSt] at h
    split at h
    · exact ds_retN
    · cases h
  | .pass, st, h => by
    simp only [chkSt] at h
    split at h
    · exact ds_pass
    · cases h
  | .brk, st, h => by
    simp only [chkSt] at h
    split at h
    · exact ds_brk
    · cases h
  | .cnt, st, h => by
    simp only [chkSt] at h
    split at h
    · exact ds_cnt
    · cases h
  | .never, st, h => ds_never
theorem chkSs_ok (hp : PassesOwn (model X.prog X.w) X.A X.env X.xe) (o : Okx T R n C X) : ∀ (ir : Stms) (st : List Stmt), chkSs T ir C st = true → DSs X st (denSs R T.cs ir)
  | .nil, st, h => by
    simp only [chkSs, List.isEmpty_iff] at h
    subst h
    exact dss_nil
  | .cons s r, st, h => by
    simp only [chkSs] at h
    split at h
    · rename_i x ys
      rw [Bool.and_eq_true] at h
      exact dss_cons (chkSt_ok hp o s x h.1) (chkSs_ok hp o r ys h.2)
    · cases h
end
end

/-! ### the table of defs -/
structure FnR where
  name : Str
  params : Arguments
  body : List Stmt
  scope : Scope
  ps : List Str
  N : List Str
  ir : Stms
def runF (cs : Cst) (tab : List FnR) : Nat → Nat → FD
  | 0, _ => fun _ _ _ => False
  | n + 1, i => fun ds M Q => match tab[i]? with
    | some r => ds.length = r.ps.length ∧ denSs (runF cs tab n) cs r.ir { nx := fun _ M' => Q .non M', rt := Q } (startE r.N.length ds) M
    | none => False
def FnR.cc (r : FnR) : CC := ⟨r.N, r.scope, fun _ => true⟩
def scopeB (r : FnR) : Bool :=
  decide (r.scope.kind = .function) && !r.scope.isCoroutine && !r.scope.isGenerator && decide r.N.Nodup && decide (r.N.take r.ps.length = r.ps) &&
  r.ps.all (fun x => r.scope.names.lookup x == some .local || r.scope.names.lookup x == some .cell) && r.scope.names.all (fun y => !(y.2 == .free))
theorem scopeB_ok {r : FnR} (h : scopeB r = true) : FnScope r.N r.ps r.scope := by
  unfold scopeB at h
  simp only [Bool.and_eq_true, Bool.not_eq_true', decide_eq_true_eq, List.all_eq_true, Bool.or_eq_true, beq_iff_eq] at h
  obtain ⟨⟨⟨⟨⟨⟨h1, h2⟩, h3⟩, h4⟩, h5⟩, h6⟩, h7⟩ := h
  refine ⟨h1, h2, h3, h4, h5, fun x hx => h6 x hx, fun y hy e => ?_⟩
  have := h7 y hy
  rw [e] at this
  exact absurd this (by decide)
/-- what stands behind the top -/
structure TabOk (w : World) (T : Tb) (tab : List FnR) (K : PySem.W.Frag) (mg : Str → Option Value) : Prop where
  fs : T.fs = tab.map (·.name)
  bs : ∀ x, T.bs.contains x = true → mg x = none
  cs : ∀ (i : Nat) p, T.cs.c[i]? = some p → GloD K mg p.1 p.2
  ds : ∀ (i : Nat) p, T.cs.d[i]? = some p → DctG K w mg p.1 p.2
  fn : ∀ (i : Nat) r, tab[i]? = some r → ∃ f fd, mg r.name = some (.ref f) ∧ FunD K r.name r.name r.params r.body r.scope [] [] f fd ∧ Binds K fd r.ps []
  chk : ∀ r ∈ tab, scopeB r = true ∧ chkSs T r.ir r.cc r.body = true
theorem tab_ok {w : World} {T : Tb} {tab : List FnR} {K : PySem.W.Frag} {mg : Str → Option Value} {base : Heap} (t : TabOk w T tab K mg) : ∀ (n i : Nat) r, tab[i]? = some r → ∀ f fd, FunD K r.name r.name r.params r.body r.scope [] [] f fd →
    FnG P w K mg base n f fd r.ps (runF T.cs tab n i)
  | 0, i, r, hr, f, fd, F => ⟨fun _ _ _ h => False.elim h, fun A outer s H args us vs Q _ _ _ _ _ h => by obtain ⟨_, _, _, _, _, h, _⟩ := h; exact False.elim h⟩
  | n + 1, i, r, hr, f, fd, F => by
    obtain ⟨h1, h2⟩ := t.chk r (List.mem_of_getElem? hr)
    have S := scopeB_ok h1
    refine fnG_of (t := denSs (runF T.cs tab n) T.cs r.ir) F S (fun ds M Q h => ?_) (fun cdv A outer s H rm gd => ?_) (fun ds M Q h => ?_)
    · unfold runF at h
      rw [hr] at h
      exact h.1
    · refine chkSs_ok (T := T) (n := n) (C := r.cc) PassesOwn.never ?_ r.ir r.body h2
      exact {
        hN := rfl
        nd := S.nd
        sc := rfl
        knd := S.kind
        fn := fun x _ => rfl
        calm := rfl
        grd := gd
        room := rm
        bs := t.bs
        cs := t.cs
        ds := t.ds
        fs := fun j x hx => by
          rw [t.fs, List.getElem?_map] at hx
          cases q : tab[j]? with
          | none => rw [q] at hx; cases hx
          | some r' =>
            rw [q] at hx
            cases hx
            obtain ⟨f', fd', g1, g2, g3⟩ := t.fn j r' q
            exact ⟨f', fd', r'.ps, g1, g2.kp, g3, tab_ok t n j r' q f' fd' g2⟩ }
    · unfold runF at h
      rw [hr] at h
      exact h.2
end Dn

set_option Elab.async false
set_option linter.all false
set_option maxRecDepth 100000
set_option maxHeartbeats 4000000
namespace Dn
open PySem PySem.Spec L2
open PyProof.Rows hiding St
variable {P : Program} {Wd : World}

/-! ### binding -/
section
variable (x q : Str) (b : List Stmt) (sc : Scope) (kV doc pm : Value) (an : Option Addr) (cdv ct : Value)
theorem stand0 : notAStandIn Value.none = pure () := by
  first | rfl | (unfold notAStandIn; rfl) | simp [notAStandIn]
theorem bind1 (n1 : Str) (p1 : Pos) (u1 : Value)  : bindArgs (PySem.W.fnOf x q ⟨[], [⟨n1, none, p1⟩], none, [], [], none, []⟩ b sc .none kV doc pm an cdv ct) ⟨[u1], []⟩ = pure [(n1, u1)] := by
  simp [bindArgs, PySem.W.fnOf, seqItems?, List.lookup, stand0]
theorem bind2 (n1 n2 : Str) (p1 p2 : Pos) (u1 u2 : Value) (h21 : n2 ≠ n1) : bindArgs (PySem.W.fnOf x q ⟨[], [⟨n1, none, p1⟩, ⟨n2, none, p2⟩], none, [], [], none, []⟩ b sc .none kV doc pm an cdv ct) ⟨[u1, u2], []⟩ = pure [(n1, u1), (n2, u2)] := by
  have k21 : (n2 == n1) = false := by simpa using h21
  have m21 : (n1 == n2) = false := by simpa using Ne.symm h21
  simp [bindArgs, PySem.W.fnOf, seqItems?, List.lookup, stand0, k21, m21]
theorem bind3 (n1 n2 n3 : Str) (p1 p2 p3 : Pos) (u1 u2 u3 : Value) (h21 : n2 ≠ n1) (h31 : n3 ≠ n1) (h32 : n3 ≠ n2) : bindArgs (PySem.W.fnOf x q ⟨[], [⟨n1, none, p1⟩, ⟨n2, none, p2⟩, ⟨n3, none, p3⟩], none, [], [], none, []⟩ b sc .none kV doc pm an cdv ct) ⟨[u1, u2, u3], []⟩ = pure [(n1, u1), (n2, u2), (n3, u3)] := by
  have k21 : (n2 == n1) = false := by simpa using h21
  have m21 : (n1 == n2) = false := by simpa using Ne.symm h21
  have k31 : (n3 == n1) = false := by simpa using h31
  have m31 : (n1 == n3) = false := by simpa using Ne.symm h31
  have k32 : (n3 == n2) = false := by simpa using h32
  have m32 : (n2 == n3) = false := by simpa using Ne.symm h32
  simp [bindArgs, PySem.W.fnOf, seqItems?, List.lookup, stand0, k21, m21, k31, m31, k32, m32]
theorem bind4 (n1 n2 n3 n4 : Str) (p1 p2 p3 p4 : Pos) (u1 u2 u3 u4 : Value) (h21 : n2 ≠ n1) (h31 : n3 ≠ n1) (h32 : n3 ≠ n2) (h41 : n4 ≠ n1) (h42 : n4 ≠ n2) (h43 : n4 ≠ n3) : bindArgs (PySem.W.fnOf x q ⟨[], [⟨n1, none, p1⟩, ⟨n2, none, p2⟩, ⟨n3, none, p3⟩, ⟨n4, none, p4⟩], none, [], [], none, []⟩ b sc .none kV doc pm an cdv ct) ⟨[u1, u2, u3, u4], []⟩ = pure [(n1, u1), (n2, u2), (n3, u3), (n4, u4)] := by
  have k21 : (n2 == n1) = false := by simpa using h21
  have m21 : (n1 == n2) = false := by simpa using Ne.symm h21
  have k31 : (n3 == n1) = false := by simpa using h31
  have m31 : (n1 == n3) = false := by simpa using Ne.symm h31
  have k32 : (n3 == n2) = false := by simpa using h32
  have m32 : (n2 == n3) = false := by simpa using Ne.symm h32
  have k41 : (n4 == n1) = false := by simpa using h41
  have m41 : (n1 == n4) = false := by simpa using Ne.symm h41
  have k42 : (n4 == n2) = false := by simpa using h42
  have m42 : (n2 == n4) = false := by simpa using Ne.symm h42
  have k43 : (n4 == n3) = false := by simpa using h43
  have m43 : (n3 == n4) = false := by simpa using Ne.symm h43
  simp [bindArgs, PySem.W.fnOf, seqItems?, List.lookup, stand0, k21, m21, k31, m31, k32, m32, k41, m41, k42, m42, k43, m43]
theorem bind5 (n1 n2 n3 n4 n5 : Str) (p1 p2 p3 p4 p5 : Pos) (u1 u2 u3 u4 u5 : Value) (h21 : n2 ≠ n1) (h31 : n3 ≠ n1) (h32 : n3 ≠ n2) (h41 : n4 ≠ n1) (h42 : n4 ≠ n2) (h43 : n4 ≠ n3) (h51 : n5 ≠ n1) (h52 : n5 ≠ n2) (h53 : n5 ≠ n3) (h54 : n5 ≠ n4) : bindArgs (PySem.W.fnOf x q ⟨[], [⟨n1, none, p1⟩, ⟨n2, none, p2⟩, ⟨n3, none, p3⟩, ⟨n4, none, p4⟩, ⟨n5, none, p5⟩], none, [], [], none, []⟩ b sc .none kV doc pm an cdv ct) ⟨[u1, u2, u3, u4, u5], []⟩ = pure [(n1, u1), (n2, u2), (n3, u3), (n4, u4), (n5, u5)] := by
  have k21 : (n2 == n1) = false := by simpa using h21
  have m21 : (n1 == n2) = false := by simpa using Ne.symm h21
  have k31 : (n3 == n1) = false := by simpa using h31
  have m31 : (n1 == n3) = false := by simpa using Ne.symm h31
  have k32 : (n3 == n2) = false := by simpa using h32
  have m32 : (n2 == n3) = false := by simpa using Ne.symm h32
  have k41 : (n4 == n1) = false := by simpa using h41
  have m41 : (n1 == n4) = false := by simpa using Ne.symm h41
  have k42 : (n4 == n2) = false := by simpa using h42
  have m42 : (n2 == n4) = false := by simpa using Ne.symm h42
  have k43 : (n4 == n3) = false := by simpa using h43
  have m43 : (n3 == n4) = false := by simpa using Ne.symm h43
  have k51 : (n5 == n1) = false := by simpa using h51
  have m51 : (n1 == n5) = false := by simpa using Ne.symm h51
  have k52 : (n5 == n2) = false := by simpa using h52
  have m52 : (n2 == n5) = false := by simpa using Ne.symm h52
  have k53 : (n5 == n3) = false := by simpa using h53
  have m53 : (n3 == n5) = false := by simpa using Ne.symm h53
  have k54 : (n5 == n4) = false := by simpa using h54
  have m54 : (n4 == n5) = false := by simpa using Ne.symm h54
  simp [bindArgs, PySem.W.fnOf, seqItems?, List.lookup, stand0, k21, m21, k31, m31, k32, m32, k41, m41, k42, m42, k43, m43, k51, m51, k52, m52, k53, m53, k54, m54]
end
def argB (p : Arguments) (ps : List Str) : Bool := p.posonlyargs.isEmpty && p.vararg.isNone && p.kwonlyargs.isEmpty && p.kw_defaults.isEmpty && p.kwarg.isNone && p.defaults.isEmpty && p.args.all (fun a => a.annotation.isNone) && decide (p.args.map (·.arg) = ps) && decide ps.Nodup && decide (ps.length ≤ 5) && decide (0 < ps.length)
theorem argB_ok {p : Arguments} {ps : List Str} (h : argB p ps = true) (x q : Str) (b : List Stmt) (sc : Scope) (kV doc pm : Value) (an : Option Addr) (cdv ct : Value) (us : List Value) (hl : us.length = ps.length) :
    bindArgs (PySem.W.fnOf x q p b sc .none kV doc pm an cdv ct) ⟨us, []⟩ = pure (ps.zip us) := by
  obtain ⟨a1, a2, a3, a4, a5, a6, a7⟩ := p
  unfold argB at h
  simp only [Bool.and_eq_true, List.isEmpty_iff, Option.isNone_iff_eq_none, decide_eq_true_eq] at h
  obtain ⟨⟨⟨⟨⟨⟨⟨⟨⟨⟨rfl, rfl⟩, rfl⟩, rfl⟩, rfl⟩, rfl⟩, hann⟩, he⟩, hnd⟩, h5⟩, h0⟩ := h
  subst he
  match a2, us, hl, hann, hnd, h5, h0 with
  | [⟨n1, t1, p1⟩], [u1], _, hann, hnd, _, _ =>
    simp only [List.all_cons, List.all_nil, Bool.and_true, Bool.and_eq_true, Option.isNone_iff_eq_none] at hann
    subst hann
    exact bind1 x q b sc kV doc pm an cdv ct n1 p1 u1 
  | [⟨n1, t1, p1⟩, ⟨n2, t2, p2⟩], [u1, u2], _, hann, hnd, _, _ =>
    simp only [List.all_cons, List.all_nil, Bool.and_true, Bool.and_eq_true, Option.isNone_iff_eq_none] at hann
    obtain ⟨rfl, rfl⟩ := hann
    exact bind2 x q b sc kV doc pm an cdv ct n1 n2 p1 p2 u1 u2 (by have := hnd; simp only [List.map_cons, List.map_nil, List.nodup_cons, List.mem_cons, not_or] at this; grind)
  | [⟨n1, t1, p1⟩, ⟨n2, t2, p2⟩, ⟨n3, t3, p3⟩], [u1, u2, u3], _, hann, hnd, _, _ =>
    simp only [List.all_cons, List.all_nil, Bool.and_true, Bool.and_eq_true, Option.isNone_iff_eq_none] at hann
    obtain ⟨rfl, rfl, rfl⟩ := hann
    exact bind3 x q b sc kV doc pm an cdv ct n1 n2 n3 p1 p2 p3 u1 u2 u3 (by have := hnd; simp only [List.map_cons, List.map_nil, List.nodup_cons, List.mem_cons, not_or] at this; grind) (by have := hnd; simp only [List.map_cons, List.map_nil, List.nodup_cons, List.mem_cons, not_or] at this; grind) (by have := hnd; simp only [List.map_cons, List.map_nil, List.nodup_cons, List.mem_cons, not_or] at this; grind)
  | [⟨n1, t1, p1⟩, ⟨n2, t2, p2⟩, ⟨n3, t3, p3⟩, ⟨n4, t4, p4⟩], [u1, u2, u3, u4], _, hann, hnd, _, _ =>
    simp only [List.all_cons, List.all_nil, Bool.and_true, Bool.and_eq_true, Option.isNone_iff_eq_none] at hann
    obtain ⟨rfl, rfl, rfl, rfl⟩ := hann
    exact bind4 x q b sc kV doc pm an cdv ct n1 n2 n3 n4 p1 p2 p3 p4 u1 u2 u3 u4 (by have := hnd; simp only [List.map_cons, List.map_nil, List.nodup_cons, List.mem_cons, not_or] at this; grind) (by have := hnd; simp only [List.map_cons, List.map_nil, List.nodup_cons, List.mem_cons, not_or] at this; grind) (by have := hnd; simp only [List.map_cons, List.map_nil, List.nodup_cons, List.mem_cons, not_or] at this; grind) (by have := hnd; simp only [List.map_cons, List.map_nil, List.nodup_cons, List.mem_cons, not_or] at this; grind) (by have := hnd; simp only [List.map_cons, List.map_nil, List.nodup_cons, List.mem_cons, not_or] at this; grind) (by have := hnd; simp only [List.map_cons, List.map_nil, List.nodup_cons, List.mem_cons, not_or] at this; grind)
  | [⟨n1, t1, p1⟩, ⟨n2, t2, p2⟩, ⟨n3, t3, p3⟩, ⟨n4, t4, p4⟩, ⟨n5, t5, p5⟩], [u1, u2, u3, u4, u5], _, hann, hnd, _, _ =>
    simp only [List.all_cons, List.all_nil, Bool.and_true, Bool.and_eq_true, Option.isNone_iff_eq_none] at hann
    obtain ⟨rfl, rfl, rfl, rfl, rfl⟩ := hann
    exact bind5 x q b sc kV doc pm an cdv ct n1 n2 n3 n4 n5 p1 p2 p3 p4 p5 u1 u2 u3 u4 u5 (by have := hnd; simp only [List.map_cons, List.map_nil, List.nodup_cons, List.mem_cons, not_or] at this; grind) (by have := hnd; simp only [List.map_cons, List.map_nil, List.nodup_cons, List.mem_cons, not_or] at this; grind) (by have := hnd; simp only [List.map_cons, List.map_nil, List.nodup_cons, List.mem_cons, not_or] at this; grind) (by have := hnd; simp only [List.map_cons, List.map_nil, List.nodup_cons, List.mem_cons, not_or] at this; grind) (by have := hnd; simp only [List.map_cons, List.map_nil, List.nodup_cons, List.mem_cons, not_or] at this; grind) (by have := hnd; simp only [List.map_cons, List.map_nil, List.nodup_cons, List.mem_cons, not_or] at this; grind) (by have := hnd; simp only [List.map_cons, List.map_nil, List.nodup_cons, List.mem_cons, not_or] at this; grind) (by have := hnd; simp only [List.map_cons, List.map_nil, List.nodup_cons, List.mem_cons, not_or] at this; grind) (by have := hnd; simp only [List.map_cons, List.map_nil, List.nodup_cons, List.mem_cons, not_or] at this; grind) (by have := hnd; simp only [List.map_cons, List.map_nil, List.nodup_cons, List.mem_cons, not_or] at this; grind)
  | [], _, _, _, _, _, h0 => exact absurd h0 (by simp)
  | _ :: _ :: _ :: _ :: _ :: _ :: _, _, _, _, _, h5, _ => exact absurd h5 (by simp)

/-! ### what K holds of constants -/
mutual
def valB (K : PySem.W.Frag) : D → Value → Bool
  | .non, u => (match u with
    | .none => true
    | _ => false)
  | .bl b, u => (match u with
    | .bool c => decide (b = c)
    | _ => false)
  | .int i, u => (match u with
    | .int j _ => decide (i = j)
    | _ => false)
  | .str x, u => (match u with
    | .str y _ => decide (x = y)
    | _ => false)
  | .tup ds, u => (match u with
    | .ref a => (match K.lookup a with
      | some ⟨.type c, _, .seq its _, _⟩ => decide (c = "tuple") && (decide (its.size ≤ sizeLine) && valsB K ds its.toList)
      | _ => false)
    | _ => false)
  | _, _ => false
def valsB (K : PySem.W.Frag) : List D → List Value → Bool
  | [], us => us.isEmpty
  | d :: ds, us => (match us with
    | u :: r => valB K d u && valsB K ds r
    | [] => false)
end
section
variable {K : PySem.W.Frag} {mg : Str → Option Value}
mutual
theorem valB_ok : ∀ (d : D) (u : Value), valB K d u = true → ∃ v, RelV v u ∧ ∀ H, IsD K mg H d v
  | .non, u, h => by
    simp only [valB] at h
    split at h
    · exact ⟨.non, rfl, fun _ => rfl⟩
    · cases h
  | .bl b, u, h => by
    simp only [valB] at h
    split at h
    · have e := of_decide_eq_true h
      subst e
      exact ⟨.bl b, rfl, fun _ => rfl⟩
    · cases h
  | .int i, u, h => by
    simp only [valB] at h
    split at h
    · have e := of_decide_eq_true h
      subst e
      exact ⟨.int i, ⟨_, rfl⟩, fun _ => rfl⟩
    · cases h
  | .str x, u, h => by
    simp only [valB] at h
    split at h
    · have e := of_decide_eq_true h
      subst e
      exact ⟨.str x, ⟨_, rfl⟩, fun _ => rfl⟩
    · cases h
  | .tup ds, u, h => by
    simp only [valB] at h
    split at h
    · rename_i a
      split at h
      · rename_i c dd its n sl e
        rw [Bool.and_eq_true, Bool.and_eq_true] at h
        obtain ⟨h1, h2, h3⟩ := h
        obtain ⟨vs, g1, g2⟩ := valsB_ok ds its.toList h3
        exact ⟨.ref a, rfl, fun H => by rw [IsD]; exact ⟨a, vs, rfl, .inr ⟨_, its, n, e, congrArg Value.type (of_decide_eq_true h1), rfl, of_decide_eq_true h2, g1⟩, g2 H⟩⟩
      · cases h
    · cases h
  | .ref _, _, h => by simp [valB] at h
  | .fn _, _, h => by simp [valB] at h
  | .kls _, _, h => by simp [valB] at h
theorem valsB_ok : ∀ (ds : List D) (us : List Value), valsB K ds us = true → ∃ vs, Vals vs us ∧ ∀ H, IsDs K mg H ds vs
  | [], us, h => by
    simp only [valsB, List.isEmpty_iff] at h
    subst h
    exact ⟨[], .nil, fun _ => .nil⟩
  | d :: ds, us, h => by
    simp only [valsB] at h
    split at h
    · rename_i u r
      rw [Bool.and_eq_true] at h
      obtain ⟨v, h1, h2⟩ := valB_ok d u h.1
      obtain ⟨vs, h3, h4⟩ := valsB_ok ds r h.2
      exact ⟨v :: vs, .cons h1 h3, fun H => .cons (h2 H) (h4 H)⟩
    · cases h
end
end
def cstB (K : PySem.W.Frag) (p : Str × D) : Bool := match PySem.W.nsIn K mainGlobals p.1 with
  | some (some u) => valB K p.2 u
  | _ => false
theorem cstB_ok {K : PySem.W.Frag} {h : Heap} {mg : Str → Option Value} (X : K.In h) (G : h.Ns mainGlobals mg) {p : Str × D} (c : cstB K p = true) : GloD K mg p.1 p.2 := by
  unfold cstB at c
  split at c
  · rename_i u e
    obtain ⟨v, h1, h2⟩ := valB_ok (mg := mg) p.2 u c
    exact ⟨v, u, PySem.W.mg_of X G e, h1, h2⟩
  · cases c
def entB (K : PySem.W.Frag) : List (Str × D) → List DictEntry → Bool
  | [], es => es.isEmpty
  | p :: ps, es => match es with
    | e :: r => (match e.key with
      | .str x _ => decide (x = p.1)
      | _ => false) && valB K p.2 e.val && entB K ps r
    | [] => false
def dctB (K : PySem.W.Frag) (p : Str × List (Str × D)) : Bool := match K.lookup (He.ga K p.1) with
  | some ⟨_, _, .dict es _, _⟩ => entB K p.2 es.toList
  | _ => false
theorem entB_find {K : PySem.W.Frag} {mg : Str → Option Value} (z : Str) : ∀ (kvs : List (Str × D)) (es : List DictEntry), entB K kvs es = true → (es.any fun x => x.refKey) = false ∧ ((es.find? fun x => x.key.isStr z).isSome = (lkS kvs z).isSome) ∧
    ∀ e dd, (es.find? fun x => x.key.isStr z) = some e → lkS kvs z = some dd → ∃ v, RelV v e.val ∧ ∀ H, IsD K mg H dd v
  | [], es, h => by
    simp only [entB, List.isEmpty_iff] at h
    subst h
    exact ⟨rfl, rfl, fun e dd h => by cases h⟩
  | p :: ps, es, h => by
    simp only [entB] at h
    split at h
    · rename_i e r
      rw [Bool.and_eq_true, Bool.and_eq_true] at h
      obtain ⟨⟨h1, h2⟩, h3⟩ := h
      obtain ⟨i1, i2, i3⟩ := entB_find z ps r h3
      split at h1
      · rename_i x t ek
        have e1 := of_decide_eq_true h1
        have ref0 : e.refKey = false := by unfold DictEntry.refKey; rw [ek]
        have his : e.key.isStr z = (x == z) := by rw [ek]; rfl
        by_cases hz : x = z
        · have f1 : ((e :: r).find? fun x => x.key.isStr z) = some e := by rw [List.find?_cons_of_pos (by rw [his, hz]; simp)]
          have f2 : lkS (p :: ps) z = some p.2 := by unfold lkS; rw [List.find?_cons_of_pos (by rw [← e1, hz]; simp)]; rfl
          refine ⟨by rw [List.any_cons, ref0, i1]; rfl, by rw [f1, f2]; rfl, fun e' dd g1 g2 => ?_⟩
          rw [f1] at g1
          rw [f2] at g2
          cases g1
          cases g2
          exact valB_ok p.2 e.val h2
        · have f1 : ((e :: r).find? fun x => x.key.isStr z) = r.find? fun x => x.key.isStr z := by rw [List.find?_cons_of_neg (by rw [his]; simpa using hz)]
          have f2 : lkS (p :: ps) z = lkS ps z := by unfold lkS; rw [List.find?_cons_of_neg (by rw [← e1]; simpa using hz)]
          refine ⟨by rw [List.any_cons, ref0, i1]; rfl, by rw [f1, f2]; exact i2, fun e' dd g1 g2 => ?_⟩
          rw [f1] at g1
          rw [f2] at g2
          exact i3 e' dd g1 g2
      · cases h1
    · cases h
theorem dctB_ok {K : PySem.W.Frag} {w : World} {h : Heap} {mg : Str → Option Value} {p : Str × List (Str × D)} (hm : mg p.1 = some (.ref (He.ga K p.1))) (c : dctB K p = true) (hk : ∃ es n, KDict K w (He.ga K p.1) es n) : DctG K w mg p.1 p.2 := by
  obtain ⟨es, n, kd⟩ := hk
  refine ⟨He.ga K p.1, es, n, hm, kd, fun z => ?_⟩
  unfold dctB at c
  have hat : List.lookup (He.ga K p.1) K = some ⟨.type "dict", none, .dict es n, #[]⟩ := kd.at_
  rw [hat] at c
  obtain ⟨h1, h2, h3⟩ := entB_find (mg := mg) z p.2 es.toList c
  have e1 : PySem.W.nsIn K (He.ga K p.1) z = some ((es.toList.find? fun x => x.key.isStr z).map (·.val)) := by
    unfold PySem.W.nsIn
    rw [hat]
    cases q : es.toList.find? fun x => x.key.isStr z with
    | some e => simp only [q, Option.map_some]
    | none => simp only [q, h1, Option.map_none, Bool.false_eq_true, if_false]
  refine ⟨_, e1, by rw [Option.isSome_map, h2], fun u dd g1 g2 => ?_⟩
  rw [Option.map_eq_some_iff] at g1
  obtain ⟨e, g1, rfl⟩ := g1
  exact h3 e dd g1 g2

/-! ### the head's Hook -/
abbrev AlX : Type := He.AlT × Bool
def exB (cs : Cst) (K : PySem.W.Frag) : Bool := cs.c.all (cstB K) && cs.d.all (dctB K)
def obsX (fa : List He.Fa) (fn : List He.DefD) (ts : List He.Tab) (cs : Cst) (K : PySem.W.Frag) : AlX := (He.obsT fa fn ts K, exB cs K)
def obsXG (n : Nat) (fa : List He.Fa) (fn : List He.DefD) (ts : List He.Tab) (cs : Cst) (g : Addr → Option Obj) : AlX := obsX fa fn ts cs (He.frG g (He.asD g n))
def hookX (n : Nat) (fa : List He.Fa) (fn : List He.DefD) (ts : List He.Tab) (cs : Cst) : PySem.W.Hook where
  α := AlX
  obs := fun s => obsXG n fa fn ts cs s.heap.get?
  val := fun w => (He.valT fn ts w, true)
  says := fun w h => ∃ K : PySem.W.Frag, K.In h ∧ He.SaysT fa fn ts w K ∧ exB cs K = true
  of := fun _ _ e => ⟨_, He.frG_in, congrArg (fun z : AlX => z.1) e, congrArg (fun z : AlX => z.2) e⟩
  keeps := fun _ _ _ ⟨K, hK, c⟩ k => ⟨K, PySem.W.Frag.In.keeps hK k, c⟩
theorem obsXG_eq {n : Nat} {fa : List He.Fa} {fn : List He.DefD} {ts : List He.Tab} {cs : Cst} {g : Addr → Option Obj} {s : Shared} (h : ∀ a, g a = s.heap.get? a) : obsXG n fa fn ts cs g = (hookX n fa fn ts cs).obs s := by
  have e : g = s.heap.get? := funext h
  rw [e] <;> rfl
/-! the facts that a table of defs asks -/
def FnR.df (r : FnR) : He.DefD := ⟨(r.name, none), r.name, r.name, r.params, r.body, r.scope, [], []⟩
def Tb.fa (T : Tb) : List He.Fa := T.fs.map .glo ++ (T.bs.map .free ++ T.cs.d.map fun p => .glo p.1)
def Tb.ts (T : Tb) : List He.Tab := T.cs.d.map fun p => ((fun K => He.ga K p.1), p.2.map (·.1))
theorem tabOk_of {w : World} {T : Tb} {tab : List FnR} {K : PySem.W.Frag} {h : Heap} {mg : Str → Option Value} (X : K.In h) (G : h.Ns mainGlobals mg) (hfs : T.fs = tab.map (·.name)) (hc : (tab.all fun r => scopeB r && chkSs T r.ir r.cc r.body) = true)
    (hargs : (tab.all fun r => argB r.params r.ps) = true) (c : He.SaysT T.fa (tab.map FnR.df) T.ts w K) (ex : exB T.cs K = true) : TabOk w T tab K mg := by
  have fact : ∀ f, f ∈ T.fa → f.ok K = true := fun f hf => by
    obtain ⟨i, hi⟩ := List.mem_iff_getElem?.mp hf
    exact c.d.fact i hi
  unfold exB at ex
  rw [Bool.and_eq_true] at ex
  refine ⟨hfs, fun x hx => ?_, fun i p hp => ?_, fun i p hp => ?_, fun i r hr => ?_, fun r hr => ?_⟩
  · have hm : x ∈ T.bs := by simpa using hx
    exact He.free_ok X G (fact (.free x) (by unfold Tb.fa; simp [hm]))
  · exact cstB_ok X G (List.all_eq_true.mp ex.1 p (List.mem_of_getElem? hp))
  · have hg := He.glo_ok X G (fact (.glo p.1) (by unfold Tb.fa; simp only [List.mem_append, List.mem_map]; exact .inr (.inr ⟨p, List.mem_of_getElem? hp, rfl⟩)))
    have ht : T.ts[i]? = some ((fun K => He.ga K p.1), p.2.map (·.1)) := by unfold Tb.ts; rw [List.getElem?_map, hp]; rfl
    exact dctB_ok (h := h) hg (List.all_eq_true.mp ex.2 p (List.mem_of_getElem? hp)) (c.tab i ht)
  · have hd : (tab.map FnR.df)[i]? = some r.df := by rw [List.getElem?_map, hr]; rfl
    obtain ⟨fd, F⟩ := c.d.def_ i hd
    have hg := He.glo_ok X G (fact (.glo r.name) (by unfold Tb.fa; simp only [List.mem_append, List.mem_map]; exact .inl ⟨r.name, by rw [hfs]; exact List.mem_map.mpr ⟨r, List.mem_of_getElem? hr, rfl⟩, rfl⟩))
    have F' : FunD K r.name r.name r.params r.body r.scope [] [] (He.ga K r.name) fd := F
    exact ⟨He.ga K r.name, fd, hg, F', F'.bindsN fun kV doc pm an cdv ct us hl => argB_ok (List.all_eq_true.mp hargs r (List.mem_of_getElem? hr)) _ _ _ _ _ _ _ _ _ _ _ hl⟩
  · have := List.all_eq_true.mp hc r hr
    rwa [Bool.and_eq_true] at this
/-- the law's def, from the facts -/
theorem facts_of {w : World} {T : Tb} {tab : List FnR} {K : PySem.W.Frag} {h : Heap} {mg : Str → Option Value} {n i : Nat} {r : FnR} {fa : Addr} {x : Str} (X : K.In h) (G : h.Ns mainGlobals mg) (hfs : T.fs = tab.map (·.name)) (hc : (tab.all fun r => scopeB r && chkSs T r.ir r.cc r.body) = true)
    (hargs : (tab.all fun r => argB r.params r.ps) = true) (c : He.SaysT T.fa (tab.map FnR.df) T.ts w K) (ex : exB T.cs K = true) (hr : tab[i]? = some r) (hps : r.ps = [x]) (hfa : mg r.name = some (.ref fa)) :
    ∃ (K : PySem.W.Frag) (fd : FuncData), K.In h ∧ (∀ (s : Shared) (u : Value), BindsTo s fd ⟨[u], []⟩ [(x, u)]) ∧ ∀ base : Heap, K.In base → base.Ns mainGlobals mg → FnG P w K mg base n fa fd [x] (runF T.cs tab n i) := by
  have t := tabOk_of (w := w) X G hfs hc hargs c ex
  obtain ⟨f, fd, h1, h2, h3⟩ := t.fn i r hr
  rw [hfa] at h1
  cases h1
  have ha := List.all_eq_true.mp hargs r (List.mem_of_getElem? hr)
  rw [hps] at ha
  refine ⟨K, fd, X, fun s u => ?_, fun base _ _ => ?_⟩
  · have := FunD.bindsA (ps := [x]) h2 (fun kV doc pm an cdv ct us hl => argB_ok ha _ _ _ _ _ _ _ _ _ _ _ hl) s [u] rfl
    exact this
  · have := tab_ok (P := P) (base := base) t n i r hr fa fd h2
    rw [hps] at this
    exact this
end Dn

set_option Elab.async false
set_option linter.all false
set_option maxRecDepth 100000
set_option maxHeartbeats 0
namespace K10
open PySem Dn
open L2 (defArgs defBody defScope)
abbrev top (i : Nat) : Stmt := PySem.Challenge.pw_undomacros_k10_whole_unknown_rows_by_num.main.body.getD i (.Pass ⟨0, 0, 0, 0⟩)
def i_is_number : Stms := (.cons (.ret (.bop true (.cons (.isi "int" (.var 0)) (.cons (.not_ (.isi "bool" (.var 0))) .nil))))
    .nil)
def f_is_number : FnR := ⟨"is_number", defArgs (top 11), defBody (top 11), defScope (top 11), ["thing"], ["thing"], i_is_number⟩
def i_is_name : Stms := (.cons (.ite (.bop false (.cons (.not_ (.isi "str" (.var 0))) (.cons (.not_ (.chain .LtE .LtE (.cst (.int 1)) (.bi .len (.cons (.var 0) .nil)) (.glo 3))) .nil))) (.cons (.ret (.cst (.bl false)))
    .nil) .nil)
    (.cons (.ite (.bop false (.cons (.cmp .NotIn (.ix (.var 0) (.cst (.int 0))) (.glo 0)) (.cons (.cmp .In (.var 0) (.glo 2)) .nil))) (.cons (.ret (.cst (.bl false)))
    .nil) .nil)
    (.cons (.ret (.bi .all (.cons (.lc (.seq (.var 0)) (.nm 1) .non (.cmp .In (.var 1) (.bin .Add (.glo 0) (.glo 1))) [("sign", 1)]) .nil)))
    .nil)))
def f_is_name : FnR := ⟨"is_name", defArgs (top 12), defBody (top 12), defScope (top 12), ["thing"], ["thing", "sign"], i_is_name⟩
def i_is_sized : Stms := (.cons (.ret (.bop true (.cons (.isi "tuple" (.var 0)) (.cons (.cmp .Eq (.bi .len (.cons (.var 0) .nil)) (.var 1)) .nil))))
    .nil)
def f_is_sized : FnR := ⟨"is_sized", defArgs (top 13), defBody (top 13), defScope (top 13), ["thing", "many"], ["thing", "many"], i_is_sized⟩
def i_is_step : Stms := (.cons (.ret (.bop true (.cons (.call 2 (.cons (.var 0) (.cons (.cst (.int 2)) .nil))) (.cons (.call 1 (.cons (.ix (.var 0) (.cst (.int 0))) .nil)) (.cons (.call 0 (.cons (.ix (.var 0) (.cst (.int 1))) .nil)) (.cons (.cmp .In (.ix (.var 0) (.cst (.int 1))) (.tup (.cons (.cst (.int 1)) (.cons (.neg (.cst (.int 1))) .nil)))) .nil))))))
    .nil)
def f_is_step : FnR := ⟨"is_step", defArgs (top 14), defBody (top 14), defScope (top 14), ["thing"], ["thing"], i_is_step⟩
def i_contrary : Stms := (.cons (.ret (.tup (.cons (.ix (.var 0) (.cst (.int 0))) (.cons (.bin .Sub (.cst (.int 0)) (.ix (.var 0) (.cst (.int 1)))) .nil))))
    .nil)
def f_contrary : FnR := ⟨"contrary", defArgs (top 18), defBody (top 18), defScope (top 18), ["step"], ["step"], i_contrary⟩
def i_undoing : Stms := (.cons (.ret (.bi .tuple (.cons (.lc (.seq (.rev (.var 0))) (.nm 1) .non (.call 4 (.cons (.var 1) .nil)) [("step", 1)]) .nil)))
    .nil)
def f_undoing : FnR := ⟨"undoing", defArgs (top 19), defBody (top 19), defScope (top 19), ["row"], ["row", "step"], i_undoing⟩
def i_shortened : Stms := (.cons (.asg (.nm 1) (.lst .nil))
    (.cons (.for_ (.seq (.var 0)) (.nm 2) (.cons (.ite (.bop true (.cons (.cmp .NotEq (.var 1) (.lst .nil)) (.cons (.cmp .Eq (.ix (.var 1) (.neg (.cst (.int 1)))) (.call 4 (.cons (.var 2) .nil))) .nil))) (.cons (.expr (.mt .pop (.var 1) .nil))
    .nil) (.cons (.expr (.mt .append (.var 1) (.cons (.var 2) .nil)))
    .nil))
    .nil))
    (.cons (.ret (.bi .tuple (.cons (.var 1) .nil)))
    .nil)))
def f_shortened : FnR := ⟨"shortened", defArgs (top 20), defBody (top 20), defScope (top 20), ["row"], ["row", "found", "step"], i_shortened⟩
def i_is_short : Stms := (.cons (.ret (.bi .all (.cons (.lc (.zp (.var 0) (.sl (.var 0) (.som (.cst (.int 1))) .non)) (.tp (.cons (.nm 1) (.cons (.nm 2) .nil))) .non (.cmp .NotEq (.var 1) (.call 4 (.cons (.var 2) .nil))) [("one", 1), ("other", 2)]) .nil)))
    .nil)
def f_is_short : FnR := ⟨"is_short", defArgs (top 21), defBody (top 21), defScope (top 21), ["row"], ["row", "one", "other"], i_is_short⟩
def i_joined : Stms := (.cons (.ret (.call 6 (.cons (.bin .Add (.var 0) (.var 1)) .nil)))
    .nil)
def f_joined : FnR := ⟨"joined", defArgs (top 22), defBody (top 22), defScope (top 22), ["one", "other"], ["one", "other"], i_joined⟩
def i_product_of_rows : Stms := (.cons (.ret (.call 6 (.cons (.lc2 (.seq (.var 0)) (.nm 1) .non (.seq (.var 1)) (.nm 2) .non (.var 2) [("row", 1), ("step", 2)] [2]) .nil)))
    .nil)
def f_product_of_rows : FnR := ⟨"product_of_rows", defArgs (top 23), defBody (top 23), defScope (top 23), ["rows"], ["rows", "row", "step"], i_product_of_rows⟩
def i_power : Stms := (.cons (.ite (.bop false (.cons (.not_ (.call 0 (.cons (.var 1) .nil))) (.cons (.not_ (.chain .LtE .LtE (.neg (.glo 5)) (.var 1) (.glo 5))) .nil))) (.cons .never
    .nil) .nil)
    (.cons (.asg (.nm 2) (.call 6 (.cons (.ite (.cmp .GtE (.var 1) (.cst (.int 0))) (.var 0) (.call 5 (.cons (.var 0) .nil))) .nil)))
    (.cons (.asg (.nm 3) (.cst (.int 0)))
    (.cons (.whl (.bop true (.cons (.cmp .Lt (.bin .Add (.bin .Mult (.cst (.int 2)) (.var 3)) (.cst (.int 1))) (.bi .len (.cons (.var 2) .nil))) (.cons (.cmp .Eq (.ix (.var 2) (.var 3)) (.call 4 (.cons (.ix (.var 2) (.bin .Sub (.bin .Sub (.bi .len (.cons (.var 2) .nil)) (.cst (.int 1))) (.var 3))) .nil))) .nil))) (.cons (.aug 3 .Add (.cst (.int 1)))
    .nil))
    (.cons (.asg (.nm 4) (.sl (.var 2) (.som (.var 3)) (.som (.bin .Sub (.bi .len (.cons (.var 2) .nil)) (.var 3)))))
    (.cons (.ite (.bop true (.cons (.cmp .NotEq (.var 1) (.cst (.int 0))) (.cons (.cmp .Gt (.bin .Add (.bin .Mult (.cst (.int 2)) (.var 3)) (.bin .Mult (.bi .abs (.cons (.var 1) .nil)) (.bi .len (.cons (.var 4) .nil)))) (.glo 4)) .nil))) (.cons .never
    .nil) .nil)
    (.cons (.ret (.ite (.cmp .NotEq (.var 1) (.cst (.int 0))) (.bin .Add (.bin .Add (.sl (.var 2) .non (.som (.var 3))) (.bin .Mult (.var 4) (.bi .abs (.cons (.var 1) .nil)))) (.sl (.var 2) (.som (.bin .Sub (.bi .len (.cons (.var 2) .nil)) (.var 3))) .non)) (.tup .nil)))
    .nil)))))))
def f_power : FnR := ⟨"power", defArgs (top 24), defBody (top 24), defScope (top 24), ["row", "n"], ["row", "n", "its", "stalk", "ring"], i_power⟩
def i_parted : Stms := (.cons (.par [1, 2] (.cons (.call 6 (.cons (.var 0) .nil)) (.cons (.cst (.int 0)) .nil)))
    (.cons (.whl (.bop true (.cons (.cmp .Lt (.bin .Add (.bin .Mult (.cst (.int 2)) (.var 2)) (.cst (.int 1))) (.bi .len (.cons (.var 1) .nil))) (.cons (.cmp .Eq (.ix (.var 1) (.var 2)) (.call 4 (.cons (.ix (.var 1) (.bin .Sub (.bin .Sub (.bi .len (.cons (.var 1) .nil)) (.cst (.int 1))) (.var 2))) .nil))) .nil))) (.cons (.aug 2 .Add (.cst (.int 1)))
    .nil))
    (.cons (.ret (.tup (.cons (.sl (.var 1) .non (.som (.var 2))) (.cons (.sl (.var 1) (.som (.var 2)) (.som (.bin .Sub (.bi .len (.cons (.var 1) .nil)) (.var 2)))) .nil))))
    .nil)))
def f_parted : FnR := ⟨"parted", defArgs (top 26), defBody (top 26), defScope (top 26), ["row"], ["row", "its", "stalk"], i_parted⟩
def i_least_turn : Stms := (.cons (.asg (.nm 1) (.lc (.rng1 (.bi .len (.cons (.var 0) .nil))) (.nm 2) .non (.bin .Add (.sl (.var 0) (.som (.var 2)) .non) (.sl (.var 0) .non (.som (.var 2)))) [("at", 2)]))
    (.cons (.ret (.ite (.cmp .NotEq (.var 1) (.lst .nil)) (.bi .min (.cons (.var 1) .nil)) (.tup .nil)))
    .nil))
def f_least_turn : FnR := ⟨"least_turn", defArgs (top 27), defBody (top 27), defScope (top 27), ["ring"], ["ring", "turns", "at"], i_least_turn⟩
def i_ring_order : Stms := (.cons (.ret (.call 12 (.cons (.ix (.call 11 (.cons (.var 0) .nil)) (.cst (.int 1))) .nil)))
    .nil)
def f_ring_order : FnR := ⟨"ring_order", defArgs (top 28), defBody (top 28), defScope (top 28), ["row"], ["row"], i_ring_order⟩
def i_are_moved : Stms := (.cons (.ret (.cmp .Eq (.call 13 (.cons (.var 0) .nil)) (.call 13 (.cons (.var 1) .nil))))
    .nil)
def f_are_moved : FnR := ⟨"are_moved", defArgs (top 29), defBody (top 29), defScope (top 29), ["one", "other"], ["one", "other"], i_are_moved⟩
def i_place_of : Stms := (.cons (.asg (.nm 2) (.cst (.int 0)))
    (.cons (.whl (.cmp .NotEq (.bin .Add (.sl (.var 0) (.som (.var 2)) .non) (.sl (.var 0) .non (.som (.var 2)))) (.var 1)) (.cons (.aug 2 .Add (.cst (.int 1)))
    .nil))
    (.cons (.ret (.var 2))
    .nil)))
def f_place_of : FnR := ⟨"place_of", defArgs (top 30), defBody (top 30), defScope (top 30), ["ring", "other"], ["ring", "other", "at"], i_place_of⟩
def i_mover : Stms := (.cons (.ite (.not_ (.call 14 (.cons (.var 0) (.cons (.var 1) .nil)))) (.cons (.ret (.cst .non))
    .nil) .nil)
    (.cons (.asg (.tp (.cons (.tp (.cons (.nm 3) (.cons (.nm 4) .nil))) (.cons (.tp (.cons (.nm 5) (.cons (.nm 6) .nil))) .nil))) (.tup (.cons (.call 11 (.cons (.var 0) .nil)) (.cons (.call 11 (.cons (.var 1) .nil)) .nil))))
    (.cons (.asg (.nm 2) (.sl (.var 4) .non (.som (.call 15 (.cons (.var 4) (.cons (.var 6) .nil))))))
    (.cons (.ret (.call 8 (.cons (.call 8 (.cons (.var 5) (.cons (.call 5 (.cons (.var 2) .nil)) .nil))) (.cons (.call 5 (.cons (.var 3) .nil)) .nil))))
    .nil))))
def f_mover : FnR := ⟨"mover", defArgs (top 31), defBody (top 31), defScope (top 31), ["one", "other"], ["one", "other", "turned", "stalk", "ring", "its_stalk", "its_ring"], i_mover⟩
def i_least_part : Stms := (.cons (.asg (.nm 1) (.bi .len (.cons (.var 0) .nil)))
    (.cons (.for_ (.rng2 (.cst (.int 1)) (.bin .Add (.var 1) (.cst (.int 1)))) (.nm 2) (.cons (.ite (.bop true (.cons (.cmp .Eq (.bin .Mod (.var 1) (.var 2)) (.cst (.int 0))) (.cons (.cmp .Eq (.var 0) (.bin .Mult (.sl (.var 0) .non (.som (.var 2))) (.bin .FloorDiv (.var 1) (.var 2)))) .nil))) (.cons (.ret (.tup (.cons (.sl (.var 0) .non (.som (.var 2))) (.cons (.bin .FloorDiv (.var 1) (.var 2)) .nil))))
    .nil) .nil)
    .nil))
    (.cons (.ret (.tup (.cons (.tup .nil) (.cons (.cst (.int 0)) .nil))))
    .nil)))
def f_least_part : FnR := ⟨"least_part", defArgs (top 32), defBody (top 32), defScope (top 32), ["ring"], ["ring", "many", "size"], i_least_part⟩
def i_root : Stms := (.cons (.asg (.tp (.cons (.nm 1) (.cons (.nm 2) .nil))) (.call 11 (.cons (.var 0) .nil)))
    (.cons (.asg (.tp (.cons (.nm 3) (.cons (.nm 4) .nil))) (.call 17 (.cons (.var 2) .nil)))
    (.cons (.ret (.ite (.cmp .Gt (.var 4) (.cst (.int 0))) (.tup (.cons (.bin .Add (.bin .Add (.var 1) (.var 3)) (.call 5 (.cons (.var 1) .nil))) (.cons (.var 4) .nil))) (.tup (.cons (.tup .nil) (.cons (.cst (.int 0)) .nil)))))
    .nil)))
def f_root : FnR := ⟨"root", defArgs (top 33), defBody (top 33), defScope (top 33), ["row"], ["row", "stalk", "ring", "part", "n"], i_root⟩
def i_is_short_row : Stms := (.cons (.ite (.bop false (.cons (.not_ (.isi "tuple" (.var 0))) (.cons (.cmp .Gt (.bi .len (.cons (.var 0) .nil)) (.glo 6)) (.cons (.not_ (.bi .all (.cons (.lc (.seq (.var 0)) (.nm 1) .non (.call 3 (.cons (.var 1) .nil)) [("step", 1)]) .nil))) .nil)))) (.cons (.ret (.cst (.bl false)))
    .nil) .nil)
    (.cons (.ret (.call 7 (.cons (.var 0) .nil)))
    .nil))
def f_is_short_row : FnR := ⟨"is_short_row", defArgs (top 38), defBody (top 38), defScope (top 38), ["thing"], ["thing", "step"], i_is_short_row⟩
def i_is_turn : Stms := (.cons (.ret (.bop true (.cons (.call 19 (.cons (.var 0) .nil)) (.cons (.cmp .Eq (.ix (.call 18 (.cons (.var 0) .nil)) (.cst (.int 1))) (.cst (.int 1))) .nil))))
    .nil)
def f_is_turn : FnR := ⟨"is_turn", defArgs (top 39), defBody (top 39), defScope (top 39), ["thing"], ["thing"], i_is_turn⟩
def i_is_lot : Stms := (.cons (.ite (.bop false (.cons (.not_ (.isi "tuple" (.var 0))) (.cons (.cmp .Eq (.var 0) (.tup .nil)) (.cons (.not_ (.isi "str" (.ix (.var 0) (.cst (.int 0))))) .nil)))) (.cons (.ret (.cst (.bl false)))
    .nil) .nil)
    (.cons (.ite (.cmp .In (.ix (.var 0) (.cst (.int 0))) (.tup (.cons (.cst (.str "none")) (.cons (.cst (.str "all")) .nil)))) (.cons (.ret (.cmp .Eq (.bi .len (.cons (.var 0) .nil)) (.cst (.int 1))))
    .nil) .nil)
    (.cons (.ite (.cmp .Eq (.ix (.var 0) (.cst (.int 0))) (.cst (.str "one"))) (.cons (.ret (.bop true (.cons (.cmp .Eq (.bi .len (.cons (.var 0) .nil)) (.cst (.int 2))) (.cons (.call 19 (.cons (.ix (.var 0) (.cst (.int 1))) .nil)) .nil))))
    .nil) .nil)
    (.cons (.ret (.bop true (.cons (.cmp .Eq (.ix (.var 0) (.cst (.int 0))) (.cst (.str "line"))) (.cons (.cmp .Eq (.bi .len (.cons (.var 0) .nil)) (.cst (.int 3))) (.cons (.call 19 (.cons (.ix (.var 0) (.cst (.int 1))) .nil)) (.cons (.call 20 (.cons (.ix (.var 0) (.cst (.int 2))) .nil)) .nil))))))
    .nil))))
def f_is_lot : FnR := ⟨"is_lot", defArgs (top 40), defBody (top 40), defScope (top 40), ["thing"], ["thing"], i_is_lot⟩
def i_is_some_times : Stms := (.cons (.asg (.tp (.cons (.nm 2) (.cons (.nm 3) .nil))) (.call 18 (.cons (.var 1) .nil)))
    (.cons (.ret (.bop false (.cons (.cmp .Eq (.var 3) (.cst (.int 0))) (.cons (.cmp .In (.var 2) (.tup (.cons (.var 0) (.cons (.call 5 (.cons (.var 0) .nil)) .nil)))) .nil))))
    .nil))
def f_is_some_times : FnR := ⟨"is_some_times", defArgs (top 41), defBody (top 41), defScope (top 41), ["turn", "row"], ["turn", "row", "its", "n"], i_is_some_times⟩
def i_has_row : Stms := (.cons (.ite (.cmp .In (.ix (.var 0) (.cst (.int 0))) (.tup (.cons (.cst (.str "none")) (.cons (.cst (.str "all")) .nil)))) (.cons (.ret (.cmp .Eq (.ix (.var 0) (.cst (.int 0))) (.cst (.str "all"))))
    .nil) .nil)
    (.cons (.ite (.cmp .Eq (.ix (.var 0) (.cst (.int 0))) (.cst (.str "one"))) (.cons (.ret (.cmp .Eq (.call 6 (.cons (.var 1) .nil)) (.ix (.var 0) (.cst (.int 1)))))
    .nil) .nil)
    (.cons (.ret (.call 22 (.cons (.ix (.var 0) (.cst (.int 2))) (.cons (.call 8 (.cons (.call 5 (.cons (.ix (.var 0) (.cst (.int 1))) .nil)) (.cons (.var 1) .nil))) .nil))))
    .nil)))
def f_has_row : FnR := ⟨"has_row", defArgs (top 42), defBody (top 42), defScope (top 42), ["lot", "row"], ["lot", "row"], i_has_row⟩
def i_row_at : Stms := (.cons (.ite (.bop false (.cons (.cmp .In (.ix (.var 0) (.cst (.int 0))) (.tup (.cons (.cst (.str "none")) (.cons (.cst (.str "all")) .nil)))) (.cons (.not_ (.call 0 (.cons (.var 1) .nil))) (.cons (.not_ (.chain .LtE .LtE (.neg (.glo 7)) (.var 1) (.glo 7))) .nil)))) (.cons .never
    .nil) .nil)
    (.cons (.ret (.ite (.cmp .Eq (.ix (.var 0) (.cst (.int 0))) (.cst (.str "one"))) (.ix (.var 0) (.cst (.int 1))) (.call 8 (.cons (.ix (.var 0) (.cst (.int 1))) (.cons (.call 10 (.cons (.ix (.var 0) (.cst (.int 2))) (.cons (.var 1) .nil))) .nil)))))
    .nil))
def f_row_at : FnR := ⟨"row_at", defArgs (top 43), defBody (top 43), defScope (top 43), ["lot", "n"], ["lot", "n"], i_row_at⟩
def i_are_same : Stms := (.cons (.ite (.bop false (.cons (.cmp .NotEq (.ix (.var 0) (.cst (.int 0))) (.ix (.var 1) (.cst (.int 0)))) (.cons (.cmp .NotEq (.ix (.var 0) (.cst (.int 0))) (.cst (.str "line"))) .nil))) (.cons (.ret (.cmp .Eq (.var 0) (.var 1)))
    .nil) .nil)
    (.cons (.ret (.bop true (.cons (.cmp .In (.ix (.var 0) (.cst (.int 2))) (.tup (.cons (.ix (.var 1) (.cst (.int 2))) (.cons (.call 5 (.cons (.ix (.var 1) (.cst (.int 2))) .nil)) .nil)))) (.cons (.call 23 (.cons (.var 1) (.cons (.ix (.var 0) (.cst (.int 1))) .nil))) .nil))))
    .nil))
def f_are_same : FnR := ⟨"are_same", defArgs (top 44), defBody (top 44), defScope (top 44), ["one", "other"], ["one", "other"], i_are_same⟩
def i_met_line : Stms := (.cons (.asg (.nm 2) (.call 8 (.cons (.call 5 (.cons (.ix (.var 1) (.cst (.int 1))) .nil)) (.cons (.ix (.var 0) (.cst (.int 1))) .nil))))
    (.cons (.asg (.nm 3) (.bin .Add (.bin .FloorDiv (.bin .Mult (.cst (.int 2)) (.bin .Add (.bin .Add (.bi .len (.cons (.var 2) .nil)) (.bi .len (.cons (.ix (.var 0) (.cst (.int 2))) .nil))) (.bi .len (.cons (.ix (.var 1) (.cst (.int 2))) .nil)))) (.bi .len (.cons (.ix (.call 11 (.cons (.ix (.var 0) (.cst (.int 2))) .nil)) (.cst (.int 1))) .nil))) (.cst (.int 2))))
    (.cons (.par [5, 6] (.cons (.var 2) (.cons (.var 2) .nil)))
    (.cons (.for_ (.rng1 (.bin .Add (.var 3) (.cst (.int 1)))) (.nm 4) (.cons (.for_ (.seq (.tup (.cons (.var 5) (.cons (.var 6) .nil)))) (.nm 7) (.cons (.ite (.call 22 (.cons (.ix (.var 1) (.cst (.int 2))) (.cons (.var 7) .nil))) (.cons (.ret (.tup (.cons (.cst (.str "one")) (.cons (.call 8 (.cons (.ix (.var 1) (.cst (.int 1))) (.cons (.var 7) .nil))) .nil))))
    .nil) .nil)
    .nil))
    (.cons (.par [5, 6] (.cons (.call 8 (.cons (.var 5) (.cons (.ix (.var 0) (.cst (.int 2))) .nil))) (.cons (.call 8 (.cons (.var 6) (.cons (.call 5 (.cons (.ix (.var 0) (.cst (.int 2))) .nil)) .nil))) .nil)))
    .nil)))
    (.cons (.ret (.tup (.cons (.cst (.str "none")) .nil)))
    .nil)))))
def f_met_line : FnR := ⟨"met_line", defArgs (top 45), defBody (top 45), defScope (top 45), ["one", "other"], ["one", "other", "apart", "most", "_time", "ahead", "back", "found"], i_met_line⟩
def i_both_lots : Stms := (.cons (.ite (.bop false (.cons (.cmp .Eq (.ix (.var 0) (.cst (.int 0))) (.cst (.str "all"))) (.cons (.cmp .Eq (.ix (.var 1) (.cst (.int 0))) (.cst (.str "none"))) .nil))) (.cons (.ret (.var 1))
    .nil) .nil)
    (.cons (.ite (.bop false (.cons (.cmp .Eq (.ix (.var 1) (.cst (.int 0))) (.cst (.str "all"))) (.cons (.cmp .Eq (.ix (.var 0) (.cst (.int 0))) (.cst (.str "none"))) .nil))) (.cons (.ret (.var 0))
    .nil) .nil)
    (.cons (.ite (.cmp .Eq (.ix (.var 0) (.cst (.int 0))) (.cst (.str "one"))) (.cons (.ret (.ite (.call 23 (.cons (.var 1) (.cons (.ix (.var 0) (.cst (.int 1))) .nil))) (.var 0) (.tup (.cons (.cst (.str "none")) .nil))))
    .nil) .nil)
    (.cons (.ite (.cmp .Eq (.ix (.var 1) (.cst (.int 0))) (.cst (.str "one"))) (.cons (.ret (.ite (.call 23 (.cons (.var 0) (.cons (.ix (.var 1) (.cst (.int 1))) .nil))) (.var 1) (.tup (.cons (.cst (.str "none")) .nil))))
    .nil) .nil)
    (.cons (.ite (.cmp .Gt (.bi .sum (.cons (.lc (.seq (.bin .Add (.sl (.var 0) (.som (.cst (.int 1))) .non) (.sl (.var 1) (.som (.cst (.int 1))) .non))) (.nm 2) .non (.bi .len (.cons (.var 2) .nil)) [("row", 2)]) .nil)) (.glo 8)) (.cons .never
    .nil) .nil)
    (.cons (.ite (.cmp .In (.ix (.var 0) (.cst (.int 2))) (.tup (.cons (.ix (.var 1) (.cst (.int 2))) (.cons (.call 5 (.cons (.ix (.var 1) (.cst (.int 2))) .nil)) .nil)))) (.cons (.ret (.ite (.call 23 (.cons (.var 1) (.cons (.ix (.var 0) (.cst (.int 1))) .nil))) (.var 0) (.tup (.cons (.cst (.str "none")) .nil))))
    .nil) .nil)
    (.cons (.ret (.call 26 (.cons (.var 0) (.cons (.var 1) .nil))))
    .nil)))))))
def f_both_lots : FnR := ⟨"both_lots", defArgs (top 46), defBody (top 46), defScope (top 46), ["one", "other"], ["one", "other", "row"], i_both_lots⟩
def i_is_row : Stms := (.cons (.ret (.bop true (.cons (.isi "tuple" (.var 0)) (.cons (.bi .all (.cons (.lc (.seq (.var 0)) (.nm 1) .non (.call 3 (.cons (.var 1) .nil)) [("step", 1)]) .nil)) .nil))))
    .nil)
def f_is_row : FnR := ⟨"is_row", defArgs (top 52), defBody (top 52), defScope (top 52), ["thing"], ["thing", "step"], i_is_row⟩
def i_is_single_form : Stms := (.cons (.ite (.bop false (.cons (.not_ (.isi "tuple" (.var 0))) (.cons (.cmp .Eq (.var 0) (.tup .nil)) (.cons (.not_ (.isi "str" (.ix (.var 0) (.cst (.int 0))))) .nil)))) (.cons (.ret (.cst (.bl false)))
    .nil) .nil)
    (.cons (.ite (.cmp .Eq (.ix (.var 0) (.cst (.int 0))) (.cst (.str "power"))) (.cons (.ret (.bop true (.cons (.cmp .Eq (.bi .len (.cons (.var 0) .nil)) (.cst (.int 3))) (.cons (.call 0 (.cons (.ix (.var 0) (.cst (.int 1))) .nil)) (.cons (.chain .LtE .LtE (.cst (.int 1)) (.ix (.var 0) (.cst (.int 1))) (.glo 9)) (.cons (.call 28 (.cons (.ix (.var 0) (.cst (.int 2))) .nil)) .nil))))))
    .nil) .nil)
    (.cons (.ret (.bop true (.cons (.kin false 0 (.ix (.var 0) (.cst (.int 0)))) (.cons (.cmp .Eq (.bi .len (.cons (.var 0) .nil)) (.bin .Add (.kix 0 (.ix (.var 0) (.cst (.int 0)))) (.cst (.int 1)))) (.cons (.bi .all (.cons (.lc (.seq (.sl (.var 0) (.som (.cst (.int 1))) .non)) (.nm 1) .non (.call 28 (.cons (.var 1) .nil)) [("row", 1)]) .nil)) .nil)))))
    .nil)))
def f_is_single_form : FnR := ⟨"is_single_form", defArgs (top 53), defBody (top 53), defScope (top 53), ["thing"], ["thing", "row"], i_is_single_form⟩
def i_parts_of : Stms := (.cons (.ret (.ite (.cmp .Eq (.ix (.var 0) (.cst (.int 0))) (.cst (.str "both"))) (.sl (.var 0) (.som (.cst (.int 1))) .non) (.tup (.cons (.var 0) .nil))))
    .nil)
def f_parts_of : FnR := ⟨"parts_of", defArgs (top 54), defBody (top 54), defScope (top 54), ["equation"], ["equation"], i_parts_of⟩
def i_is_equation_form : Stms := (.cons (.ite (.call 29 (.cons (.var 0) .nil)) (.cons (.ret (.cst (.bl true)))
    .nil) .nil)
    (.cons (.ite (.bop false (.cons (.not_ (.isi "tuple" (.var 0))) (.cons (.not_ (.chain .LtE .LtE (.cst (.int 3)) (.bi .len (.cons (.var 0) .nil)) (.bin .Add (.glo 10) (.cst (.int 1))))) .nil))) (.cons (.ret (.cst (.bl false)))
    .nil) .nil)
    (.cons (.ret (.bop true (.cons (.isi "str" (.ix (.var 0) (.cst (.int 0)))) (.cons (.cmp .Eq (.ix (.var 0) (.cst (.int 0))) (.cst (.str "both"))) (.cons (.bi .all (.cons (.lc (.seq (.sl (.var 0) (.som (.cst (.int 1))) .non)) (.nm 1) .non (.call 29 (.cons (.var 1) .nil)) [("one", 1)]) .nil)) .nil)))))
    .nil)))
def f_is_equation_form : FnR := ⟨"is_equation_form", defArgs (top 55), defBody (top 55), defScope (top 55), ["thing"], ["thing", "one"], i_is_equation_form⟩
def i_rows_in : Stms := (.cons (.ret (.ite (.cmp .Eq (.ix (.var 0) (.cst (.int 0))) (.cst (.str "power"))) (.sl (.var 0) (.som (.cst (.int 2))) .non) (.sl (.var 0) (.som (.cst (.int 1))) .non)))
    .nil)
def f_rows_in : FnR := ⟨"rows_in", defArgs (top 56), defBody (top 56), defScope (top 56), ["equation"], ["equation"], i_rows_in⟩
def i_checked_equation : Stms := (.cons (.ite (.not_ (.call 31 (.cons (.var 0) .nil))) (.cons .never
    .nil) .nil)
    (.cons (.ite (.bi .any (.cons (.lc2 (.seq (.call 30 (.cons (.var 0) .nil))) (.nm 1) .non (.seq (.call 32 (.cons (.var 1) .nil))) (.nm 2) .non (.cmp .Gt (.bi .len (.cons (.var 2) .nil)) (.glo 11)) [("one", 1), ("row", 2)] [2]) .nil)) (.cons .never
    .nil) .nil)
    (.cons (.ret (.var 0))
    .nil)))
def f_checked_equation : FnR := ⟨"checked_equation", defArgs (top 57), defBody (top 57), defScope (top 57), ["thing"], ["thing", "one", "row"], i_checked_equation⟩
def i_sides_of : Stms := (.cons (.asg (.nm 2) (.ix (.var 0) (.cst (.int 0))))
    (.cons (.ite (.cmp .Eq (.var 2) (.cst (.str "power"))) (.cons (.ret (.tup (.cons (.call 10 (.cons (.var 1) (.cons (.ix (.var 0) (.cst (.int 1))) .nil))) (.cons (.ix (.var 0) (.cst (.int 2))) .nil))))
    .nil) .nil)
    (.cons (.ite (.cmp .Eq (.var 2) (.cst (.str "ahead"))) (.cons (.ret (.tup (.cons (.bin .Add (.var 1) (.ix (.var 0) (.cst (.int 1)))) (.cons (.ix (.var 0) (.cst (.int 2))) .nil))))
    .nil) .nil)
    (.cons (.ite (.cmp .Eq (.var 2) (.cst (.str "behind"))) (.cons (.ret (.tup (.cons (.bin .Add (.ix (.var 0) (.cst (.int 1))) (.var 1)) (.cons (.ix (.var 0) (.cst (.int 2))) .nil))))
    .nil) .nil)
    (.cons (.ite (.cmp .Eq (.var 2) (.cst (.str "between"))) (.cons (.ret (.tup (.cons (.bin .Add (.bin .Add (.ix (.var 0) (.cst (.int 1))) (.var 1)) (.ix (.var 0) (.cst (.int 2)))) (.cons (.ix (.var 0) (.cst (.int 3))) .nil))))
    .nil) .nil)
    (.cons (.ite (.cmp .Eq (.var 2) (.cst (.str "moves"))) (.cons (.ret (.tup (.cons (.bin .Add (.bin .Add (.var 1) (.ix (.var 0) (.cst (.int 1)))) (.call 5 (.cons (.var 1) .nil))) (.cons (.ix (.var 0) (.cst (.int 2))) .nil))))
    .nil) .nil)
    (.cons (.ret (.tup (.cons (.bin .Add (.var 1) (.ix (.var 0) (.cst (.int 1)))) (.cons (.bin .Add (.ix (.var 0) (.cst (.int 1))) (.var 1)) .nil))))
    .nil)))))))
def f_sides_of : FnR := ⟨"sides_of", defArgs (top 58), defBody (top 58), defScope (top 58), ["equation", "row"], ["equation", "row", "word"], i_sides_of⟩
def i_is_solution : Stms := (.cons (.for_ (.seq (.call 30 (.cons (.var 0) .nil))) (.nm 2) (.cons (.asg (.tp (.cons (.nm 3) (.cons (.nm 4) .nil))) (.call 34 (.cons (.var 2) (.cons (.var 1) .nil))))
    (.cons (.ite (.cmp .NotEq (.call 6 (.cons (.var 3) .nil)) (.call 6 (.cons (.var 4) .nil))) (.cons (.ret (.cst (.bl false)))
    .nil) .nil)
    .nil)))
    (.cons (.ret (.cst (.bl true)))
    .nil))
def f_is_solution : FnR := ⟨"is_solution", defArgs (top 59), defBody (top 59), defScope (top 59), ["equation", "row"], ["equation", "row", "one", "first", "second"], i_is_solution⟩
def i_power_solutions : Stms := (.cons (.asg (.tp (.cons (.nm 2) (.cons (.nm 3) .nil))) (.call 18 (.cons (.var 1) .nil)))
    (.cons (.ite (.cmp .NotEq (.bin .Mod (.var 3) (.var 0)) (.cst (.int 0))) (.cons (.ret (.tup (.cons (.cst (.str "none")) .nil)))
    .nil) .nil)
    (.cons (.ret (.tup (.cons (.cst (.str "one")) (.cons (.call 10 (.cons (.var 2) (.cons (.bin .FloorDiv (.var 3) (.var 0)) .nil))) .nil))))
    .nil)))
def f_power_solutions : FnR := ⟨"power_solutions", defArgs (top 60), defBody (top 60), defScope (top 60), ["n", "row"], ["n", "row", "its", "times"], i_power_solutions⟩
def i_moves_solutions : Stms := (.cons (.asg (.tp (.cons (.nm 3) (.cons (.nm 4) .nil))) (.call 18 (.cons (.var 0) .nil)))
    (.cons (.asg (.nm 2) (.call 16 (.cons (.var 0) (.cons (.var 1) .nil))))
    (.cons (.ite (.cmp .Is (.var 2) (.cst .non)) (.cons (.ret (.tup (.cons (.cst (.str "none")) .nil)))
    .nil) .nil)
    (.cons (.ret (.ite (.cmp .Eq (.var 4) (.cst (.int 0))) (.tup (.cons (.cst (.str "all")) .nil)) (.tup (.cons (.cst (.str "line")) (.cons (.var 2) (.cons (.var 3) .nil))))))
    .nil))))
def f_moves_solutions : FnR := ⟨"moves_solutions", defArgs (top 61), defBody (top 61), defScope (top 61), ["row", "other"], ["row", "other", "first", "its", "times"], i_moves_solutions⟩
def i_single_solutions : Stms := (.cons (.asg (.nm 1) (.ix (.var 0) (.cst (.int 0))))
    (.cons (.ite (.cmp .Eq (.var 1) (.cst (.str "ahead"))) (.cons (.ret (.tup (.cons (.cst (.str "one")) (.cons (.call 8 (.cons (.ix (.var 0) (.cst (.int 2))) (.cons (.call 5 (.cons (.ix (.var 0) (.cst (.int 1))) .nil)) .nil))) .nil))))
    .nil) .nil)
    (.cons (.ite (.cmp .Eq (.var 1) (.cst (.str "behind"))) (.cons (.ret (.tup (.cons (.cst (.str "one")) (.cons (.call 8 (.cons (.call 5 (.cons (.ix (.var 0) (.cst (.int 1))) .nil)) (.cons (.ix (.var 0) (.cst (.int 2))) .nil))) .nil))))
    .nil) .nil)
    (.cons (.ite (.cmp .Eq (.var 1) (.cst (.str "between"))) (.cons (.ret (.tup (.cons (.cst (.str "one")) (.cons (.call 9 (.cons (.lst (.cons (.call 5 (.cons (.ix (.var 0) (.cst (.int 1))) .nil)) (.cons (.ix (.var 0) (.cst (.int 3))) (.cons (.call 5 (.cons (.ix (.var 0) (.cst (.int 2))) .nil)) .nil)))) .nil)) .nil))))
    .nil) .nil)
    (.cons (.ite (.cmp .Eq (.var 1) (.cst (.str "power"))) (.cons (.ret (.call 36 (.cons (.ix (.var 0) (.cst (.int 1))) (.cons (.ix (.var 0) (.cst (.int 2))) .nil))))
    .nil) .nil)
    (.cons (.ret (.call 37 (.cons (.ix (.var 0) (.cst (.int 1))) (.cons (.ite (.cmp .Eq (.var 1) (.cst (.str "moves"))) (.ix (.var 0) (.cst (.int 2))) (.ix (.var 0) (.cst (.int 1)))) .nil))))
    .nil))))))
def f_single_solutions : FnR := ⟨"single_solutions", defArgs (top 62), defBody (top 62), defScope (top 62), ["equation"], ["equation", "word"], i_single_solutions⟩
def i_solutions : Stms := (.cons (.asg (.nm 1) (.tup (.cons (.cst (.str "all")) .nil)))
    (.cons (.for_ (.seq (.call 30 (.cons (.var 0) .nil))) (.nm 2) (.cons (.asg (.nm 1) (.call 27 (.cons (.var 1) (.cons (.call 38 (.cons (.var 2) .nil)) .nil))))
    .nil))
    (.cons (.ret (.var 1))
    .nil)))
def f_solutions : FnR := ⟨"solutions", defArgs (top 63), defBody (top 63), defScope (top 63), ["equation"], ["equation", "found", "one"], i_solutions⟩
def i__law_bag : Stms := (.cons (.ret (.lst (.cons (.cst (.int 0)) (.cons (.cst (.int 1234567891)) (.cons (.cst (.int 0)) (.cons (.lc (.seq (.sl (.var 0) .non (.som (.cst (.int 63))))) (.nm 1) .non (.bi .abs (.cons (.var 1) .nil)) [("cell", 1)]) .nil))))))
    .nil)
def f__law_bag : FnR := ⟨"_law_bag", defArgs (top 65), defBody (top 65), defScope (top 65), ["script"], ["script", "cell"], i__law_bag⟩
def i__law_take : Stms := (.cons (.ite (.cmp .Eq (.ix (.var 0) (.cst (.int 0))) (.cst (.int 0))) (.cons (.asg (.nm 4) (.ix (.bin .Add (.sl (.ix (.var 0) (.cst (.int 3))) (.som (.ix (.var 0) (.cst (.int 2)))) .non) (.lst (.cons (.cst (.int 0)) .nil))) (.cst (.int 0))))
    (.cons (.augS .Add (.var 0) (.cst (.int 2)) (.cst (.int 1)))
    (.cons (.ite (.cmp .GtE (.var 4) (.bin .Pow (.cst (.int 10)) (.cst (.int 18)))) (.cons (.setS (.var 0) (.cst (.int 0)) (.var 4))
    .nil) .nil)
    (.cons (.asg (.nm 5) (.bin .Add (.bin .Add (.bin .Mult (.ix (.var 0) (.cst (.int 1))) (.cst (.int 48271))) (.bin .Mod (.bi .int (.cons (.var 4) .nil)) (.cst (.int 2147483647)))) (.bin .Mult (.cst (.int 7919)) (.ix (.var 0) (.cst (.int 2))))))
    (.cons (.setS (.var 0) (.cst (.int 1)) (.bin .Mod (.bi .int (.cons (.var 5) .nil)) (.cst (.int 2147483647))))
    .nil))))) .nil)
    (.cons (.ite (.cmp .Gt (.ix (.var 0) (.cst (.int 0))) (.cst (.int 0))) (.cons (.asg (.nm 6) (.bin .Mod (.bi .int (.cons (.ix (.var 0) (.cst (.int 0))) .nil)) (.var 1)))
    (.cons (.setS (.var 0) (.cst (.int 0)) (.bin .FloorDiv (.bi .int (.cons (.ix (.var 0) (.cst (.int 0))) .nil)) (.var 1)))
    (.cons (.ret (.var 6))
    .nil))) .nil)
    (.cons (.asg (.nm 2) (.bin .Mod (.bi .int (.cons (.bin .Mult (.bin .Add (.ix (.var 0) (.cst (.int 1))) (.cst (.int 1))) (.cst (.int 39373))) .nil)) (.cst (.int 1000000007))))
    (.cons (.asg (.nm 3) (.bin .Mod (.bi .int (.cons (.bin .Mult (.bin .Mod (.bi .int (.cons (.bin .Mult (.var 2) (.var 2)) .nil)) (.cst (.int 998244353))) (.cst (.int 30011))) .nil)) (.cst (.int 998244353))))
    (.cons (.ret (.bin .Mod (.bi .int (.cons (.bin .FloorDiv (.var 3) (.cst (.int 7))) .nil)) (.var 1)))
    .nil)))))
def f__law_take : FnR := ⟨"_law_take", defArgs (top 66), defBody (top 66), defScope (top 66), ["bag", "many"], ["bag", "many", "begin", "second", "cell", "stirred", "value"], i__law_take⟩
def i__law_some : Stms := (.cons (.ret (.ix (.var 1) (.call 41 (.cons (.var 0) (.cons (.bi .len (.cons (.var 1) .nil)) .nil)))))
    .nil)
def f__law_some : FnR := ⟨"_law_some", defArgs (top 67), defBody (top 67), defScope (top 67), ["bag", "things"], ["bag", "things"], i__law_some⟩
def i__law_alike : Stms := (.cons (.ret (.bop true (.cons (.cmp .Eq (.bi .repr (.cons (.var 0) .nil)) (.bi .repr (.cons (.var 1) .nil))) (.cons (.cmp .Eq (.var 0) (.var 1)) .nil))))
    .nil)
def f__law_alike : FnR := ⟨"_law_alike", defArgs (top 68), defBody (top 68), defScope (top 68), ["found", "due"], ["found", "due"], i__law_alike⟩
def i__law_contrary : Stms := (.cons (.ret (.tup (.cons (.ix (.var 0) (.cst (.int 0))) (.cons (.bin .Sub (.cst (.int 0)) (.ix (.var 0) (.cst (.int 1)))) .nil))))
    .nil)
def f__law_contrary : FnR := ⟨"_law_contrary", defArgs (top 69), defBody (top 69), defScope (top 69), ["step"], ["step"], i__law_contrary⟩
def i__law_undoing : Stms := (.cons (.ret (.bi .tuple (.cons (.lc (.seq (.rev (.var 0))) (.nm 1) .non (.call 44 (.cons (.var 1) .nil)) [("step", 1)]) .nil)))
    .nil)
def f__law_undoing : FnR := ⟨"_law_undoing", defArgs (top 70), defBody (top 70), defScope (top 70), ["row"], ["row", "step"], i__law_undoing⟩
def i__law_short : Stms := (.cons (.asg (.nm 1) (.lst .nil))
    (.cons (.for_ (.seq (.var 0)) (.nm 2) (.cons (.ite (.bop true (.cons (.cmp .NotEq (.var 1) (.lst .nil)) (.cons (.cmp .Eq (.ix (.var 1) (.neg (.cst (.int 1)))) (.call 44 (.cons (.var 2) .nil))) .nil))) (.cons (.expr (.mt .pop (.var 1) .nil))
    .nil) (.cons (.expr (.mt .append (.var 1) (.cons (.var 2) .nil)))
    .nil))
    .nil))
    (.cons (.ret (.bi .tuple (.cons (.var 1) .nil)))
    .nil)))
def f__law_short : FnR := ⟨"_law_short", defArgs (top 71), defBody (top 71), defScope (top 71), ["row"], ["row", "found", "step"], i__law_short⟩
def i__law_row : Stms := (.cons (.asg (.nm 3) (.lc (.rng1 (.call 41 (.cons (.var 0) (.cons (.bin .Add (.var 2) (.cst (.int 1))) .nil)))) (.nm 4) .non (.tup (.cons (.call 42 (.cons (.var 0) (.cons (.var 1) .nil))) (.cons (.call 42 (.cons (.var 0) (.cons (.lst (.cons (.cst (.int 1)) (.cons (.cst (.int 1)) (.cons (.neg (.cst (.int 1))) .nil)))) .nil))) .nil))) [("k", 4)]))
    (.cons (.ite (.cmp .Eq (.call 41 (.cons (.var 0) (.cons (.cst (.int 3)) .nil))) (.cst (.int 0))) (.cons (.par [5, 6] (.cons (.call 41 (.cons (.var 0) (.cons (.bin .Add (.bi .len (.cons (.var 3) .nil)) (.cst (.int 1))) .nil))) (.cons (.tup (.cons (.call 42 (.cons (.var 0) (.cons (.var 1) .nil))) (.cons (.call 42 (.cons (.var 0) (.cons (.lst (.cons (.cst (.int 1)) (.cons (.neg (.cst (.int 1))) .nil))) .nil))) .nil))) .nil)))
    (.cons (.asg (.nm 3) (.bin .Add (.bin .Add (.sl (.var 3) .non (.som (.var 5))) (.lst (.cons (.var 6) (.cons (.call 44 (.cons (.var 6) .nil)) .nil)))) (.sl (.var 3) (.som (.var 5)) .non)))
    .nil)) .nil)
    (.cons (.ret (.bi .tuple (.cons (.var 3) .nil)))
    .nil)))
def f__law_row : FnR := ⟨"_law_row", defArgs (top 72), defBody (top 72), defScope (top 72), ["bag", "commands", "most"], ["bag", "commands", "most", "found", "k", "at", "step"], i__law_row⟩
def i__law_power : Stms := (.cons (.ret (.call 46 (.cons (.bin .Mult (.ite (.cmp .Gt (.var 1) (.cst (.int 0))) (.var 0) (.call 45 (.cons (.var 0) .nil))) (.bi .abs (.cons (.var 1) .nil))) .nil)))
    .nil)
def f__law_power : FnR := ⟨"_law_power", defArgs (top 73), defBody (top 73), defScope (top 73), ["row", "n"], ["row", "n"], i__law_power⟩
def i__law_told : Stms := (.cons (.asg (.nm 3) (.bin .Mult (.ite (.cmp .GtE (.var 2) (.cst (.int 0))) (.var 1) (.call 45 (.cons (.var 1) .nil))) (.bi .abs (.cons (.var 2) .nil))))
    (.cons (.par [4, 5] (.cons (.call 41 (.cons (.var 0) (.cons (.bin .Add (.bi .len (.cons (.var 3) .nil)) (.cst (.int 1))) .nil))) (.cons (.call 47 (.cons (.var 0) (.cons (.lst (.cons (.cst (.str "a")) (.cons (.cst (.str "b")) (.cons (.cst (.str "c")) .nil)))) (.cons (.cst (.int 2)) .nil)))) .nil)))
    (.cons (.ret (.ite (.cmp .LtE (.bin .Add (.bi .len (.cons (.var 3) .nil)) (.bin .Mult (.cst (.int 2)) (.bi .len (.cons (.var 5) .nil)))) (.cst (.int 60))) (.bin .Add (.bin .Add (.bin .Add (.sl (.var 3) .non (.som (.var 4))) (.var 5)) (.call 45 (.cons (.var 5) .nil))) (.sl (.var 3) (.som (.var 4)) .non)) (.var 3)))
    .nil)))
def f__law_told : FnR := ⟨"_law_told", defArgs (top 74), defBody (top 74), defScope (top 74), ["bag", "unit", "n"], ["bag", "unit", "n", "row", "at", "more"], i__law_told⟩
def i__law_one : Stms := (.cons (.asg (.nm 3) (.call 42 (.cons (.var 0) (.cons (.lst (.cons (.cst (.str "ahead")) (.cons (.cst (.str "behind")) (.cons (.cst (.str "between")) (.cons (.cst (.str "power")) (.cons (.cst (.str "power")) (.cons (.cst (.str "moves")) (.cons (.cst (.str "goes")) .nil)))))))) .nil))))
    (.cons (.asgL (.cons (.nm 5) (.cons (.nm 6) (.cons (.nm 7) .nil))) (.lc (.rng1 (.cst (.int 3))) (.nm 9) .non (.bin .Sub (.call 41 (.cons (.var 0) (.cons (.bin .Add (.bin .Mult (.cst (.int 2)) (.var 2)) (.cst (.int 1))) .nil))) (.var 2)) [("k", 9)]))
    (.cons (.asg (.nm 4) (.lc (.seq (.tup (.cons (.var 5) (.cons (.var 6) (.cons (.var 7) .nil))))) (.nm 9) .non (.call 49 (.cons (.var 0) (.cons (.var 1) (.cons (.var 9) .nil)))) [("k", 9)]))
    (.cons (.ite (.cmp .Eq (.var 3) (.cst (.str "power"))) (.cons (.asg (.nm 8) (.call 42 (.cons (.var 0) (.cons (.lst (.cons (.cst (.int 1)) (.cons (.cst (.int 2)) (.cons (.cst (.int 3)) (.cons (.cst (.int 5)) (.cons (.cst (.int 60)) .nil)))))) .nil))))
    (.cons (.asg (.nm 7) (.call 42 (.cons (.var 0) (.cons (.lst (.cons (.var 7) (.cons (.cst (.int 0)) (.cons (.ite (.cmp .LtE (.bin .Mult (.var 8) (.bi .len (.cons (.var 1) .nil))) (.cst (.int 50))) (.var 8) (.var 7)) .nil)))) .nil))))
    (.cons (.ret (.tup (.cons (.tup (.cons (.cst (.str "power")) (.cons (.var 8) (.cons (.call 49 (.cons (.var 0) (.cons (.var 1) (.cons (.var 7) .nil)))) .nil)))) (.cons (.ite (.cmp .Eq (.bin .Mod (.var 7) (.var 8)) (.cst (.int 0))) (.lst (.cons (.bin .FloorDiv (.var 7) (.var 8)) .nil)) (.lst .nil)) .nil))))
    .nil))) .nil)
    (.cons (.ite (.cmp .In (.var 3) (.tup (.cons (.cst (.str "ahead")) (.cons (.cst (.str "behind")) .nil)))) (.cons (.ret (.tup (.cons (.tup (.cons (.var 3) (.cons (.ix (.var 4) (.cst (.int 0))) (.cons (.ix (.var 4) (.cst (.int 1))) .nil)))) (.cons (.lst (.cons (.bin .Sub (.var 6) (.var 5)) .nil)) .nil))))
    .nil) .nil)
    (.cons (.ite (.cmp .Eq (.var 3) (.cst (.str "between"))) (.cons (.ret (.tup (.cons (.tup (.cons (.var 3) (.cons (.ix (.var 4) (.cst (.int 0))) (.cons (.ix (.var 4) (.cst (.int 2))) (.cons (.ix (.var 4) (.cst (.int 1))) .nil))))) (.cons (.lst (.cons (.bin .Sub (.bin .Sub (.var 6) (.var 5)) (.var 7)) .nil)) .nil))))
    .nil) .nil)
    (.cons (.ite (.cmp .Eq (.var 3) (.cst (.str "moves"))) (.cons (.asg (.nm 6) (.call 42 (.cons (.var 0) (.cons (.lst (.cons (.var 5) (.cons (.var 6) .nil))) .nil))))
    (.cons (.ret (.tup (.cons (.tup (.cons (.var 3) (.cons (.ix (.var 4) (.cst (.int 0))) (.cons (.call 49 (.cons (.var 0) (.cons (.var 1) (.cons (.var 6) .nil)))) .nil)))) (.cons (.ite (.cmp .NotEq (.var 5) (.var 6)) (.lst .nil) (.ite (.cmp .Eq (.var 5) (.cst (.int 0))) (.cst (.str "all")) (.cst (.str "line")))) .nil))))
    .nil)) .nil)
    (.cons (.ret (.tup (.cons (.tup (.cons (.var 3) (.cons (.ix (.var 4) (.cst (.int 0))) .nil))) (.cons (.ite (.cmp .Eq (.var 5) (.cst (.int 0))) (.cst (.str "all")) (.cst (.str "line"))) .nil))))
    .nil))))))))
def f__law_one : FnR := ⟨"_law_one", defArgs (top 75), defBody (top 75), defScope (top 75), ["bag", "unit", "most"], ["bag", "unit", "most", "word", "rows", "u", "v", "w", "n", "k"], i__law_one⟩
def i__law_met : Stms := (.cons (.ite (.cmp .Eq (.var 0) (.cst (.str "all"))) (.cons (.ret (.var 1))
    .nil) .nil)
    (.cons (.ite (.bop false (.cons (.cmp .Eq (.var 1) (.cst (.str "all"))) (.cons (.cmp .Eq (.var 0) (.var 1)) .nil))) (.cons (.ret (.var 0))
    .nil) .nil)
    (.cons (.ite (.cmp .In (.cst (.str "line")) (.tup (.cons (.var 0) (.cons (.var 1) .nil)))) (.cons (.ret (.ite (.cmp .Eq (.var 0) (.cst (.str "line"))) (.var 1) (.var 0)))
    .nil) .nil)
    (.cons (.ret (.lc (.seq (.var 0)) (.nm 2) (.som (.cmp .In (.var 2) (.var 1))) (.var 2) [("k", 2)]))
    .nil))))
def f__law_met : FnR := ⟨"_law_met", defArgs (top 76), defBody (top 76), defScope (top 76), ["one", "other"], ["one", "other", "k"], i__law_met⟩
def i__law_lot : Stms := (.cons (.ite (.bop false (.cons (.cmp .Eq (.var 1) (.cst (.str "all"))) (.cons (.cmp .Eq (.var 1) (.lst .nil)) .nil))) (.cons (.ret (.ite (.cmp .Eq (.var 1) (.cst (.str "all"))) (.tup (.cons (.cst (.str "all")) .nil)) (.tup (.cons (.cst (.str "none")) .nil))))
    .nil) .nil)
    (.cons (.ret (.ite (.cmp .Eq (.var 1) (.cst (.str "line"))) (.tup (.cons (.cst (.str "line")) (.cons (.tup .nil) (.cons (.var 0) .nil)))) (.tup (.cons (.cst (.str "one")) (.cons (.call 48 (.cons (.var 0) (.cons (.ix (.var 1) (.cst (.int 0))) .nil))) .nil)))))
    .nil))
def f__law_lot : FnR := ⟨"_law_lot", defArgs (top 77), defBody (top 77), defScope (top 77), ["unit", "due"], ["unit", "due"], i__law_lot⟩
def i_law : Stms := (.cons (.asg (.nm 1) (.call 40 (.cons (.var 0) .nil)))
    (.cons (.asg (.tp (.cons (.nm 3) (.cons (.nm 4) .nil))) (.tup (.cons (.tup (.cons (.cst (.str "a")) (.cons (.cst (.int 1)) .nil))) (.cons (.tup (.cons (.cst (.str "b")) (.cons (.cst (.int 1)) .nil))) .nil))))
    (.cons (.for_ (.rng1 (.cst (.int 4))) (.nm 2) (.cons (.asg (.nm 5) (.call 42 (.cons (.var 1) (.cons (.lst (.cons (.tup (.cons (.var 3) .nil)) (.cons (.tup (.cons (.tup (.cons (.cst (.str "a")) (.cons (.neg (.cst (.int 1))) .nil))) .nil)) (.cons (.tup (.cons (.var 3) (.cons (.var 4) .nil))) (.cons (.tup (.cons (.var 3) (.cons (.var 4) (.cons (.var 3) (.cons (.tup (.cons (.cst (.str "b")) (.cons (.neg (.cst (.int 1))) .nil))) .nil))))) (.cons (.tup (.cons (.var 4) (.cons (.var 3) (.cons (.tup (.cons (.cst (.str "b")) (.cons (.neg (.cst (.int 1))) .nil))) .nil)))) (.cons (.tup (.cons (.var 3) (.cons (.var 3) (.cons (.var 4) .nil)))) .nil))))))) .nil))))
    (.cons (.asg (.nm 6) (.bin .FloorDiv (.cst (.int 50)) (.bin .Mult (.cst (.int 3)) (.bi .len (.cons (.var 5) .nil)))))
    (.cons (.ite (.cmp .NotEq (.call 18 (.cons (.call 48 (.cons (.var 5) (.cons (.cst (.int 3)) .nil))) .nil)) (.tup (.cons (.var 5) (.cons (.cst (.int 3)) .nil)))) (.cons (.ret (.cst (.bl false)))
    .nil) .nil)
    (.cons (.asg (.nm 7) (.lc (.rng1 (.bin .Add (.cst (.int 1)) (.call 41 (.cons (.var 1) (.cons (.cst (.int 3)) .nil))))) (.nm 11) .non (.call 50 (.cons (.var 1) (.cons (.var 5) (.cons (.var 6) .nil)))) [("k", 11)]))
    (.cons (.asg (.nm 8) (.cst (.str "all")))
    (.cons (.for_ (.seq (.var 7)) (.tp (.cons (.nm 13) (.cons (.nm 14) .nil))) (.cons (.asg (.nm 8) (.call 51 (.cons (.var 8) (.cons (.var 14) .nil))))
    (.cons (.asg (.nm 10) (.call 39 (.cons (.var 13) .nil)))
    (.cons (.ite (.bop false (.cons (.cmp .NotEq (.call 33 (.cons (.var 13) .nil)) (.var 13)) (.cons (.cmp .IsNot (.call 21 (.cons (.var 10) .nil)) (.cst (.bl true))) (.cons (.cmp .IsNot (.call 25 (.cons (.var 10) (.cons (.call 52 (.cons (.var 5) (.cons (.var 14) .nil))) .nil))) (.cst (.bl true))) (.cons (.cmp .NotEq (.ix (.var 10) (.cst (.int 0))) (.ix (.call 52 (.cons (.var 5) (.cons (.var 14) .nil))) (.cst (.int 0)))) .nil))))) (.cons (.ret (.cst (.bl false)))
    .nil) .nil)
    .nil))))
    (.cons (.asg (.nm 9) (.ite (.cmp .Eq (.bi .len (.cons (.var 7) .nil)) (.cst (.int 1))) (.ix (.ix (.var 7) (.cst (.int 0))) (.cst (.int 0))) (.bin .Add (.tup (.cons (.cst (.str "both")) .nil)) (.bi .tuple (.cons (.lc (.seq (.var 7)) (.tp (.cons (.nm 13) (.cons (.nm 14) .nil))) .non (.var 13) [("equation", 13), ("its", 14)]) .nil)))))
    (.cons (.asg (.nm 10) (.call 39 (.cons (.var 9) .nil)))
    (.cons (.ite (.bop false (.cons (.cmp .NotEq (.call 33 (.cons (.var 9) .nil)) (.var 9)) (.cons (.cmp .NotEq (.ix (.var 10) (.cst (.int 0))) (.ix (.call 52 (.cons (.var 5) (.cons (.var 8) .nil))) (.cst (.int 0)))) (.cons (.cmp .IsNot (.call 25 (.cons (.var 10) (.cons (.call 52 (.cons (.var 5) (.cons (.var 8) .nil))) .nil))) (.cst (.bl true))) .nil)))) (.cons (.ret (.cst (.bl false)))
    .nil) .nil)
    (.cons (.ite (.cmp .Gt (.bi .len (.cons (.var 7) .nil)) (.cst (.int 1))) (.cons (.asg (.nm 15) (.call 27 (.cons (.call 39 (.cons (.ix (.ix (.var 7) (.cst (.int 0))) (.cst (.int 0))) .nil)) (.cons (.call 39 (.cons (.ix (.ix (.var 7) (.cst (.int 1))) (.cst (.int 0))) .nil)) .nil))))
    (.cons (.ite (.cmp .IsNot (.call 25 (.cons (.var 15) (.cons (.call 52 (.cons (.var 5) (.cons (.call 51 (.cons (.ix (.ix (.var 7) (.cst (.int 0))) (.cst (.int 1))) (.cons (.ix (.ix (.var 7) (.cst (.int 1))) (.cst (.int 1))) .nil))) .nil))) .nil))) (.cst (.bl true))) (.cons (.ret (.cst (.bl false)))
    .nil) .nil)
    .nil)) .nil)
    (.cons (.for_ (.seq (.bin .Add (.tup (.cons (.cst (.int 0)) (.cons (.cst (.int 1)) (.cons (.neg (.cst (.int 1))) (.cons (.bin .Sub (.call 41 (.cons (.var 1) (.cons (.bin .Add (.bin .Mult (.cst (.int 2)) (.var 6)) (.cst (.int 1))) .nil))) (.var 6)) .nil))))) (.bi .tuple (.cons (.ite (.isi "list" (.var 8)) (.sl (.var 8) .non (.som (.cst (.int 1)))) (.lst .nil)) .nil)))) (.nm 11) (.cons (.asg (.nm 16) (.call 48 (.cons (.var 5) (.cons (.var 11) .nil))))
    (.cons (.asg (.nm 17) (.bop false (.cons (.cmp .In (.var 8) (.tup (.cons (.cst (.str "all")) (.cons (.cst (.str "line")) .nil)))) (.cons (.cmp .In (.var 11) (.var 8)) .nil))))
    (.cons (.ite (.not_ (.call 43 (.cons (.lst (.cons (.call 35 (.cons (.var 9) (.cons (.var 16) .nil))) (.cons (.call 23 (.cons (.var 10) (.cons (.bin .Add (.var 16) (.tup (.cons (.var 3) (.cons (.tup (.cons (.cst (.str "a")) (.cons (.neg (.cst (.int 1))) .nil))) .nil)))) .nil))) .nil))) (.cons (.lst (.cons (.var 17) (.cons (.var 17) .nil))) .nil)))) (.cons (.ret (.cst (.bl false)))
    .nil) .nil)
    .nil))))
    (.cons (.asg (.nm 12) (.bin .Add (.call 48 (.cons (.var 5) (.cons (.cst (.int 1)) .nil))) (.tup (.cons (.tup (.cons (.cst (.str "c")) (.cons (.cst (.int 1)) .nil))) .nil))))
    (.cons (.ite (.not_ (.call 43 (.cons (.lst (.cons (.call 35 (.cons (.var 9) (.cons (.var 12) .nil))) (.cons (.call 23 (.cons (.var 10) (.cons (.var 12) .nil))) .nil))) (.cons (.bin .Mult (.lst (.cons (.cmp .Eq (.var 8) (.cst (.str "all"))) .nil)) (.cst (.int 2))) .nil)))) (.cons (.ret (.cst (.bl false)))
    .nil) .nil)
    (.cons (.ite (.bop true (.cons (.cmp .Eq (.ix (.var 10) (.cst (.int 0))) (.cst (.str "line"))) (.cons (.cmp .NotEq (.lc (.seq (.tup (.cons (.neg (.cst (.int 3))) (.cons (.cst (.int 0)) (.cons (.cst (.int 4)) .nil))))) (.nm 18) (.som (.cmp .IsNot (.call 35 (.cons (.var 9) (.cons (.call 24 (.cons (.var 10) (.cons (.var 18) .nil))) .nil))) (.cst (.bl true)))) (.var 18) [("n", 18)]) (.lst .nil)) .nil))) (.cons (.ret (.cst (.bl false)))
    .nil) .nil)
    .nil)))))))))))))))
    (.cons (.ret (.cst (.bl true)))
    .nil))))
def f_law : FnR := ⟨"law", defArgs (top 78), defBody (top 78), defScope (top 78), ["script"], ["script", "bag", "lap", "a", "b", "unit", "most", "some", "due", "whole", "lot", "k", "odd", "equation", "its", "both", "row", "holds", "n"], i_law⟩
def tab : List FnR := [f_is_number, f_is_name, f_is_sized, f_is_step, f_contrary, f_undoing, f_shortened, f_is_short, f_joined, f_product_of_rows, f_power, f_parted, f_least_turn, f_ring_order, f_are_moved, f_place_of, f_mover, f_least_part, f_root, f_is_short_row, f_is_turn, f_is_lot, f_is_some_times, f_has_row, f_row_at, f_are_same, f_met_line, f_both_lots, f_is_row, f_is_single_form, f_parts_of, f_is_equation_form, f_rows_in, f_checked_equation, f_sides_of, f_is_solution, f_power_solutions, f_moves_solutions, f_single_solutions, f_solutions, f__law_bag, f__law_take, f__law_some, f__law_alike, f__law_contrary, f__law_undoing, f__law_short, f__law_row, f__law_power, f__law_told, f__law_one, f__law_met, f__law_lot, f_law]
def csts : List (Str × D) := [("LETTERS", (.str "abcdefghijklmnopqrstuvwxyz")), ("DIGITS", (.str "0123456789")), ("RESERVED", (.tup [(.str "book"), (.str "chart"), (.str "command"), (.str "do"), (.str "editor"), (.str "from"), (.str "is"), (.str "macro"), (.str "made"), (.str "of"), (.str "row"), (.str "state"), (.str "step"), (.str "then"), (.str "to"), (.str "turn"), (.str "undo")])), ("MOST_LETTERS", (.int 8)), ("MOST_POWER", (.int 100000)), ("MOST_TIMES_rows", (.int 200)), ("MOST_STEPS_solutions", (.int 2000)), ("MOST_TIMES_solutions", (.int 200)), ("MOST_TOGETHER", (.int 400)), ("MOST_TIMES_unknowns", (.int 60)), ("MOST_PARTS", (.int 6)), ("MOST_STEPS_unknowns", (.int 60))]
def dcts : List (Str × List (Str × D)) := [("ROWS", [("ahead", (.int 2)), ("behind", (.int 2)), ("between", (.int 3)), ("moves", (.int 2)), ("goes", (.int 1))])]
def blts : List Str := ["isinstance", "bool", "int", "all", "len", "str", "tuple", "zip", "abs", "min", "range", "sum", "any", "repr", "list"]

def T : Tb := ⟨⟨csts, dcts⟩, tab.map (·.name), blts⟩
theorem chk : (tab.all fun r => scopeB r && chkSs T r.ir r.cc r.body) = true := by decide +kernel
theorem args : (tab.all fun r => argB r.params r.ps) = true := by decide +kernel
abbrev R : PySem.W.OpenRow := PySem.W.OpenLaw.row PySem.Challenge.rw_undomacros_k10_whole_unknown_rows_by_num
abbrev hk : PySem.W.Hook := hookX 6 T.fa (tab.map FnR.df) T.ts T.cs
def ob (s : PySem.W.SharedT) : AlX := obsXG 6 T.fa (tab.map FnR.df) T.ts T.cs (HandSHeadRun.getT s)
theorem ob_eq (s : PySem.W.SharedT) : ob s = hk.obs s.abs := obsXG_eq (HandSHeadRun.getT_eq s)
def nm0 : List PySem.Str := ["_wall", "UndoError", "BadRow", "Nothing", "TooLarge", "LETTERS", "DIGITS", "MOST_LETTERS", "RESERVED", "is_number", "is_name", "is_sized", "is_step", "MOST_TIMES_rows", "MOST_POWER"]
def nm1 : List PySem.Str := ["contrary", "undoing", "shortened", "is_short", "joined", "product_of_rows", "power", "parted", "least_turn", "ring_order", "are_moved", "place_of", "mover", "least_part", "root"]
def nm2 : List PySem.Str := ["MOST_STEPS_solutions", "MOST_TOGETHER", "MOST_TIMES_solutions", "is_short_row", "is_turn", "is_lot", "is_some_times", "has_row", "row_at", "are_same", "met_line", "both_lots", "MOST_STEPS_unknowns", "MOST_TIMES_unknowns", "MOST_PARTS"]
def nm3 : List PySem.Str := ["ROWS", "is_row", "is_single_form", "parts_of", "is_equation_form", "rows_in", "checked_equation", "sides_of", "is_solution", "power_solutions", "moves_solutions", "single_solutions", "solutions", "_law_bag", "_law_take"]
def nm4 : List PySem.Str := ["_law_some", "_law_alike", "_law_contrary", "_law_undoing", "_law_short", "_law_row", "_law_power", "_law_told", "_law_one", "_law_met", "_law_lot"]
def loose : List PySem.Str := nm0 ++ (nm1 ++ (nm2 ++ (nm3 ++ (nm4))))
end K10

set_option Elab.async false
set_option linter.all false
set_option maxRecDepth 100000
set_option maxHeartbeats 0
namespace K10
open PySem Dn
theorem run_f (w : World) : HandSHeadRun.RunEq R (PySem.W.view R.prog [78]) hk ob 6000 loose (w.withFollow "special-get-raises" false) := fun os => by kernel_rfl
theorem run_t (w : World) : HandSHeadRun.RunEq R (PySem.W.view R.prog [78]) hk ob 6000 loose (w.withFollow "special-get-raises" true) := fun os => by kernel_rfl
theorem run (w : World) : HandSHeadRun.RunEq R (PySem.W.view R.prog [78]) hk ob 6000 loose w :=
  PySem.W.byRow2 "special-get-raises" (P := fun w => HandSHeadRun.RunEq R (PySem.W.view R.prog [78]) hk ob 6000 loose w) run_f run_t w
end K10

set_option Elab.async false
set_option linter.all false
set_option maxRecDepth 100000
set_option maxHeartbeats 1000000
namespace Dn
open PySem
open L2 (atI ixN)

/-! ### the heap grows -/
def Ext (M M' : MH) : Prop := ∀ a o, M a = some o → M' a = some o
def ExtB (D : Addr) (M M' : MH) : Prop := ∀ a o, a ≠ D → M a = some o → M' a = some o
theorem Ext.refl {M : MH} : Ext M M := fun _ _ h => h
theorem Ext.trans {M M1 M2 : MH} (h : Ext M M1) (k : Ext M1 M2) : Ext M M2 := fun a o e => k a o (h a o e)
theorem Ext.b {M M' : MH} {D : Addr} (h : Ext M M') : ExtB D M M' := fun a o _ e => h a o e
theorem ExtB.refl {M : MH} {D : Addr} : ExtB D M M := fun _ _ _ h => h
theorem ExtB.trans {M M1 M2 : MH} {D : Addr} (h : ExtB D M M1) (k : ExtB D M1 M2) : ExtB D M M2 := fun a o n e => k a o n (h a o n e)
theorem Ext.up {M : MH} {p : Addr} {o : MO} (h : M p = none) : Ext M (up M p o) := fun a u e => by
  have : a ≠ p := by rintro rfl; rw [h] at e; cases e
  rw [up_ne this]; exact e
theorem ExtB.up {M : MH} {p : Addr} {o : MO} : ExtB p M (up M p o) := fun a u n e => by rw [up_ne n]; exact e
/-- what was new is no longer new -/
theorem ExtB.ext {M M' : MH} {D : Addr} (hn : M D = none) (h : ExtB D M M') : Ext M M' := fun a o e => by
  by_cases q : a = D
  · subst q; rw [hn] at e; cases e
  · exact h a o q e
theorem rdL_ext {M M' : MH} {a : Addr} {ds : List D} (h : Ext M M') (e : rdL M a = some ds) : rdL M' a = some ds := by
  unfold rdL at e ⊢
  cases q : M a with
  | none => rw [q] at e; cases e
  | some o =>
    rw [q] at e
    rw [h a o q]
    exact e
theorem rdL_extB {M M' : MH} {D a : Addr} {ds : List Dn.D} (n : a ≠ D) (h : ExtB D M M') (e : rdL M a = some ds) : rdL M' a = some ds := by
  unfold rdL at e ⊢
  cases q : M a with
  | none => rw [q] at e; cases e
  | some o =>
    rw [q] at e
    rw [h a o n q]
    exact e
theorem ne_new {M : MH} {a p : Addr} {o : MO} (h : M a = some o) (hp : M p = none) : a ≠ p := by
  rintro rfl; rw [h] at hp; cases hp

theorem ExtB.new {M M' : MH} {p : Addr} {o : MO} (hp : M p = none) (x : ExtB p (Dn.up M p o) M') : Ext M M' := fun b u hb => x b u (ne_new hb hp) (by rw [up_ne (ne_new hb hp)]; exact hb)
/-! ### a call without effects -/
def Pure (f : FD) (ds : List D) (d : D) : Prop := ∀ M (Q : D → MH → Prop), (∀ M', Ext M M' → Q d M') → f ds M Q

/-! ### comprehensions -/
/-- as a value: the list is new -/
theorem lc_map {p : Pat} {te : TD} {G : MH → Prop} {env : Ev} {M : MH} {Q : D → MH → Prop} {items : List D} (f : D → D) (hG : ∀ D M2, M D = none → ExtB D M M2 → G M2) (hl : items.length ≤ LN)
    (he : ∀ d ∈ items, ∃ env2, bindP p d env = some env2 ∧ ∀ M' (Q : D → MH → Prop), Ext M M' → (∀ M2, Ext M' M2 → Q (f d) M2) → te env2 M' Q) (k : ∀ D M', M D = none → Ext M M' → M' D = some (.lst (items.map f)) → Q (.ref D) M') (D : Addr) (hD : M D = none) :
    dLcL p dYes te G env (Q (.ref D)) D items (up M D (.lst [])) := by
  have key : ∀ (items : List Dn.D), (∀ d ∈ items, ∃ env2, bindP p d env = some env2 ∧ ∀ M' (Q : Dn.D → MH → Prop), Ext M M' → (∀ M2, Ext M' M2 → Q (f d) M2) → te env2 M' Q) → ∀ (acc : List Dn.D) (M1 : MH), ExtB D M M1 → M1 D = some (.lst acc) → acc.length + items.length ≤ LN →
      (∀ M', ExtB D M M' → M' D = some (.lst (acc ++ items.map f)) → Q (.ref D) M') → dLcL p dYes te G env (Q (.ref D)) D items M1 := by
    intro items
    induction items with
    | nil => intro _ acc M1 x e _ k; exact ⟨hG D M1 hD x, k M1 x (by simpa using e)⟩
    | cons d ds ih =>
      intro he acc M1 x e hl k
      obtain ⟨env2, e1, e2⟩ := he d List.mem_cons_self
      refine ⟨hG D M1 hD x, ?_⟩
      rw [e1]
      show te env2 M1 _
      refine e2 M1 _ (x.ext hD) fun M' x' => ?_
      unfold pushD
      rw [x' D _ e]
      simp only [List.length_cons] at hl
      refine ⟨by omega, ?_⟩
      exact ih (fun y hy => he y (List.mem_cons_of_mem _ hy)) (acc ++ [f d]) _ ((x.trans x'.b).trans .up) up_same (by rw [List.length_append, List.length_singleton]; omega) fun M2 x2 e2 => k M2 x2 (by rw [e2]; simp)
  exact key items he [] _ .up up_same (by simpa using hl) fun M' x e => k D M' hD (x.ext hD) (by simpa using e)
theorem lc_filter {p : Pat} {tt : TDT} {te : TD} {G : MH → Prop} {env : Ev} {M : MH} {Q : D → MH → Prop} {items : List D} (c : D → Bool) (f : D → D) (hG : ∀ D M2, M D = none → ExtB D M M2 → G M2) (hl : items.length ≤ LN)
    (he : ∀ d ∈ items, ∃ env2, bindP p d env = some env2 ∧ (∀ M' (Q : Bool → MH → Prop), Ext M M' → (∀ M2, Ext M' M2 → Q (c d) M2) → tt env2 M' Q) ∧ (c d = true → ∀ M' (Q : D → MH → Prop), Ext M M' → (∀ M2, Ext M' M2 → Q (f d) M2) → te env2 M' Q))
    (k : ∀ D M', M D = none → Ext M M' → M' D = some (.lst ((items.filter c).map f)) → Q (.ref D) M') (D : Addr) (hD : M D = none) :
    dLcL p tt te G env (Q (.ref D)) D items (up M D (.lst [])) := by
  have key : ∀ (items : List Dn.D), (∀ d ∈ items, ∃ env2, bindP p d env = some env2 ∧ (∀ M' (Q : Bool → MH → Prop), Ext M M' → (∀ M2, Ext M' M2 → Q (c d) M2) → tt env2 M' Q) ∧ (c d = true → ∀ M' (Q : Dn.D → MH → Prop), Ext M M' → (∀ M2, Ext M' M2 → Q (f d) M2) → te env2 M' Q)) →
      ∀ (acc : List Dn.D) (M1 : MH), ExtB D M M1 → M1 D = some (.lst acc) → acc.length + items.length ≤ LN →
      (∀ M', ExtB D M M' → M' D = some (.lst (acc ++ (items.filter c).map f)) → Q (.ref D) M') → dLcL p tt te G env (Q (.ref D)) D items M1 := by
    intro items
    induction items with
    | nil => intro _ acc M1 x e _ k; exact ⟨hG D M1 hD x, k M1 x (by simpa using e)⟩
    | cons d ds ih =>
      intro he acc M1 x e hl k
      obtain ⟨env2, e1, e2, e3⟩ := he d List.mem_cons_self
      refine ⟨hG D M1 hD x, ?_⟩
      rw [e1]
      simp only [List.length_cons] at hl
      refine e2 M1 _ (x.ext hD) fun M2 x2 => ?_
      cases hc : c d with
      | false =>
        rw [if_neg Bool.false_ne_true]
        exact ih (fun y hy => he y (List.mem_cons_of_mem _ hy)) acc M2 (x.trans x2.b) (x2 D _ e) (by omega) fun M3 x3 e3 => k M3 x3 (by rw [e3, List.filter_cons_of_neg (by simpa using hc)])
      | true =>
        rw [if_pos rfl]
        refine e3 hc M2 _ ((x.trans x2.b).ext hD) fun M' x' => ?_
        unfold pushD
        rw [x' D _ (x2 D _ e)]
        refine ⟨by omega, ?_⟩
        exact ih (fun y hy => he y (List.mem_cons_of_mem _ hy)) (acc ++ [f d]) _ (((x.trans x2.b).trans x'.b).trans .up) up_same (by rw [List.length_append, List.length_singleton]; omega) fun M3 x3 e3 => k M3 x3 (by rw [e3, List.filter_cons_of_pos hc]; simp)
  exact key items he [] _ .up up_same (by simpa using hl) fun M' x e => k D M' hD (x.ext hD) (by simpa using e)

/-! ### rows: steps as trees -/
abbrev Sp := Str × Int
def spD (p : Sp) : D := .tup [.str p.1, .int p.2]
def rowD (r : List Sp) : D := .tup (r.map spD)
def spP (p : Sp) : PyData := .tuple [.str p.1, .int p.2]
theorem py_sp (M : MH) (n : Nat) (p : Sp) : py M (n + 2) (spD p) = some (spP p) := by
  simp [spD, py, pys, spP]
theorem pys_map {f : D → Option PyData} {α : Type} {g : α → D} {h : α → PyData} (e : ∀ a, f (g a) = some (h a)) : ∀ l : List α, pys f (l.map g) = some (l.map h)
  | [] => rfl
  | a :: l => by rw [List.map_cons, pys, e a, pys_map e l]; rfl
theorem py_row (M : MH) (n : Nat) (r : List Sp) : py M (n + 3) (rowD r) = some (.tuple (r.map spP)) := by
  simp only [rowD, py]
  rw [pys_map (py_sp M n)]
  rfl
theorem py_lst {M : MH} {a : Addr} {r : List Sp} (n : Nat) (h : rdL M a = some (r.map spD)) : py M (n + 3) (.ref a) = some (.list (r.map spP)) := by
  simp only [py, h]
  rw [pys_map (py_sp M n)]
  rfl
theorem eqv_sp (a b : Sp) : PyData.eqv (spP a) (spP b) = decide (a = b) := by
  obtain ⟨a1, a2⟩ := a
  obtain ⟨b1, b2⟩ := b
  simp only [spP, PyData.eqv, PyData.eqvAll, Bool.and_true]
  by_cases h1 : a1 = b1
  · by_cases h2 : a2 = b2
    · simp [h1, h2]
    · simp [h2]
  · simp [h1]
theorem eqv_map {α : Type} [DecidableEq α] {h : α → PyData} (e : ∀ a b, PyData.eqv (h a) (h b) = decide (a = b)) : ∀ xs ys : List α, PyData.eqvAll (xs.map h) (ys.map h) = decide (xs = ys)
  | [], [] => by simp [PyData.eqvAll]
  | [], y :: ys => by simp [PyData.eqvAll]
  | x :: xs, [] => by simp [PyData.eqvAll]
  | x :: xs, y :: ys => by
    rw [List.map_cons, List.map_cons, PyData.eqvAll, e x y, eqv_map e xs ys]
    by_cases h1 : x = y
    · by_cases h2 : xs = ys
      · simp [h1, h2]
      · simp [h2]
    · simp [h1]
theorem eqv_row (r r' : List Sp) : PyData.eqv (.tuple (r.map spP)) (.tuple (r'.map spP)) = decide (r = r') := by
  rw [PyData.eqv, eqv_map eqv_sp]
end Dn
namespace Dn
open PySem
open L2 (atI ixN)
/-! ### cuts -/
def cutA {α : Type} (xs : List α) (lo hi : Option Int) : List α := (xs.drop (HT.sIx xs.length 0 lo)).take (HT.sIx xs.length xs.length hi - HT.sIx xs.length 0 lo)
theorem cut_map {α : Type} (f : α → D) (xs : List α) (lo hi : Option Int) : cut (xs.map f) lo hi = (cutA xs lo hi).map f := by
  unfold cut cutA
  rw [List.length_map, List.map_take, List.map_drop]
theorem cutA_nat {α : Type} (xs : List α) (a b : Nat) (hb : b ≤ xs.length) : cutA xs (some (a : Int)) (some (b : Int)) = (xs.drop a).take (b - a) := by
  unfold cutA
  rw [HT.sIx_nat, HT.sIx_nat]
  by_cases h : a ≤ xs.length
  · rw [Nat.min_eq_left h, Nat.min_eq_left hb]
  · have h' : xs.length ≤ a := by omega
    rw [Nat.min_eq_right h', List.drop_eq_nil_of_le (Nat.le_refl _), List.drop_eq_nil_of_le h']
    simp
theorem cutA_to {α : Type} (xs : List α) (b : Nat) : cutA xs none (some (b : Int)) = xs.take b := by
  unfold cutA
  rw [HT.sIx_nat, HT.sIx_none]
  simp
theorem cutA_from {α : Type} (xs : List α) (a : Nat) : cutA xs (some (a : Int)) none = xs.drop a := by
  unfold cutA
  rw [HT.sIx_nat, HT.sIx_none]
  by_cases h : a ≤ xs.length
  · rw [Nat.min_eq_left h, List.take_of_length_le (by simp)]
  · have h' : xs.length ≤ a := by omega
    rw [Nat.min_eq_right h', List.drop_eq_nil_of_le (Nat.le_refl _), List.drop_eq_nil_of_le h']
    simp
theorem atI_map {α β : Type} (f : α → β) (xs : List α) (i : Int) : atI (xs.map f) i = (atI xs i).map f := by
  unfold atI
  rw [List.length_map]
  cases ixN xs.length i with
  | none => rfl
  | some j => simp
theorem ixN_nat {n j : Nat} (h : j < n) : ixN n (j : Int) = some j := by
  unfold ixN
  rw [if_pos (by omega), if_pos (by omega)]
  simp
theorem atI_cast {α : Type} (xs : List α) (j : Nat) (h : j < xs.length) : atI xs (j : Int) = xs[j]? := by
  unfold atI
  rw [ixN_nat h]
  rfl
theorem atI_neg1 {α : Type} (xs : List α) : atI xs (-1) = xs.getLast? := by
  rcases List.eq_nil_or_concat xs with rfl | ⟨ys, y, rfl⟩
  · rfl
  · rw [List.concat_eq_append, L2.atI_last] <;> simp
theorem bindP_nm (i : Nat) (d : D) (env : Ev) : bindP (.nm i) d env = some (env.set i (some d)) := by rw [bindP]
theorem bindP_tp (ps : Pats) (ds : List D) (env : Ev) : bindP (.tp ps) (.tup ds) env = bindPs ps ds env := by rw [bindP]
theorem bindPs_nil (env : Ev) : bindPs .nil [] env = some env := by rw [bindPs]
theorem bindPs_cons (p : Pat) (ps : Pats) (d : D) (ds : List D) (env : Ev) : bindPs (.cons p ps) (d :: ds) env = match bindP p d env with
    | some env1 => bindPs ps ds env1
    | none => none := by
  rw [bindPs] <;> (cases bindP p d env <;> rfl)
end Dn

set_option Elab.async false
set_option linter.all false
set_option maxRecDepth 100000
set_option maxHeartbeats 1000000
namespace Dn
open PySem
open L2 (atI ixN)
/-! ### one statement after another; closed shapes of the operators -/
section
variable {R : Nat → FD} {cs : Cst} {E : En} {env : Ev} {M : MH}
theorem denSs_cons (s : Stm) (r : Stms) : denSs R cs (.cons s r) E env M = denSt R cs s { E with nx := denSs R cs r E } env M := by rw [denSs]; rfl
theorem denSs_nil : denSs R cs .nil E env M = E.nx env M := by rw [denSs]; rfl
theorem denSs_end {f : Ev → MH → Prop} {r : D → MH → Prop} {b c : Ev → MH → Prop} : denSs R cs .nil { nx := f, rt := r, bk := b, ct := c } env M = f env M := denSs_nil
end
theorem py_i {M : MH} {n : Nat} {a : Int} : py M (n + 1) (.int a) = some (.int a) := by simp [py]
theorem py_s {M : MH} {n : Nat} {a : Str} : py M (n + 1) (.str a) = some (.str a) := by simp [py]
theorem py_b {M : MH} {n : Nat} {a : Bool} : py M (n + 1) (.bl a) = some (.bool a) := by simp [py]
theorem py_n {M : MH} {n : Nat} : py M (n + 1) .non = some .none := by simp [py]
theorem py_t {M : MH} {n : Nat} {ds : List D} : py M (n + 1) (.tup ds) = (pys (py M n) ds).map .tuple := by simp [py]
theorem eqv_i {a b : Int} : PyData.eqv (.int a) (.int b) = decide (a = b) := by
  rw [PyData.eqv]; by_cases h : a = b <;> simp [h]
theorem eqv_s {a b : Str} : PyData.eqv (.str a) (.str b) = decide (a = b) := by
  rw [PyData.eqv]; by_cases h : a = b <;> simp [h]
variable {M : MH} {Q : D → MH → Prop}
theorem dAdd_ii (i j : Int) : dAdd (.int i) (.int j) M Q = Q (.int (i + j)) M := rfl
theorem dSub_ii (i j : Int) : dSub (.int i) (.int j) M Q = Q (.int (i - j)) M := rfl
theorem dMul_ii (i j : Int) : dMul (.int i) (.int j) M Q = (MulOk i j ∧ Q (.int (i * j)) M) := rfl
theorem dFdiv_ii (i j : Int) : dFdiv (.int i) (.int j) M Q = ((j ≠ 0 ∧ j.natAbs < 1073741824) ∧ Q (.int (i.fdiv j)) M) := rfl
theorem dMod_ii (i j : Int) : dMod (.int i) (.int j) M Q = (j ≠ 0 ∧ Q (.int (i.fmod j)) M) := rfl
theorem dAdd_tt (a b : List D) : dAdd (.tup a) (.tup b) M Q = (a.length + b.length ≤ LN ∧ Q (.tup (a ++ b)) M) := rfl
theorem dAdd_rr {p q : Addr} {a b : List D} (h1 : M p = some (.lst a)) (h2 : M q = some (.lst b)) : dAdd (.ref p) (.ref q) M Q = (a.length + b.length ≤ LN ∧ ∀ r, M r = none → Q (.ref r) (up M r (.lst (a ++ b)))) := by
  unfold dAdd; simp only [h1, h2]
theorem dMul_ti (a : List D) (k : Int) : dMul (.tup a) (.int k) M Q = (k < 2 ^ 62 ∧ -(2 ^ 62) < k ∧ a.length * k.toNat ≤ LN ∧ Q (.tup (List.replicate k.toNat a).flatten) M) := rfl
theorem dMul_ri {p : Addr} {a : List D} (h : M p = some (.lst a)) (k : Int) : dMul (.ref p) (.int k) M Q = (k < 2 ^ 62 ∧ -(2 ^ 62) < k ∧ a.length * k.toNat ≤ LN ∧ ∀ r, M r = none → Q (.ref r) (up M r (.lst (List.replicate k.toNat a).flatten))) := by
  unfold dMul; simp only [h]
theorem dEq_ii (i j : Int) : dEq (.int i) (.int j) M Q = Q (.bl (decide (i = j))) M := by
  simp only [dEq, py_i, eqv_i]
theorem dNe_ii (i j : Int) : dNe (.int i) (.int j) M Q = Q (.bl (!decide (i = j))) M := by
  simp only [dNe, py_i, eqv_i]
theorem dEq_ss (i j : Str) : dEq (.str i) (.str j) M Q = Q (.bl (decide (i = j))) M := by
  simp only [dEq, py_s, eqv_s]
theorem dLe_ii (i j : Int) : dLe (.int i) (.int j) M Q = Q (.bl (decide (i ≤ j))) M := rfl
theorem dGt_ii (i j : Int) : dGt (.int i) (.int j) M Q = Q (.bl (decide (j < i))) M := rfl
theorem dGe_ii (i j : Int) : dGe (.int i) (.int j) M Q = Q (.bl (decide (j ≤ i))) M := rfl
theorem dIx_ti (ds : List D) (i : Int) {d : D} (h : atI ds i = some d) : dIx (.tup ds) (.int i) M Q = Q d M := by
  unfold dIx; simp only [h]
theorem dIx_ri {p : Addr} {ds : List D} (i : Int) {d : D} (hp : M p = some (.lst ds)) (h : atI ds i = some d) : dIx (.ref p) (.int i) M Q = Q d M := by
  unfold dIx; simp only [rdL_lst hp, h]
theorem fLen_t (ds : List D) : fLen [.tup ds] M Q = Q (.int ds.length) M := rfl
theorem fLen_l {p : Addr} {ds : List D} (h : M p = some (.lst ds)) : fLen [.ref p] M Q = Q (.int ds.length) M := by
  unfold fLen; simp only [h]
theorem fTuple_l {p : Addr} {ds : List D} (h : M p = some (.lst ds)) : fTuple [.ref p] M Q = Q (.tup ds) M := by
  unfold fTuple; simp only [rdL_lst h]
theorem fTuple_t {ds : List D} : fTuple [.tup ds] M Q = Q (.tup ds) M := rfl
theorem dRng1_k {env : Ev} {t : TDs} {N : List D → (MH → Prop) → MH → Prop} (h : t env M fun ds M1 => ∃ k : Nat, ds = [.int k] ∧ k < 1000000 ∧ N (rgD 0 1 k) (fun _ => True) M1) (mono : ∀ (Q Q' : List D → MH → Prop), (∀ d M', Q d M' → Q' d M') → t env M Q → t env M Q') : dRng1 t env M N := by
  unfold dRng1
  refine mono _ _ (fun ds M' ⟨k, e, hk, q⟩ => ?_) h
  subst e
  refine ⟨by omega, ?_⟩
  rw [Int.toNat_natCast]
  exact q
end Dn

set_option Elab.async false
set_option linter.all false
set_option maxRecDepth 100000
set_option maxHeartbeats 2000000
namespace K10
open PySem Dn
open L2 (atI ixN)
abbrev F (n i : Nat) : FD := runF T.cs tab n i
theorem F_succ {n i : Nat} {r : FnR} (h : tab[i]? = some r) (ds : List D) (M : MH) (Q : D → MH → Prop) : F (n + 1) i ds M Q = (ds.length = r.ps.length ∧ denSs (F n) T.cs r.ir { nx := fun _ M' => Q .non M', rt := Q } (startE r.N.length ds) M) := by
  show runF T.cs tab (n + 1) i ds M Q = _
  rw [runF]
  simp only [h]
local macro_rules | `(tactic| walk_at "dn") => `(tactic| simp only [denSs, denSt, denE, denEs, denT, denTB, denB, denO, denI, denS, dSeqS, dNext, dRet, dRetN, dDrop, dIfS, dAsg, dTup, dLst, dCons, dNil, dOp, dVar, dC, Cn.d, dBin, dCmp, dF, dTB, dAnd, dOr, dNot, dAndV, dOrV, dNotV, dIf, dChain, dSl, dPart, dNoPart, dMt, dSeq, dRev, dLc, dLc2, dFor, dWhile, dPar, dSetS, dAug, dAugS, dAsgL, dNeg, dIsi, Bi.den, Mt.den, startE, bindP_nm, bindP_tp, bindPs_nil, bindPs_cons,
  List.map_cons, List.map_nil, List.length_cons, List.length_nil, Nat.reduceAdd, Nat.reduceSub, Nat.zero_add, List.replicate, List.replicate_zero, List.cons_append, List.nil_append, List.append_nil, List.getElem?_cons_zero, List.getElem?_cons_succ, List.set_cons_zero, List.set_cons_succ, Dn.wp, if_true, if_false, Bool.false_eq_true, ite_true, ite_false])
theorem ln2 {n : Nat} (h : n ≤ 16777216 := by decide) : n ≤ LN := h
def inv (p : Sp) : Sp := (p.1, 0 - p.2)
theorem sp_contrary (n : Nat) (p : Sp) : Pure (F (n + 1) 4) [spD p] (spD (inv p)) := by
  intro M Q h
  rw [F_succ (r := f_contrary) rfl]
  refine ⟨rfl, ?_⟩
  simp only [f_contrary, i_contrary]
  walk_at "dn"
  exact ⟨ln2, h M .refl⟩
def undo (r : List Sp) : List Sp := r.reverse.map inv
theorem sp_undoing (n : Nat) (r : List Sp) (hl : r.length ≤ LN) : Pure (F (n + 2) 5) [rowD r] (rowD (undo r)) := by
  intro M Q h
  rw [F_succ (r := f_undoing) rfl]
  refine ⟨rfl, ?_⟩
  simp only [f_undoing, i_undoing]
  walk_at "dn"
  simp only [rowD]
  refine lc_map (Q := fun d M1 => fTuple [d] M1 Q) (fun d => match d with
    | .tup [.str c, .int s] => .tup [.str c, .int (0 - s)]
    | d => d) (fun _ _ _ _ => trivial) (by simpa using hl) (fun d hd => ?_) fun D M' hD x e => ?_
  · rw [List.mem_reverse, List.mem_map] at hd
    obtain ⟨p, _, rfl⟩ := hd
    refine ⟨_, rfl, fun M' Q' x k => ?_⟩
    walk_at "dn"
    exact sp_contrary n p M' Q' k
  · unfold fTuple
    simp only [rdL_lst e]
    have := h M' x
    simp only [undo, rowD, List.map_reverse, List.map_map] at this ⊢
    exact this
/-- the letters taken back, one step after another -/
def redL : List Sp → List Sp → List Sp
  | acc, [] => acc
  | acc, s :: ss => if acc.getLast? = some (inv s) then redL acc.dropLast ss else redL (acc ++ [s]) ss
def red (r : List Sp) : List Sp := redL [] r
theorem py_nil {M : MH} {p : Addr} (h : rdL M p = some []) : py M 12 (.ref p) = some (.list []) := by
  simp [py, h, pys]
theorem ne_nil (xs : List PyData) : PyData.eqv (.list xs) (.list []) = xs.isEmpty := by
  cases xs <;> simp [PyData.eqv, PyData.eqvAll]

/-- the loop of shortened -/
theorem loop_short {G : MH → Prop} (n c : Nat) (hc : ∀ p, Pure (F (n + 1) c) [spD p] (spD (inv p))) (r : D) (E : En) (a : Addr) (body : TDS) (hb : body = denSs (F (n + 1)) T.cs (.cons (.ite (.bop true (.cons (.cmp .NotEq (.var 1) (.lst .nil)) (.cons (.cmp .Eq (.ix (.var 1) (.neg (.cst (.int 1)))) (.call c (.cons (.var 2) .nil))) .nil))) (.cons (.expr (.mt .pop (.var 1) .nil))
    .nil) (.cons (.expr (.mt .append (.var 1) (.cons (.var 2) .nil)))
    .nil))
    .nil)) : ∀ (ss acc : List Sp) (x : Option D) (M : MH), (∀ M', ExtB a M M' → G M') → M a = some (.lst (acc.map spD)) → acc.length + ss.length ≤ LN →
    (∀ x' M', ExtB a M M' → M' a = some (.lst ((redL acc ss).map spD)) → E.nx [some r, some (.ref a), x'] M') → dLoop (.nm 2) body G E (ss.map spD) [some r, some (.ref a), x] M
  | [], acc, x, M, hG, h, _, k => ⟨hG M .refl, k x M .refl h⟩
  | s :: ss, acc, x, M, hG, h, hl, k => by
    have ih := loop_short (G := G) n c hc r E a body hb ss
    simp only [List.length_cons] at hl
    rw [List.map_cons]
    refine ⟨hG M .refl, ?_⟩
    simp only [bindP_nm, List.set_cons_zero, List.set_cons_succ]
    generalize hL : dLoop (.nm 2) body G E (List.map spD ss) = L at ih ⊢
    rw [hb]
    walk_at "dn"
    refine ⟨ln2, fun p hp => ?_⟩
    have ha : a ≠ p := ne_new h hp
    have e0 : up M p (.lst []) a = some (.lst (acc.map spD)) := by rw [up_ne ha]; exact h
    have e1 := rdL_lst e0
    have x1 : Ext M (up M p (.lst [])) := .up hp
    generalize hM : up M p (.lst []) = M1 at e0 e1 x1 ⊢
    have ep : M1 p = some (.lst []) := by rw [← hM]; exact up_same
    simp only [dNe, py_lst 9 e1, py_nil (rdL_lst ep), ne_nil]
    have push : acc.getLast? ≠ some (inv s) → ∀ M2, Ext M1 M2 → isLst (.ref a) M2 ∧ mAppend (.ref a) [spD s] M2 fun _ M3 => L [some r, some (.ref a), some (spD s)] M3 := by
      intro hg M2 x2
      have e2 := x2 a _ e0
      refine ⟨⟨_, e2⟩, ?_⟩
      simp only [mAppend, onL, e2]
      refine ⟨by simp; omega, ?_⟩
      refine ih (acc ++ [s]) _ _ (fun M3 x3 => hG M3 ((x1.b.trans x2.b).trans (ExtB.up.trans x3))) (by rw [up_same]; simp) (by simp; omega) fun x' M' x3 e => k x' M' ((x1.b.trans x2.b).trans (ExtB.up.trans x3)) ?_
      rw [e, redL, if_neg hg]
    have pop : acc.getLast? = some (inv s) → ∀ M2, Ext M1 M2 → isLst (.ref a) M2 ∧ mPop (.ref a) [] M2 fun _ M3 => L [some r, some (.ref a), some (spD s)] M3 := by
      intro hg M2 x2
      have e2 := x2 a _ e0
      refine ⟨⟨_, e2⟩, ?_⟩
      simp only [mPop, onL, e2]
      have hl2 : (acc.map spD)[(acc.map spD).length - 1]? = some (spD (inv s)) := by
        rw [← List.getLast?_eq_getElem?, List.getLast?_map, hg]
        rfl
      rw [hl2]
      refine ih acc.dropLast _ _ (fun M3 x3 => hG M3 ((x1.b.trans x2.b).trans (ExtB.up.trans x3))) (by rw [up_same, List.map_dropLast]) (by simp; omega) fun x' M' x3 e => k x' M' ((x1.b.trans x2.b).trans (ExtB.up.trans x3)) ?_
      rw [e, redL, if_pos hg]
    cases hacc : acc with
    | nil =>
      simp only [List.map_nil, List.isEmpty_nil, Bool.not_true, Bool.false_eq_true, if_false]
      exact push (by rw [hacc]; simp) M1 .refl
    | cons b bs =>
      rw [← hacc]
      have hne : acc ≠ [] := by rw [hacc]; simp
      have hz : (acc.map spP).isEmpty = false := by rw [hacc]; rfl
      simp only [hz, Bool.not_false, if_true, dIx, e1, atI_neg1, List.getLast?_map]
      obtain ⟨t, ht⟩ : ∃ t, acc.getLast? = some t := by
        rw [List.getLast?_eq_some_getLast hne]
        exact ⟨_, rfl⟩
      rw [ht]
      simp only [Option.map_some]
      refine hc s M1 _ fun M2 x2 => ?_
      simp only [dEq, py_sp M2 10, eqv_sp]
      by_cases q : t = inv s
      · rw [decide_eq_true q, if_pos rfl]
        exact pop (by rw [ht, q]) M2 x2
      · rw [decide_eq_false q, if_neg Bool.false_ne_true]
        exact push (by rw [ht]; simpa using q) M2 x2
theorem sp_shortened (n : Nat) (r : List Sp) (hl : r.length ≤ LN) : Pure (F (n + 2) 6) [rowD r] (rowD (red r)) := by
  intro M Q h
  rw [F_succ (r := f_shortened) rfl]
  refine ⟨rfl, ?_⟩
  simp only [f_shortened, i_shortened]
  walk_at "dn"
  refine ⟨ln2, fun p hp => ?_⟩
  have e0 : up M p (.lst []) p = some (.lst []) := up_same
  simp only [rowD]
  refine loop_short n 4 (sp_contrary n) _ _ p _ rfl r [] _ _ (fun _ _ => trivial) e0 (by simpa using hl) fun x' M' x e => ?_
  walk_at "dn"
  unfold fTuple
  simp only [rdL_lst e]
  exact h M' (x.new hp)
theorem sp_shortened_list (n : Nat) (r : List Sp) (hl : r.length ≤ LN) (b : Addr) (M : MH) (hb : rdL M b = some (r.map spD)) (Q : D → MH → Prop) (h : ∀ M', Ext M M' → Q (rowD (red r)) M') : F (n + 2) 6 [.ref b] M Q := by
  rw [F_succ (r := f_shortened) rfl]
  refine ⟨rfl, ?_⟩
  simp only [f_shortened, i_shortened]
  walk_at "dn"
  refine ⟨ln2, fun p hp => ?_⟩
  have e0 : up M p (.lst []) p = some (.lst []) := up_same
  have x0 : Ext M (up M p (.lst [])) := .up hp
  simp only [rdL_ext x0 hb]
  have hbp : b ≠ p := by
    rintro rfl
    unfold rdL at hb
    rw [hp] at hb
    cases hb
  refine loop_short n 4 (sp_contrary n) _ _ p _ rfl r [] _ _ (fun M3 x3 => rdL_extB hbp x3 (rdL_ext x0 hb)) e0 (by simpa using hl) fun x' M' x e => ?_
  walk_at "dn"
  unfold fTuple
  simp only [rdL_lst e]
  exact h M' (x.new hp)
theorem redL_len : ∀ (ss acc : List Sp), (redL acc ss).length ≤ acc.length + ss.length
  | [], acc => by simp [redL]
  | s :: ss, acc => by
    rw [redL]
    split
    · have := redL_len ss acc.dropLast
      simp at this ⊢
      omega
    · have := redL_len ss (acc ++ [s])
      simp at this ⊢
      omega
theorem red_len (r : List Sp) : (red r).length ≤ r.length := by
  have := redL_len r []
  simpa [red] using this
theorem undo_len (r : List Sp) : (undo r).length = r.length := by simp [undo]
theorem rowD_app (a b : List Sp) : D.tup (a.map spD ++ b.map spD) = rowD (a ++ b) := by simp [rowD]
theorem sp_joined (n : Nat) (a b : List Sp) (hl : a.length + b.length ≤ LN) : Pure (F (n + 3) 8) [rowD a, rowD b] (rowD (red (a ++ b))) := by
  intro M Q h
  rw [F_succ (r := f_joined) rfl]
  refine ⟨rfl, ?_⟩
  simp only [f_joined, i_joined]
  walk_at "dn"
  simp only [rowD, dAdd, List.length_map]
  refine ⟨hl, ?_⟩
  rw [rowD_app]
  exact sp_shortened n (a ++ b) (by simpa using hl) M Q h
end K10

set_option Elab.async false
set_option linter.all false
set_option maxRecDepth 100000
set_option maxHeartbeats 2000000
namespace K10
open PySem Dn
open L2 (atI ixN)
local macro_rules | `(tactic| walk_at "dn") => `(tactic| simp only [denSs, denSt, denE, denEs, denT, denTB, denB, denO, denI, denS, dSeqS, dNext, dRet, dRetN, dDrop, dIfS, dAsg, dTup, dLst, dCons, dNil, dOp, dVar, dC, Cn.d, dBin, dCmp, dF, dTB, dAnd, dOr, dNot, dAndV, dOrV, dNotV, dIf, dChain, dSl, dPart, dNoPart, dMt, dSeq, dRev, dLc, dLc2, dFor, dPar, dSetS, dAug, dAugS, dAsgL, dNeg, dIsi, Bi.den, Mt.den, startE, bindP_nm, bindP_tp, bindPs_nil, bindPs_cons,
  List.map_cons, List.map_nil, List.length_cons, List.length_nil, Nat.reduceAdd, Nat.reduceSub, Nat.zero_add, List.replicate, List.replicate_zero, List.cons_append, List.nil_append, List.append_nil, List.getElem?_cons_zero, List.getElem?_cons_succ, List.set_cons_zero, List.set_cons_succ, Dn.wp, if_true, if_false, Bool.false_eq_true, ite_true, ite_false])

/-! ### parted -/
def stalkF (its : List Sp) : Nat → Nat → Nat
  | 0, s => s
  | f + 1, s => if 2 * s + 1 < its.length ∧ its[s]? = (its[its.length - 1 - s]?).map inv then stalkF its f (s + 1) else s
def stalkOf (its : List Sp) : Nat := stalkF its its.length 0
theorem stalkF_le (its : List Sp) : ∀ f s, s ≤ its.length → stalkF its f s ≤ its.length
  | 0, s, h => h
  | f + 1, s, h => by
    rw [stalkF]
    split
    · rename_i c; exact stalkF_le its f (s + 1) (by omega)
    · exact h
theorem lt_int {a b : Int} : ltP (.int a) (.int b) = some (decide (a < b)) := by rw [ltP]
theorem py_int {M : MH} {n : Nat} {a : Int} : py M (n + 1) (.int a) = some (.int a) := by simp [py]
theorem eqv_int {a b : Int} : PyData.eqv (.int a) (.int b) = decide (a = b) := by
  simp [PyData.eqv]
  by_cases h : a = b <;> simp [h]
theorem mul2 {a : Int} : MulOk 2 a := .inl (by decide)
/-- the test of the loop, its stalk in slot k of env -/
theorem cond_stalk (n : Nat) (its : List Sp) (s : Nat) (env : Ev) (i k : Nat) (hi : env[i]? = some (some (rowD its))) (hk : env[k]? = some (some (.int s))) (M : MH) (Q : Bool → MH → Prop)
    (h : ∀ M', Ext M M' → Q (decide (2 * s + 1 < its.length ∧ its[s]? = (its[its.length - 1 - s]?).map inv)) M') :
    denT (F (n + 1)) T.cs (.bop true (.cons (.cmp .Lt (.bin .Add (.bin .Mult (.cst (.int 2)) (.var k)) (.cst (.int 1))) (.bi .len (.cons (.var i) .nil))) (.cons (.cmp .Eq (.ix (.var i) (.var k)) (.call 4 (.cons (.ix (.var i) (.bin .Sub (.bin .Sub (.bi .len (.cons (.var i) .nil)) (.cst (.int 1))) (.var k))) .nil))) .nil))) env M Q := by
  walk_at "dn"
  simp only [hi, hk, rowD, fLen, dMul, dAdd, dLt, py_int, lt_int, List.length_map, mul2, true_and]
  by_cases h1 : 2 * s + 1 < its.length
  · rw [if_pos (by simp; omega)]
    have hs : s < its.length := by omega
    have hs2 : its.length - 1 - s < its.length := by omega
    simp only [dIx, dSub]
    rw [atI_map, atI_cast its s hs, List.getElem?_eq_getElem hs]
    have e2 : (its.length : Int) - 1 - (s : Int) = ((its.length - 1 - s : Nat) : Int) := by omega
    rw [e2, atI_map, atI_cast its _ hs2, List.getElem?_eq_getElem hs2]
    simp only [Option.map_some]
    refine sp_contrary n _ M _ fun M2 x2 => ?_
    simp only [dEq, py_sp M2 10, eqv_sp]
    have := h M2 x2
    simpa [h1, List.getElem?_eq_getElem hs, List.getElem?_eq_getElem hs2] using this
  · rw [if_neg (by simp; omega)]
    have := h M .refl
    simpa [h1] using this
theorem loop_stalk (n : Nat) (its : List Sp) (i k : Nat) (E : En) (pre : Int → Ev) (hi : ∀ s, (pre s)[i]? = some (some (rowD its))) (hk : ∀ s, (pre s)[k]? = some (some (.int s))) (hs : ∀ s t, (pre s).set k (some (.int t)) = pre t) :
    ∀ (f s : Nat) (M : MH), s ≤ its.length → its.length ≤ s + f → (∀ M', Ext M M' → E.nx (pre (stalkF its f s)) M') →
    dWh (denT (F (n + 1)) T.cs (.bop true (.cons (.cmp .Lt (.bin .Add (.bin .Mult (.cst (.int 2)) (.var k)) (.cst (.int 1))) (.bi .len (.cons (.var i) .nil))) (.cons (.cmp .Eq (.ix (.var i) (.var k)) (.call 4 (.cons (.ix (.var i) (.bin .Sub (.bin .Sub (.bi .len (.cons (.var i) .nil)) (.cst (.int 1))) (.var k))) .nil))) .nil))))
      (denSs (F (n + 1)) T.cs (.cons (.aug k .Add (.cst (.int 1))) .nil)) E (f + 1) (pre s) M
  | 0, s, M, h1, h2, q => by
    rw [dWh]
    refine cond_stalk n its s _ i k (hi s) (hk s) M _ fun M' x => ?_
    rw [if_neg (by simp; omega)]
    exact q M' x
  | f + 1, s, M, h1, h2, q => by
    rw [dWh]
    refine cond_stalk n its s _ i k (hi s) (hk s) M _ fun M' x => ?_
    by_cases c : 2 * s + 1 < its.length ∧ its[s]? = (its[its.length - 1 - s]?).map inv
    · rw [decide_eq_true c, if_pos rfl]
      have ih := loop_stalk n its i k E pre hi hk hs f (s + 1) M' (by omega) (by omega) fun M2 x2 => by
        have := q M2 (x.trans x2)
        rwa [stalkF, if_pos c] at this
      generalize hL : dWh _ _ E (f + 1) = L at ih ⊢
      walk_at "dn"
      simp only [hk, iopD, hs]
      have e : ((s : Int) + 1) = ((s + 1 : Nat) : Int) := by omega
      rw [e]
      exact ih
    · rw [decide_eq_false c, if_neg Bool.false_ne_true]
      have := q M' x
      rwa [stalkF, if_neg c] at this
def partedL (r : List Sp) : List Sp × List Sp := ((red r).take (stalkOf (red r)), ((red r).drop (stalkOf (red r))).take ((red r).length - 2 * stalkOf (red r)))
theorem sp_parted (n : Nat) (r : List Sp) (hl : r.length ≤ LN) : Pure (F (n + 3) 11) [rowD r] (.tup [rowD (partedL r).1, rowD (partedL r).2]) := by
  intro M Q h
  rw [F_succ (r := f_parted) rfl]
  refine ⟨rfl, ?_⟩
  simp only [f_parted, i_parted]
  walk_at "dn"
  refine sp_shortened (n + 0) r hl M _ fun M1 x1 => ⟨trivial, ?_⟩
  simp only [List.zip_cons_cons, List.zip_nil_right, List.foldl_cons, List.foldl_nil, List.set_cons_zero, List.set_cons_succ]
  refine ⟨(red r).length + 1, ?_⟩
  refine loop_stalk (n + 1) (red r) 1 2 _ (fun s => [some (rowD r), some (rowD (red r)), some (.int s)]) (fun _ => rfl) (fun _ => rfl) (fun _ _ => rfl) (red r).length 0 M1 (Nat.zero_le _) (by omega) fun M2 x2 => ?_
  have hs := stalkF_le (red r) (red r).length 0 (Nat.zero_le _)
  generalize hst : stalkF (red r) (red r).length 0 = s at hs ⊢
  walk_at "dn"
  have e2 : ((red r).length : Int) - (s : Int) = (((red r).length - s : Nat) : Int) := by omega
  simp only [rowD, fLen, dSub, List.length_map, e2, cut_map, cutA_to, cutA_nat (red r) s ((red r).length - s) (by omega)]
  refine ⟨ln2, ?_⟩
  have := h M2 (x1.trans x2)
  simp only [partedL, stalkOf, hst, rowD] at this
  rw [show (red r).length - s - s = (red r).length - 2 * s by omega]
  exact this

/-! ### least_part, root -/
theorem fmod_nat (a b : Nat) : (a : Int).fmod (b : Int) = ((a % b : Nat) : Int) := by
  rw [Int.fmod_eq_emod_of_nonneg _ (by omega)]
  rfl
theorem fdiv_nat (a b : Nat) : (a : Int).fdiv (b : Int) = ((a / b : Nat) : Int) := by
  rw [Int.fdiv_eq_ediv_of_nonneg _ (by omega)]
  rfl
def repl (k : Nat) (r : List Sp) : List Sp := (List.replicate k r).flatten
theorem repl_len (k : Nat) (r : List Sp) : (repl k r).length = k * r.length := by simp [repl]
theorem repl_map (k : Nat) (r : List Sp) : (List.replicate k (r.map spD)).flatten = (repl k r).map spD := by
  induction k with
  | zero => rfl
  | succ k ih => rw [List.replicate_succ, List.flatten_cons, ih, repl, repl, List.replicate_succ, List.flatten_cons, List.map_append]
def lpL (ring : List Sp) : List Nat → List Sp × Nat
  | [] => ([], 0)
  | k :: ks => if ring.length % k = 0 ∧ ring = repl (ring.length / k) (ring.take k) then (ring.take k, ring.length / k) else lpL ring ks
def leastPart (ring : List Sp) : List Sp × Nat := lpL ring (List.range' 1 ring.length)
theorem rgD_nat (n : Nat) : rgD 1 1 n = (List.range' 1 n).map fun (k : Nat) => D.int (k : Int) := by
  unfold rgD
  rw [List.range'_eq_map_range, List.map_map]
  apply List.map_congr_left
  intro i _
  simp
theorem loop_lp (n : Nat) (ring : List Sp) (hl : ring.length ≤ LN) (E : En) (body : TDS) (hb : body = denSs (F n) T.cs (.cons (.ite (.bop true (.cons (.cmp .Eq (.bin .Mod (.var 1) (.var 2)) (.cst (.int 0))) (.cons (.cmp .Eq (.var 0) (.bin .Mult (.sl (.var 0) .non (.som (.var 2))) (.bin .FloorDiv (.var 1) (.var 2)))) .nil))) (.cons (.ret (.tup (.cons (.sl (.var 0) .non (.som (.var 2))) (.cons (.bin .FloorDiv (.var 1) (.var 2)) .nil))))
    .nil) .nil)
    .nil)) (Q : D → MH → Prop) (hE : E.rt = Q) : ∀ (ks : List Nat) (x : Option D) (M : MH), (∀ k ∈ ks, 1 ≤ k ∧ k ≤ LN) →
    (∀ x, E.nx [some (rowD ring), some (.int ring.length), x] M → E.nx [some (rowD ring), some (.int ring.length), x] M) → ((∀ x, E.nx [some (rowD ring), some (.int ring.length), x] M = Q (.tup [rowD [], .int 0]) M)) → Q (.tup [rowD (lpL ring ks).1, .int (lpL ring ks).2]) M →
    dLoop (.nm 2) body (fun _ => True) E (ks.map fun (k : Nat) => D.int (k : Int)) [some (rowD ring), some (.int ring.length), x] M
  | [], x, M, _, _, hx, q => ⟨trivial, by rw [hx]; exact q⟩
  | k :: ks, x, M, hk, h1, hx, q => by
    have ih := loop_lp n ring hl E body hb Q hE ks (some (.int k)) M (fun y hy => hk y (List.mem_cons_of_mem _ hy)) h1 hx
    obtain ⟨k1, k2⟩ := hk k List.mem_cons_self
    rw [List.map_cons]
    refine ⟨trivial, ?_⟩
    simp only [bindP_nm, List.set_cons_zero, List.set_cons_succ]
    generalize hL : dLoop (.nm 2) body (fun _ => True) E _ = L at ih ⊢
    rw [hb]
    walk_at "dn"
    simp only [dMod, dEq, py_int, eqv_int]
    refine ⟨by omega, ?_⟩
    rw [fmod_nat]
    by_cases c1 : ring.length % k = 0
    · rw [if_pos (by simp [c1])]
      have hkl : k ≤ LN := k2
      have hkk : (k : Int) ≠ 0 ∧ (k : Int).natAbs < 1073741824 := ⟨by omega, by simp [LN] at hkl ⊢; omega⟩
      simp only [rowD, dFdiv, cut_map, cutA_to, dMul]
      refine ⟨hkk, ?_⟩
      have hdiv : ring.length / k ≤ ring.length := Nat.div_le_self _ _
      have hlen : (List.take k ring).length * (ring.length / k) ≤ ring.length := by
        rw [List.length_take]
        calc min k ring.length * (ring.length / k) ≤ k * (ring.length / k) := Nat.mul_le_mul_right _ (Nat.min_le_left _ _)
          _ ≤ ring.length := Nat.mul_div_le _ _
      have ef : (ring.length : Int).fdiv (k : Int) = ((ring.length / k : Nat) : Int) := fdiv_nat _ _
      rw [ef]
      rw [lpL] at q
      generalize hq : ring.length / k = d at hdiv hlen q ⊢
      have hb : -2 ^ 62 < (d : Int) ∧ (d : Int) < 2 ^ 62 := by simp [LN] at hl; omega
      refine ⟨by simp [LN] at hl; omega, by simp [LN] at hl; omega, by simpa using Nat.le_trans hlen hl, ?_⟩
      rw [Int.toNat_natCast, repl_map]
      have p1 := py_row M 9 ring
      have p2 := py_row M 9 (repl d (ring.take k))
      simp only [rowD] at p1 p2
      simp only [p1, p2, eqv_row]
      by_cases c2 : ring = repl d (ring.take k)
      · rw [decide_eq_true c2, if_pos rfl]
        rw [if_pos ⟨c1, c2⟩] at q
        refine ⟨hkk, ln2, ?_⟩
        rw [hE]
        exact q
      · rw [decide_eq_false c2, if_neg Bool.false_ne_true]
        rw [if_neg (fun z => c2 z.2)] at q
        exact ih q
    · rw [if_neg (by simp; exact_mod_cast c1)]
      rw [lpL, if_neg (fun z => c1 z.1)] at q
      exact ih q
theorem sp_least_part (n : Nat) (ring : List Sp) (hl : ring.length < LN) : Pure (F (n + 1) 17) [rowD ring] (.tup [rowD (leastPart ring).1, .int (leastPart ring).2]) := by
  intro M Q h
  rw [F_succ (r := f_least_part) rfl]
  refine ⟨rfl, ?_⟩
  simp only [f_least_part, i_least_part]
  walk_at "dn"
  simp only [rowD, fLen, List.length_map, dRng2, dAdd]
  walk_at "dn"
  have hl' : (ring.length : Int) < 16777216 := by simp [LN] at hl; omega
  refine ⟨⟨by omega, by omega, by omega, by omega⟩, ?_⟩
  have e : ((ring.length : Int) + 1 - 1).toNat = ring.length := by omega
  rw [e, rgD_nat]
  refine loop_lp n ring (Nat.le_of_lt hl) _ _ rfl Q rfl _ none M (fun k hk => ?_) (fun _ z => z) (fun x => ?_) (h M .refl)
  · rw [List.mem_range'] at hk
    obtain ⟨i, h1, h2⟩ := hk
    simp [LN] at hl ⊢
    omega
  · walk_at "dn"
    simp [LN, rowD]
end K10

set_option Elab.async false
set_option linter.all false
set_option maxRecDepth 100000
set_option maxHeartbeats 2000000
namespace K10
open PySem Dn
open L2 (atI ixN)
local macro_rules | `(tactic| walk_at "dn") => `(tactic| simp only [denSs, denSt, denE, denEs, denT, denTB, denB, denO, denI, denS, dSeqS, dNext, dRet, dRetN, dDrop, dIfS, dAsg, dTup, dLst, dCons, dNil, dOp, dVar, dC, Cn.d, dBin, dCmp, dF, dTB, dAnd, dOr, dNot, dAndV, dOrV, dNotV, dIf, dChain, dSl, dPart, dNoPart, dMt, dSeq, dRev, dLc, dLc2, dFor, dPar, dSetS, dAug, dAugS, dAsgL, dNeg, dIsi, Bi.den, Mt.den, startE, bindP_nm, bindP_tp, bindPs_nil, bindPs_cons,
  List.map_cons, List.map_nil, List.length_cons, List.length_nil, Nat.reduceAdd, Nat.reduceSub, Nat.zero_add, List.replicate, List.replicate_zero, List.cons_append, List.nil_append, List.append_nil, List.getElem?_cons_zero, List.getElem?_cons_succ, List.set_cons_zero, List.set_cons_succ, Dn.wp, if_true, if_false, Bool.false_eq_true, ite_true, ite_false])

/-! ### comprehensions over what comes from a list -/
theorem lc_A {α : Type} {p : Pat} {te : TD} {G : MH → Prop} {env : Ev} {M : MH} {N : Addr → MH → Prop} (l : List α) (g f : α → D) (hG : ∀ D M2, M D = none → ExtB D M M2 → G M2) (hl : l.length ≤ LN)
    (he : ∀ a ∈ l, ∃ env2, bindP p (g a) env = some env2 ∧ ∀ M' (Q : D → MH → Prop), Ext M M' → (∀ M2, Ext M' M2 → Q (f a) M2) → te env2 M' Q) (k : ∀ D M', M D = none → Ext M M' → M' D = some (.lst (l.map f)) → N D M') (D : Addr) (hD : M D = none) :
    dLcL p dYes te G env (N D) D (l.map g) (up M D (.lst [])) := by
  have key : ∀ (l : List α), (∀ a ∈ l, ∃ env2, bindP p (g a) env = some env2 ∧ ∀ M' (Q : Dn.D → MH → Prop), Ext M M' → (∀ M2, Ext M' M2 → Q (f a) M2) → te env2 M' Q) → ∀ (acc : List Dn.D) (M1 : MH), ExtB D M M1 → M1 D = some (.lst acc) → acc.length + l.length ≤ LN →
      (∀ M', ExtB D M M' → M' D = some (.lst (acc ++ l.map f)) → N D M') → dLcL p dYes te G env (N D) D (l.map g) M1 := by
    intro l
    induction l with
    | nil => intro _ acc M1 x e _ k; exact ⟨hG D M1 hD x, k M1 x (by simpa using e)⟩
    | cons d ds ih =>
      intro he acc M1 x e hl k
      obtain ⟨env2, e1, e2⟩ := he d List.mem_cons_self
      rw [List.map_cons]
      refine ⟨hG D M1 hD x, ?_⟩
      rw [e1]
      show te env2 M1 _
      refine e2 M1 _ (x.ext hD) fun M' x' => ?_
      unfold pushD
      rw [x' D _ e]
      simp only [List.length_cons] at hl
      refine ⟨by omega, ?_⟩
      exact ih (fun y hy => he y (List.mem_cons_of_mem _ hy)) (acc ++ [f d]) _ ((x.trans x'.b).trans .up) up_same (by rw [List.length_append, List.length_singleton]; omega) fun M2 x2 e2 => k M2 x2 (by rw [e2]; simp)
  exact key l he [] _ .up up_same (by simpa using hl) fun M' x e => k D M' hD (x.ext hD) (by simpa using e)
theorem bls_map {α : Type} (b : α → Bool) : ∀ l : List α, blsD (l.map fun a => D.bl (b a)) = some (l.map b)
  | [] => rfl
  | a :: l => by rw [List.map_cons, blsD, bls_map b l]; rfl
theorem lc_all {α : Type} {p : Pat} {te : TD} {G : MH → Prop} {env : Ev} {M : MH} {Q : D → MH → Prop} (l : List α) (g : α → D) (b : α → Bool) (hG : ∀ D M2, M D = none → ExtB D M M2 → G M2) (hl : l.length ≤ LN)
    (he : ∀ a ∈ l, ∃ env2, bindP p (g a) env = some env2 ∧ ∀ M' (Q : D → MH → Prop), Ext M M' → (∀ M2, Ext M' M2 → Q (.bl (b a)) M2) → te env2 M' Q) (k : ∀ M', Ext M M' → Q (.bl (l.all b)) M') (D : Addr) (hD : M D = none) :
    dLcL p dYes te G env (fun M1 => fAll [.ref D] M1 Q) D (l.map g) (up M D (.lst [])) := by
  refine lc_A (N := fun D M1 => fAll [.ref D] M1 Q) l g (fun a => .bl (b a)) hG hl he (fun D M' _ x e => ?_) D hD
  unfold fAll onSeq
  simp only [rdL_lst e, bls_map]
  have := k M' x
  rwa [show (l.map b).all id = l.all b by simp [List.all_map]]
theorem lc_any {α : Type} {p : Pat} {te : TD} {G : MH → Prop} {env : Ev} {M : MH} {Q : D → MH → Prop} (l : List α) (g : α → D) (b : α → Bool) (hG : ∀ D M2, M D = none → ExtB D M M2 → G M2) (hl : l.length ≤ LN)
    (he : ∀ a ∈ l, ∃ env2, bindP p (g a) env = some env2 ∧ ∀ M' (Q : D → MH → Prop), Ext M M' → (∀ M2, Ext M' M2 → Q (.bl (b a)) M2) → te env2 M' Q) (k : ∀ M', Ext M M' → Q (.bl (l.any b)) M') (D : Addr) (hD : M D = none) :
    dLcL p dYes te G env (fun M1 => fAny [.ref D] M1 Q) D (l.map g) (up M D (.lst [])) := by
  refine lc_A (N := fun D M1 => fAny [.ref D] M1 Q) l g (fun a => .bl (b a)) hG hl he (fun D M' _ x e => ?_) D hD
  unfold fAny onSeq
  simp only [rdL_lst e, bls_map]
  have := k M' x
  rwa [show (l.map b).any id = l.any b by simp [List.any_map]]
theorem zpD_map {α β : Type} (f : α → D) (g : β → D) (xs : List α) (ys : List β) : zpD (xs.map f) (ys.map g) = (xs.zip ys).map fun q => D.tup [f q.1, g q.2] := by
  unfold zpD
  rw [List.zipWith_map, List.zip, List.map_zipWith]
/-! ### the numbers and texts of the modules -/
theorem gl0 : T.cs.c[0]? = some (("LETTERS", (.str "abcdefghijklmnopqrstuvwxyz")) : Str × D) := rfl
theorem gl1 : T.cs.c[1]? = some (("DIGITS", (.str "0123456789")) : Str × D) := rfl
theorem gl2 : T.cs.c[2]? = some (("RESERVED", (.tup [(.str "book"), (.str "chart"), (.str "command"), (.str "do"), (.str "editor"), (.str "from"), (.str "is"), (.str "macro"), (.str "made"), (.str "of"), (.str "row"), (.str "state"), (.str "step"), (.str "then"), (.str "to"), (.str "turn"), (.str "undo")])) : Str × D) := rfl
theorem gl3 : T.cs.c[3]? = some (("MOST_LETTERS", (.int 8)) : Str × D) := rfl
theorem gl4 : T.cs.c[4]? = some (("MOST_POWER", (.int 100000)) : Str × D) := rfl
theorem gl5 : T.cs.c[5]? = some (("MOST_TIMES_rows", (.int 200)) : Str × D) := rfl
theorem gl6 : T.cs.c[6]? = some (("MOST_STEPS_solutions", (.int 2000)) : Str × D) := rfl
theorem gl7 : T.cs.c[7]? = some (("MOST_TIMES_solutions", (.int 200)) : Str × D) := rfl
theorem gl8 : T.cs.c[8]? = some (("MOST_TOGETHER", (.int 400)) : Str × D) := rfl
theorem gl9 : T.cs.c[9]? = some (("MOST_TIMES_unknowns", (.int 60)) : Str × D) := rfl
theorem gl10 : T.cs.c[10]? = some (("MOST_PARTS", (.int 6)) : Str × D) := rfl
theorem gl11 : T.cs.c[11]? = some (("MOST_STEPS_unknowns", (.int 60)) : Str × D) := rfl
theorem dt0 : T.cs.d[0]? = some (("ROWS", [("ahead", (.int 2)), ("behind", (.int 2)), ("between", (.int 3)), ("moves", (.int 2)), ("goes", (.int 1))]) : Str × List (Str × D)) := rfl

/-! ### the tests of forms -/
theorem sp_is_number (n : Nat) (k : Int) : Pure (F (n + 1) 0) [.int k] (.bl true) := by
  intro M Q h
  rw [F_succ (r := f_is_number) rfl]
  refine ⟨rfl, ?_⟩
  simp only [f_is_number, i_is_number]
  walk_at "dn"
  simp only [tyD]
  exact h M .refl
theorem all_true {n : Nat} : blsD (List.replicate n (.bl true)) = some (List.replicate n true) := by
  induction n with
  | zero => rfl
  | succ n ih => rw [List.replicate_succ, blsD, ih]; rfl
def occB (t z : Str) : Bool := !(Builtin.Str.occurrences t z 0 t.length 1).isEmpty
def rsv : List Str := ["book", "chart", "command", "do", "editor", "from", "is", "macro", "made", "of", "row", "state", "step", "then", "to", "turn", "undo"]
theorem nm_ok (c : Str) (hc : c ∈ (["a", "b", "c"] : List Str)) : c.length = 1 ∧ c.cps.toList.map (fun x => (⟨#[x]⟩ : Str)) = [c] ∧ occB "abcdefghijklmnopqrstuvwxyz" c = true ∧ occB (("abcdefghijklmnopqrstuvwxyz" : Str) ++ "0123456789") c = true ∧ rsv.all (fun z => !decide (z = c)) = true := by
  simp only [List.mem_cons, List.not_mem_nil, or_false] at hc
  rcases hc with rfl | rfl | rfl <;> exact ⟨by decide +kernel, by decide +kernel, by decide +kernel, by decide +kernel, by decide +kernel⟩
theorem sp_is_name (n : Nat) (c : Str) (hc : c ∈ (["a", "b", "c"] : List Str)) : Pure (F (n + 1) 1) [.str c] (.bl true) := by
  intro M Q h
  obtain ⟨h1, h2, h3, h4, h5⟩ := nm_ok c hc
  rw [F_succ (r := f_is_name) rfl]
  refine ⟨rfl, ?_⟩
  simp only [f_is_name, i_is_name]
  walk_at "dn"
  simp only [tyD, gl0, gl1, gl2, gl3]
  walk_at "dn"
  simp only [fLen, h1]
  rw [if_neg (by decide)]
  refine ⟨ln2, ?_⟩
  simp only [dLe, dCI, show decide ((1 : Int) ≤ ((1 : Nat) : Int)) = true from rfl, show decide (((1 : Nat) : Int) ≤ (8 : Int)) = true from rfl, Bool.not_true, Bool.false_eq_true, if_false, dIx]
  refine ⟨by rw [h1]; exact ln2, ?_⟩
  obtain ⟨w, hw⟩ : ∃ w, c.cps.toList = [w] := by
    cases hc : c.cps.toList with
    | nil => rw [hc] at h2; cases h2
    | cons w ws =>
      rw [hc] at h2
      cases ws with
      | nil => exact ⟨w, rfl⟩
      | cons _ _ => cases h2
  rw [hw] at h2 ⊢
  have h2' : (⟨#[w]⟩ : Str) = c := by simpa using h2
  have e0 : atI [w] 0 = some w := rfl
  have e3 : (!(Builtin.Str.occurrences ("abcdefghijklmnopqrstuvwxyz" : Str) c 0 ("abcdefghijklmnopqrstuvwxyz" : Str).length 1).isEmpty) = true := h3
  have e4 : (!(Builtin.Str.occurrences (("abcdefghijklmnopqrstuvwxyz" : Str) ++ "0123456789") c 0 (("abcdefghijklmnopqrstuvwxyz" : Str) ++ "0123456789").length 1).isEmpty) = true := h4
  simp only [e0, h2', dInB, e3, if_true, Bool.not_true, Bool.false_eq_true, if_false]
  have ep : py M 12 (D.tup
      [D.str (Str.ofString "book"), D.str (Str.ofString "chart"),
        D.str (Str.ofString "command"), D.str (Str.ofString "do"),
        D.str (Str.ofString "editor"), D.str (Str.ofString "from"), D.str (Str.ofString "is"),
        D.str (Str.ofString "macro"), D.str (Str.ofString "made"), D.str (Str.ofString "of"),
        D.str (Str.ofString "row"), D.str (Str.ofString "state"), D.str (Str.ofString "step"),
        D.str (Str.ofString "then"), D.str (Str.ofString "to"), D.str (Str.ofString "turn"),
        D.str (Str.ofString "undo")]) = some (.tuple (rsv.map .str)) := rfl
  have ec : py M 12 (.str c) = some (.str c) := rfl
  have e5 : ((rsv.map PyData.str).any fun y => PyData.eqv y (.str c)) = false := by
    rw [List.any_map, List.any_eq_false]
    intro z hz
    have := List.all_eq_true.mp h5 z hz
    simpa [PyData.eqv] using this
  simp only [ep, ec, e5, Bool.false_eq_true, if_false]
  have es : strD c = [c].map D.str := by
    unfold strD
    rw [hw]
    simp [h2']
  rw [es]
  refine lc_all [c] D.str (fun _ => true) (fun _ _ _ _ => trivial) (show 1 ≤ LN from ln2) (fun q hq => ⟨_, rfl, fun M' Q' x k => ?_⟩) fun M' x => h M' x
  rw [List.mem_singleton] at hq
  subst hq
  walk_at "dn"
  simp only [dAdd]
  refine ⟨ln2, ?_⟩
  simp only [dInB, e4, Bool.false_eq_true, if_false]
  exact k M' .refl
theorem sp_is_sized (n : Nat) (ds : List D) (k : Int) : Pure (F (n + 1) 2) [.tup ds, .int k] (.bl (decide ((ds.length : Int) = k))) := by
  intro M Q h
  rw [F_succ (r := f_is_sized) rfl]
  refine ⟨rfl, ?_⟩
  simp only [f_is_sized, i_is_sized]
  walk_at "dn"
  simp only [tyD, fLen, dEq, py_int, eqv_int]
  exact h M .refl
def good (p : Sp) : Prop := p.1 ∈ (["a", "b", "c"] : List Str) ∧ (p.2 = 1 ∨ p.2 = -1)
theorem sp_is_step (n : Nat) (p : Sp) (hp : good p) : Pure (F (n + 2) 3) [spD p] (.bl true) := by
  intro M Q h
  rw [F_succ (r := f_is_step) rfl]
  refine ⟨rfl, ?_⟩
  simp only [f_is_step, i_is_step]
  walk_at "dn"
  refine sp_is_sized n _ 2 M _ fun M1 x1 => ?_
  have e : decide ((([D.str p.1, D.int p.2] : List D).length : Int) = 2) = true := rfl
  rw [e]
  simp only [spD, dIx]
  refine sp_is_name n p.1 hp.1 M1 _ fun M2 x2 => ?_
  simp only []
  refine sp_is_number n p.2 M2 _ fun M3 x3 => ?_
  obtain ⟨c, s⟩ := p
  obtain ⟨_, hs⟩ := hp
  simp only at hs
  rcases hs with rfl | rfl
  · exact ⟨ln2, h M3 (x1.trans (x2.trans x3))⟩
  · exact ⟨ln2, h M3 (x1.trans (x2.trans x3))⟩
theorem sp_is_short (n : Nat) (r : List Sp) (hl : r.length ≤ LN) : Pure (F (n + 2) 7) [rowD r] (.bl ((r.zip (r.drop 1)).all fun q => !decide (q.1 = inv q.2))) := by
  intro M Q h
  rw [F_succ (r := f_is_short) rfl]
  refine ⟨rfl, ?_⟩
  simp only [f_is_short, i_is_short]
  walk_at "dn"
  simp only [rowD, dZip]
  walk_at "dn"
  have ec : cutA r (some (1 : Int)) none = r.drop 1 := cutA_from r 1
  simp only [cut_map, ec, zpD_map]
  refine lc_all _ _ _ (fun _ _ _ _ => trivial) (by simp; omega) (fun q hq => ⟨_, rfl, fun M' Q' x k => ?_⟩) fun M' x => h M' x
  walk_at "dn"
  refine sp_contrary n q.2 M' _ fun M2 x2 => ?_
  simp only [dNe, py_sp M2 10, eqv_sp]
  exact k M2 x2
theorem sp_is_row (n : Nat) (r : List Sp) (hl : r.length ≤ LN) (hr : ∀ p ∈ r, good p) : Pure (F (n + 3) 28) [rowD r] (.bl true) := by
  intro M Q h
  rw [F_succ (r := f_is_row) rfl]
  refine ⟨rfl, ?_⟩
  simp only [f_is_row, i_is_row]
  walk_at "dn"
  simp only [rowD, tyD]
  refine lc_all r spD (fun _ => true) (fun _ _ _ _ => trivial) hl (fun q hq => ⟨_, rfl, fun M' Q' x k => ?_⟩) fun M' x => ?_
  · walk_at "dn"
    exact sp_is_step n q (hr q hq) M' _ k
  · have := h M' x
    rwa [show (r.all fun _ => true) = true by simp]
theorem sp_is_short_row (n : Nat) (r : List Sp) (hl : r.length ≤ 2000) (hr : ∀ p ∈ r, good p) : Pure (F (n + 3) 19) [rowD r] (.bl ((r.zip (r.drop 1)).all fun q => !decide (q.1 = inv q.2))) := by
  intro M Q h
  rw [F_succ (r := f_is_short_row) rfl]
  refine ⟨rfl, ?_⟩
  simp only [f_is_short_row, i_is_short_row]
  walk_at "dn"
  simp only [rowD, tyD, fLen, gl6, dGt, dCI]
  walk_at "dn"
  rw [if_neg (by decide), if_neg (by simp; omega)]
  refine lc_all r spD (fun _ => true) (fun _ _ _ _ => trivial) (Nat.le_trans hl ln2) (fun q hq => ⟨_, rfl, fun M' Q' x k => ?_⟩) fun M' x => ?_
  · walk_at "dn"
    exact sp_is_step (n + 1) q (hr q hq) M' _ k
  · simp only [show (r.all fun _ => true) = true by simp, Bool.not_true, Bool.false_eq_true, if_false]
    exact sp_is_short (n + 1) r (Nat.le_trans hl ln2) M' _ fun M2 x2 => h M2 (x.trans x2)
end K10

set_option Elab.async false
set_option linter.all false
set_option maxRecDepth 100000
set_option maxHeartbeats 2000000
namespace K10
open PySem Dn
open L2 (atI ixN)
local macro_rules | `(tactic| walk_at "dn") => `(tactic| simp only [denSs, denSt, denE, denEs, denT, denTB, denB, denO, denI, denS, dSeqS, dNext, dRet, dRetN, dDrop, dIfS, dAsg, dTup, dLst, dCons, dNil, dOp, dVar, dC, Cn.d, dBin, dCmp, dF, dTB, dAnd, dOr, dNot, dAndV, dOrV, dNotV, dIf, dChain, dSl, dPart, dNoPart, dMt, dSeq, dRev, dLc, dLc2, dFor, dPar, dSetS, dAug, dAugS, dAsgL, dNeg, dIsi, Bi.den, Mt.den, startE, bindP_nm, bindP_tp, bindPs_nil, bindPs_cons,
  List.map_cons, List.map_nil, List.length_cons, List.length_nil, Nat.reduceAdd, Nat.reduceSub, Nat.zero_add, List.replicate, List.replicate_zero, List.cons_append, List.nil_append, List.append_nil, List.getElem?_cons_zero, List.getElem?_cons_succ, List.set_cons_zero, List.set_cons_succ, Dn.wp, if_true, if_false, Bool.false_eq_true, ite_true, ite_false])

/-! ### root -/
def rootL (r : List Sp) : List Sp × Nat := if 0 < (leastPart (partedL r).2).2 then ((partedL r).1 ++ (leastPart (partedL r).2).1 ++ undo (partedL r).1, (leastPart (partedL r).2).2) else ([], 0)
theorem parted_len (r : List Sp) : (partedL r).1.length ≤ r.length ∧ (partedL r).2.length ≤ r.length := by
  have := red_len r
  simp only [partedL, List.length_take, List.length_drop]
  omega
theorem lpL_len (ring : List Sp) : ∀ ks, (lpL ring ks).1.length ≤ ring.length ∧ (lpL ring ks).2 ≤ ring.length
  | [] => by simp [lpL]
  | k :: ks => by
    rw [lpL]
    split
    · exact ⟨by simp; omega, Nat.div_le_self _ _⟩
    · exact lpL_len ring ks
theorem sp_root (n : Nat) (r : List Sp) (hl : r.length ≤ 100000) : Pure (F (n + 4) 18) [rowD r] (.tup [rowD (rootL r).1, .int (rootL r).2]) := by
  intro M Q h
  rw [F_succ (r := f_root) rfl]
  refine ⟨rfl, ?_⟩
  simp only [f_root, i_root]
  walk_at "dn"
  have hp := parted_len r
  have hq := lpL_len (partedL r).2 (List.range' 1 (partedL r).2.length)
  have hq' : (leastPart (partedL r).2).1.length ≤ (partedL r).2.length ∧ (leastPart (partedL r).2).2 ≤ (partedL r).2.length := hq
  refine sp_parted n r (by simp [LN]; omega) M _ fun M1 x1 => ?_
  walk_at "dn"
  refine sp_least_part (n + 2) (partedL r).2 (by simp [LN]; omega) M1 _ fun M2 x2 => ?_
  walk_at "dn"
  simp only [dGt, dCI]
  by_cases c : 0 < (leastPart (partedL r).2).2
  · rw [if_pos (by simpa using c)]
    simp only [rowD, dAdd]
    refine ⟨by simp [LN]; omega, ?_⟩
    rw [rowD_app]
    refine sp_undoing (n + 1) (partedL r).1 (by simp [LN]; omega) M2 _ fun M3 x3 => ?_
    simp only [rowD]
    refine ⟨by simp [LN, undo_len]; omega, ln2, ?_⟩
    rw [rowD_app]
    have := h M3 (x1.trans (x2.trans x3))
    rwa [rootL, if_pos c] at this
  · rw [if_neg (by simpa using c)]
    have := h M2 (x1.trans x2)
    rw [rootL, if_neg c] at this
    exact ⟨ln2, ln2, this⟩
/-! ### product_of_rows -/
theorem sp_product (n : Nat) (rs : List (List Sp)) (hl : rs.flatten.length ≤ LN) (b : Addr) (M : MH) (hb : rdL M b = some (rs.map rowD)) (Q : D → MH → Prop) (h : ∀ M', Ext M M' → Q (rowD (red rs.flatten)) M') : F (n + 3) 9 [.ref b] M Q := by
  rw [F_succ (r := f_product_of_rows) rfl]
  refine ⟨rfl, ?_⟩
  simp only [f_product_of_rows, i_product_of_rows]
  walk_at "dn"
  simp only [hb]
  intro D hD
  have hbD : b ≠ D := by
    rintro rfl
    unfold rdL at hb
    rw [hD] at hb
    cases hb
  -- the steps of one row go to the list
  have inner : ∀ (r : List Sp) (acc : List Dn.D) (env : Ev) (hv : 2 < env.length) (N : MH → Prop) (M1 : MH), M1 D = some (.lst acc) → acc.length + r.length ≤ LN → (∀ M2, ExtB D M1 M2 → M2 D = some (.lst (acc ++ r.map spD)) → N M2) →
      dLcL (.nm 2) dYes (dVar 2) (fun _ => True) env N D (r.map spD) M1 := by
    intro r
    induction r with
    | nil => intro acc env hv N M1 e _ k; exact ⟨trivial, k M1 .refl (by simpa using e)⟩
    | cons s r ih =>
      intro acc env hv N M1 e hl k
      rw [List.map_cons]
      simp only [List.length_cons] at hl
      refine ⟨trivial, ?_⟩
      simp only [bindP_nm]
      simp only [dYes, if_true]
      unfold dVar
      rw [List.getElem?_set_self hv]
      show pushD M1 D (spD s) _
      unfold pushD
      rw [e]
      refine ⟨by omega, ?_⟩
      exact ih (acc ++ [spD s]) env hv N _ up_same (by simp; omega) fun M2 x2 e2 => k M2 (ExtB.up.trans x2) (by rw [e2]; simp)
  have outer : ∀ (rs0 : List (List Sp)) (acc : List Sp) (M1 : MH), ExtB D M M1 → M1 D = some (.lst (acc.map spD)) → acc.length + rs0.flatten.length ≤ LN → (∀ M2, ExtB D M M2 → M2 D = some (.lst ((acc ++ rs0.flatten).map spD)) → F (n + 2) 6 [.ref D] M2 Q) →
      dLc2.go (Pat.nm 1) dYes (dSeq (dVar 1)) (Pat.nm 2) dYes (dVar 2) [1, 2] [2] [some (Dn.D.ref b), none, none] (fun d M1 => F (n + 2) 6 [d] M1 Q) (fun M => rdL M b = some (List.map rowD rs)) D (List.map rowD rs0) M1 := by
    intro rs0
    induction rs0 with
    | nil => intro acc M1 x e _ k; exact ⟨rdL_extB hbD x hb, k M1 x (by simpa using e)⟩
    | cons r rs0 ih =>
      intro acc M1 x e hl k
      rw [List.map_cons, dLc2.go]
      simp only [List.flatten_cons, List.length_append] at hl
      refine ⟨rdL_extB hbD x hb, ?_⟩
      simp only [bindP_nm]
      simp only [dYes, if_true, Dn.wp, dSeq, dVar, List.set_cons_succ, List.set_cons_zero, List.getElem?_cons_succ, List.getElem?_cons_zero, rowD]
      refine inner r (acc.map spD) _ (by simp) _ M1 e (by simp; omega) fun M2 x2 e2 => ?_
      refine ih (acc ++ r) M2 (x.trans x2) (by rw [e2]; simp) (by rw [List.length_append]; omega) fun M3 x3 e3 => k M3 x3 (by rw [e3]; simp)
  refine outer rs [] _ .up up_same (by simpa using hl) fun M2 x2 e2 => ?_
  exact sp_shortened_list n rs.flatten hl D M2 (rdL_lst (by simpa using e2)) Q fun M3 x3 => h M3 ((x2.ext hD).trans x3)
/-! ### least_turn -/
theorem ltPs_some : ∀ a b : List Sp, (ltPs (a.map spP) (b.map spP)).isSome = true
  | [], [] => rfl
  | [], _ :: _ => rfl
  | _ :: _, [] => rfl
  | (x, i) :: a, (y, j) :: b => by
    rw [List.map_cons, List.map_cons, ltPs]
    split
    · exact ltPs_some a b
    · simp only [spP, ltP, ltPs]
      split
      · split
        · rfl
        · rfl
      · rfl
def ltR (a b : List Sp) : Bool := (ltPs (a.map spP) (b.map spP)).getD false
theorem ltB_row (M : MH) (a b : List Sp) : ltB M (rowD a) (rowD b) = ltR a b := by
  simp only [ltB, py_row M 9, ltP, ltR]
theorem cmpB_row (M : MH) (a b : List Sp) : cmpB M (rowD a) (rowD b) = true := by
  simp only [cmpB, py_row M 9, ltP, ltPs_some]
def turnsL (g : List Sp) : List (List Sp) := (List.range g.length).map fun k => g.drop k ++ g.take k
def leastR : List (List Sp) → List Sp
  | [] => []
  | x :: r => r.foldl (fun a y => if ltR y a then y else a) x
def leastTurn (g : List Sp) : List Sp := leastR (turnsL g)
theorem leastD_row (M : MH) : ∀ (r : List (List Sp)) (x : List Sp), leastD (ltB M) (rowD x) (r.map rowD) = rowD (r.foldl (fun a y => if ltR y a then y else a) x)
  | [], x => rfl
  | y :: r, x => by
    have := leastD_row M r (if ltR y x then y else x)
    unfold leastD at this ⊢
    rw [List.map_cons, List.foldl_cons, List.foldl_cons, ltB_row, ← this]
    congr 1
    split <;> rfl
theorem rgD_nat0 (n : Nat) : rgD 0 1 n = (List.range n).map fun (k : Nat) => D.int (k : Int) := by
  unfold rgD
  apply List.map_congr_left
  intro i _
  simp
theorem sp_least_turn (n : Nat) (g : List Sp) (hl : g.length ≤ 100000) : Pure (F (n + 1) 12) [rowD g] (rowD (leastTurn g)) := by
  intro M Q h
  rw [F_succ (r := f_least_turn) rfl]
  refine ⟨rfl, ?_⟩
  simp only [f_least_turn, i_least_turn]
  walk_at "dn"
  simp only [rowD, fLen, dRng1]
  walk_at "dn"
  simp only [fLen, List.length_map, Int.toNat_natCast, rgD_nat0]
  refine ⟨by omega, ?_⟩
  refine lc_A (N := _) (List.range g.length) (fun (k : Nat) => D.int (k : Int)) (fun k => rowD (g.drop k ++ g.take k)) (fun _ _ _ _ => trivial) (by simp [LN]; omega) (fun k hk => ⟨_, rfl, fun M' Q' x kk => ?_⟩) (fun D M' hD x e => ?_)
  · walk_at "dn"
    simp only [cut_map, cutA_from, cutA_to, dAdd]
    refine ⟨by simp [LN]; omega, ?_⟩
    rw [rowD_app]
    exact kk M' .refl
  · have e' := rdL_lst e
    refine ⟨ln2, fun p hp => ?_⟩
    have x1 : Ext M' (up M' p (.lst [])) := .up hp
    have ep : rdL (up M' p (.lst [])) p = some [] := rdL_lst up_same
    generalize up M' p (.lst []) = M1 at x1 ep ⊢
    have e1 := rdL_ext x1 e'
    have em : (List.range g.length).map (fun k => rowD (g.drop k ++ g.take k)) = (turnsL g).map rowD := by
      rw [turnsL, List.map_map]
      rfl
    rw [em] at e1
    have ey : py M1 12 (.ref D) = some (.list ((turnsL g).map fun r => .tuple (r.map spP))) := by
      simp only [py, e1]
      rw [pys_map (py_row M1 8)]
      rfl
    simp only [dNe, ey, py_nil ep, ne_nil]
    have hq := h M1 (x.trans x1)
    rw [leastTurn] at hq
    cases ht : turnsL g with
    | nil =>
      rw [ht] at hq
      simp only [List.map_nil, List.isEmpty_nil, Bool.not_true, Bool.false_eq_true, if_false]
      exact ⟨ln2, hq⟩
    | cons t ts =>
      rw [ht] at hq e1
      simp only [List.map_cons, List.isEmpty_cons, Bool.not_false, if_true, fMin, fMinL, e1, fMinS]
      refine ⟨?_, ?_⟩
      · rw [← List.map_cons, List.all_map, List.all_eq_true]
        intro a _
        simp only [Function.comp, List.all_map, List.all_eq_true]
        intro b _
        exact cmpB_row M1 a b
      · rw [leastD_row]
        exact hq
theorem sp_ring_order (n : Nat) (r : List Sp) (hl : r.length ≤ 100000) : Pure (F (n + 4) 13) [rowD r] (rowD (leastTurn (partedL r).2)) := by
  intro M Q h
  rw [F_succ (r := f_ring_order) rfl]
  refine ⟨rfl, ?_⟩
  simp only [f_ring_order, i_ring_order]
  walk_at "dn"
  have hp := parted_len r
  refine sp_parted n r (by simp [LN]; omega) M _ fun M1 x1 => ?_
  simp only [dIx]
  have e : ∀ a b : D, atI [a, b] 1 = some b := fun _ _ => rfl
  simp only [e]
  exact sp_least_turn (n + 2) _ (by omega) M1 _ fun M2 x2 => h M2 (x1.trans x2)
theorem sp_are_moved (n : Nat) (r r' : List Sp) (hl : r.length ≤ 100000) (hl' : r'.length ≤ 100000) : Pure (F (n + 5) 14) [rowD r, rowD r'] (.bl (decide (leastTurn (partedL r).2 = leastTurn (partedL r').2))) := by
  intro M Q h
  rw [F_succ (r := f_are_moved) rfl]
  refine ⟨rfl, ?_⟩
  simp only [f_are_moved, i_are_moved]
  walk_at "dn"
  refine sp_ring_order n r hl M _ fun M1 x1 => ?_
  refine sp_ring_order n r' hl' M1 _ fun M2 x2 => ?_
  simp only [dEq, py_row M2 9, eqv_row]
  exact h M2 (x1.trans x2)
theorem sp_place_same (n : Nat) (g : List Sp) (hl : g.length ≤ 100000) : Pure (F (n + 1) 15) [rowD g, rowD g] (.int 0) := by
  intro M Q h
  rw [F_succ (r := f_place_of) rfl]
  refine ⟨rfl, ?_⟩
  simp only [f_place_of, i_place_of]
  walk_at "dn"
  refine ⟨1, ?_⟩
  rw [dWh]
  walk_at "dn"
  have e1 : cutA g (some (0 : Int)) none = g := cutA_from g 0
  have e2 : cutA g none (some (0 : Int)) = [] := cutA_to g 0
  simp only [rowD, cut_map, e1, e2, dAdd, List.map_nil, List.append_nil]
  refine ⟨by simp [LN]; omega, ?_⟩
  have p := py_row M 9 g
  simp only [rowD] at p
  simp only [dNe, p, eqv_row, decide_true, Bool.not_true, Bool.false_eq_true, if_false]
  exact h M .refl
theorem sp_mover_none (n : Nat) (r r' : List Sp) (hl : r.length ≤ 100000) (hl' : r'.length ≤ 100000) (hne : leastTurn (partedL r).2 ≠ leastTurn (partedL r').2) : Pure (F (n + 6) 16) [rowD r, rowD r'] .non := by
  intro M Q h
  rw [F_succ (r := f_mover) rfl]
  refine ⟨rfl, ?_⟩
  simp only [f_mover, i_mover]
  walk_at "dn"
  refine sp_are_moved n r r' hl hl' M _ fun M1 x1 => ?_
  rw [decide_eq_false hne]
  exact h M1 x1
theorem sp_mover_same (n : Nat) (r r' : List Sp) (hl : r.length ≤ 100000) (hl' : r'.length ≤ 100000) (he : red r = red r') : Pure (F (n + 6) 16) [rowD r, rowD r'] (rowD (red (red ((partedL r).1 ++ undo []) ++ undo (partedL r).1))) := by
  intro M Q h
  have ep : partedL r' = partedL r := by simp only [partedL, he]
  rw [F_succ (r := f_mover) rfl]
  refine ⟨rfl, ?_⟩
  simp only [f_mover, i_mover]
  walk_at "dn"
  have hp := parted_len r
  refine sp_are_moved n r r' hl hl' M _ fun M1 x1 => ?_
  rw [ep]
  simp only [decide_true, Bool.not_true, Bool.false_eq_true, if_false]
  refine sp_parted (n + 2) r (by simp [LN]; omega) M1 _ fun M2 x2 => ?_
  refine sp_parted (n + 2) r' (by simp [LN]; omega) M2 _ fun M3 x3 => ?_
  rw [ep]
  refine ⟨ln2, ?_⟩
  walk_at "dn"
  refine sp_place_same (n + 4) (partedL r).2 (by omega) M3 _ fun M4 x4 => ?_
  have e2 : cutA (partedL r).2 none (some (0 : Int)) = [] := cutA_to _ 0
  simp only [rowD, cut_map, e2]
  walk_at "dn"
  refine sp_undoing (n + 3) [] ln2 M4 _ fun M5 x5 => ?_
  refine sp_joined (n + 2) (partedL r).1 (undo []) (by simp [LN, undo]; omega) M5 _ fun M6 x6 => ?_
  refine sp_undoing (n + 3) (partedL r).1 (by simp [LN]; omega) M6 _ fun M7 x7 => ?_
  have hr := red_len ((partedL r).1 ++ undo [])
  simp [undo] at hr
  refine sp_joined (n + 2) _ _ (by simp [LN, undo_len, undo]; omega) M7 _ fun M8 x8 => ?_
  exact h M8 (x1.trans (x2.trans (x3.trans (x4.trans (x5.trans (x6.trans (x7.trans x8)))))))
end K10

set_option Elab.async false
set_option linter.all false
set_option maxRecDepth 100000
set_option maxHeartbeats 2000000
namespace K10
open PySem Dn
open L2 (atI ixN)
local macro_rules | `(tactic| walk_at "dn") => `(tactic| simp only [denSs, denSt, denE, denEs, denT, denTB, denB, denO, denI, denS, dSeqS, dNext, dRet, dRetN, dDrop, dIfS, dAsg, dTup, dLst, dCons, dNil, dOp, dVar, dC, Cn.d, dBin, dCmp, dF, dTB, dAnd, dOr, dNot, dAndV, dOrV, dNotV, dIf, dChain, dSl, dPart, dNoPart, dMt, dSeq, dRev, dLc, dLc2, dFor, dPar, dSetS, dAug, dAugS, dAsgL, dNeg, dIsi, Bi.den, Mt.den, startE, bindP_nm, bindP_tp, bindPs_nil, bindPs_cons,
  List.map_cons, List.map_nil, List.length_cons, List.length_nil, Nat.reduceAdd, Nat.reduceSub, Nat.zero_add, List.replicate, List.replicate_zero, List.cons_append, List.nil_append, List.append_nil, List.getElem?_cons_zero, List.getElem?_cons_succ, List.set_cons_zero, List.set_cons_succ, Dn.wp, if_true, if_false, Bool.false_eq_true, ite_true, ite_false])

/-! ### words -/
theorem w_all_all : PyData.eqv (.str ("all" : Str)) (.str ("all" : Str)) = true := by decide +kernel
theorem w_all_none : PyData.eqv (.str ("all" : Str)) (.str ("none" : Str)) = false := by decide +kernel
theorem w_all_one : PyData.eqv (.str ("all" : Str)) (.str ("one" : Str)) = false := by decide +kernel
theorem w_all_line : PyData.eqv (.str ("all" : Str)) (.str ("line" : Str)) = false := by decide +kernel
theorem w_all_power : PyData.eqv (.str ("all" : Str)) (.str ("power" : Str)) = false := by decide +kernel
theorem w_all_ahead : PyData.eqv (.str ("all" : Str)) (.str ("ahead" : Str)) = false := by decide +kernel
theorem w_all_behind : PyData.eqv (.str ("all" : Str)) (.str ("behind" : Str)) = false := by decide +kernel
theorem w_all_between : PyData.eqv (.str ("all" : Str)) (.str ("between" : Str)) = false := by decide +kernel
theorem w_all_moves : PyData.eqv (.str ("all" : Str)) (.str ("moves" : Str)) = false := by decide +kernel
theorem w_all_goes : PyData.eqv (.str ("all" : Str)) (.str ("goes" : Str)) = false := by decide +kernel
theorem w_all_both : PyData.eqv (.str ("all" : Str)) (.str ("both" : Str)) = false := by decide +kernel
theorem w_none_all : PyData.eqv (.str ("none" : Str)) (.str ("all" : Str)) = false := by decide +kernel
theorem w_none_none : PyData.eqv (.str ("none" : Str)) (.str ("none" : Str)) = true := by decide +kernel
theorem w_none_one : PyData.eqv (.str ("none" : Str)) (.str ("one" : Str)) = false := by decide +kernel
theorem w_none_line : PyData.eqv (.str ("none" : Str)) (.str ("line" : Str)) = false := by decide +kernel
theorem w_none_power : PyData.eqv (.str ("none" : Str)) (.str ("power" : Str)) = false := by decide +kernel
theorem w_none_ahead : PyData.eqv (.str ("none" : Str)) (.str ("ahead" : Str)) = false := by decide +kernel
theorem w_none_behind : PyData.eqv (.str ("none" : Str)) (.str ("behind" : Str)) = false := by decide +kernel
theorem w_none_between : PyData.eqv (.str ("none" : Str)) (.str ("between" : Str)) = false := by decide +kernel
theorem w_none_moves : PyData.eqv (.str ("none" : Str)) (.str ("moves" : Str)) = false := by decide +kernel
theorem w_none_goes : PyData.eqv (.str ("none" : Str)) (.str ("goes" : Str)) = false := by decide +kernel
theorem w_none_both : PyData.eqv (.str ("none" : Str)) (.str ("both" : Str)) = false := by decide +kernel
theorem w_one_all : PyData.eqv (.str ("one" : Str)) (.str ("all" : Str)) = false := by decide +kernel
theorem w_one_none : PyData.eqv (.str ("one" : Str)) (.str ("none" : Str)) = false := by decide +kernel
theorem w_one_one : PyData.eqv (.str ("one" : Str)) (.str ("one" : Str)) = true := by decide +kernel
theorem w_one_line : PyData.eqv (.str ("one" : Str)) (.str ("line" : Str)) = false := by decide +kernel
theorem w_one_power : PyData.eqv (.str ("one" : Str)) (.str ("power" : Str)) = false := by decide +kernel
theorem w_one_ahead : PyData.eqv (.str ("one" : Str)) (.str ("ahead" : Str)) = false := by decide +kernel
theorem w_one_behind : PyData.eqv (.str ("one" : Str)) (.str ("behind" : Str)) = false := by decide +kernel
theorem w_one_between : PyData.eqv (.str ("one" : Str)) (.str ("between" : Str)) = false := by decide +kernel
theorem w_one_moves : PyData.eqv (.str ("one" : Str)) (.str ("moves" : Str)) = false := by decide +kernel
theorem w_one_goes : PyData.eqv (.str ("one" : Str)) (.str ("goes" : Str)) = false := by decide +kernel
theorem w_one_both : PyData.eqv (.str ("one" : Str)) (.str ("both" : Str)) = false := by decide +kernel
theorem w_line_all : PyData.eqv (.str ("line" : Str)) (.str ("all" : Str)) = false := by decide +kernel
theorem w_line_none : PyData.eqv (.str ("line" : Str)) (.str ("none" : Str)) = false := by decide +kernel
theorem w_line_one : PyData.eqv (.str ("line" : Str)) (.str ("one" : Str)) = false := by decide +kernel
theorem w_line_line : PyData.eqv (.str ("line" : Str)) (.str ("line" : Str)) = true := by decide +kernel
theorem w_line_power : PyData.eqv (.str ("line" : Str)) (.str ("power" : Str)) = false := by decide +kernel
theorem w_line_ahead : PyData.eqv (.str ("line" : Str)) (.str ("ahead" : Str)) = false := by decide +kernel
theorem w_line_behind : PyData.eqv (.str ("line" : Str)) (.str ("behind" : Str)) = false := by decide +kernel
theorem w_line_between : PyData.eqv (.str ("line" : Str)) (.str ("between" : Str)) = false := by decide +kernel
theorem w_line_moves : PyData.eqv (.str ("line" : Str)) (.str ("moves" : Str)) = false := by decide +kernel
theorem w_line_goes : PyData.eqv (.str ("line" : Str)) (.str ("goes" : Str)) = false := by decide +kernel
theorem w_line_both : PyData.eqv (.str ("line" : Str)) (.str ("both" : Str)) = false := by decide +kernel
theorem w_power_all : PyData.eqv (.str ("power" : Str)) (.str ("all" : Str)) = false := by decide +kernel
theorem w_power_none : PyData.eqv (.str ("power" : Str)) (.str ("none" : Str)) = false := by decide +kernel
theorem w_power_one : PyData.eqv (.str ("power" : Str)) (.str ("one" : Str)) = false := by decide +kernel
theorem w_power_line : PyData.eqv (.str ("power" : Str)) (.str ("line" : Str)) = false := by decide +kernel
theorem w_power_power : PyData.eqv (.str ("power" : Str)) (.str ("power" : Str)) = true := by decide +kernel
theorem w_power_ahead : PyData.eqv (.str ("power" : Str)) (.str ("ahead" : Str)) = false := by decide +kernel
theorem w_power_behind : PyData.eqv (.str ("power" : Str)) (.str ("behind" : Str)) = false := by decide +kernel
theorem w_power_between : PyData.eqv (.str ("power" : Str)) (.str ("between" : Str)) = false := by decide +kernel
theorem w_power_moves : PyData.eqv (.str ("power" : Str)) (.str ("moves" : Str)) = false := by decide +kernel
theorem w_power_goes : PyData.eqv (.str ("power" : Str)) (.str ("goes" : Str)) = false := by decide +kernel
theorem w_power_both : PyData.eqv (.str ("power" : Str)) (.str ("both" : Str)) = false := by decide +kernel
theorem w_ahead_all : PyData.eqv (.str ("ahead" : Str)) (.str ("all" : Str)) = false := by decide +kernel
theorem w_ahead_none : PyData.eqv (.str ("ahead" : Str)) (.str ("none" : Str)) = false := by decide +kernel
theorem w_ahead_one : PyData.eqv (.str ("ahead" : Str)) (.str ("one" : Str)) = false := by decide +kernel
theorem w_ahead_line : PyData.eqv (.str ("ahead" : Str)) (.str ("line" : Str)) = false := by decide +kernel
theorem w_ahead_power : PyData.eqv (.str ("ahead" : Str)) (.str ("power" : Str)) = false := by decide +kernel
theorem w_ahead_ahead : PyData.eqv (.str ("ahead" : Str)) (.str ("ahead" : Str)) = true := by decide +kernel
theorem w_ahead_behind : PyData.eqv (.str ("ahead" : Str)) (.str ("behind" : Str)) = false := by decide +kernel
theorem w_ahead_between : PyData.eqv (.str ("ahead" : Str)) (.str ("between" : Str)) = false := by decide +kernel
theorem w_ahead_moves : PyData.eqv (.str ("ahead" : Str)) (.str ("moves" : Str)) = false := by decide +kernel
theorem w_ahead_goes : PyData.eqv (.str ("ahead" : Str)) (.str ("goes" : Str)) = false := by decide +kernel
theorem w_ahead_both : PyData.eqv (.str ("ahead" : Str)) (.str ("both" : Str)) = false := by decide +kernel
theorem w_behind_all : PyData.eqv (.str ("behind" : Str)) (.str ("all" : Str)) = false := by decide +kernel
theorem w_behind_none : PyData.eqv (.str ("behind" : Str)) (.str ("none" : Str)) = false := by decide +kernel
theorem w_behind_one : PyData.eqv (.str ("behind" : Str)) (.str ("one" : Str)) = false := by decide +kernel
theorem w_behind_line : PyData.eqv (.str ("behind" : Str)) (.str ("line" : Str)) = false := by decide +kernel
theorem w_behind_power : PyData.eqv (.str ("behind" : Str)) (.str ("power" : Str)) = false := by decide +kernel
theorem w_behind_ahead : PyData.eqv (.str ("behind" : Str)) (.str ("ahead" : Str)) = false := by decide +kernel
theorem w_behind_behind : PyData.eqv (.str ("behind" : Str)) (.str ("behind" : Str)) = true := by decide +kernel
theorem w_behind_between : PyData.eqv (.str ("behind" : Str)) (.str ("between" : Str)) = false := by decide +kernel
theorem w_behind_moves : PyData.eqv (.str ("behind" : Str)) (.str ("moves" : Str)) = false := by decide +kernel
theorem w_behind_goes : PyData.eqv (.str ("behind" : Str)) (.str ("goes" : Str)) = false := by decide +kernel
theorem w_behind_both : PyData.eqv (.str ("behind" : Str)) (.str ("both" : Str)) = false := by decide +kernel
theorem w_between_all : PyData.eqv (.str ("between" : Str)) (.str ("all" : Str)) = false := by decide +kernel
theorem w_between_none : PyData.eqv (.str ("between" : Str)) (.str ("none" : Str)) = false := by decide +kernel
theorem w_between_one : PyData.eqv (.str ("between" : Str)) (.str ("one" : Str)) = false := by decide +kernel
theorem w_between_line : PyData.eqv (.str ("between" : Str)) (.str ("line" : Str)) = false := by decide +kernel
theorem w_between_power : PyData.eqv (.str ("between" : Str)) (.str ("power" : Str)) = false := by decide +kernel
theorem w_between_ahead : PyData.eqv (.str ("between" : Str)) (.str ("ahead" : Str)) = false := by decide +kernel
theorem w_between_behind : PyData.eqv (.str ("between" : Str)) (.str ("behind" : Str)) = false := by decide +kernel
theorem w_between_between : PyData.eqv (.str ("between" : Str)) (.str ("between" : Str)) = true := by decide +kernel
theorem w_between_moves : PyData.eqv (.str ("between" : Str)) (.str ("moves" : Str)) = false := by decide +kernel
theorem w_between_goes : PyData.eqv (.str ("between" : Str)) (.str ("goes" : Str)) = false := by decide +kernel
theorem w_between_both : PyData.eqv (.str ("between" : Str)) (.str ("both" : Str)) = false := by decide +kernel
theorem w_moves_all : PyData.eqv (.str ("moves" : Str)) (.str ("all" : Str)) = false := by decide +kernel
theorem w_moves_none : PyData.eqv (.str ("moves" : Str)) (.str ("none" : Str)) = false := by decide +kernel
theorem w_moves_one : PyData.eqv (.str ("moves" : Str)) (.str ("one" : Str)) = false := by decide +kernel
theorem w_moves_line : PyData.eqv (.str ("moves" : Str)) (.str ("line" : Str)) = false := by decide +kernel
theorem w_moves_power : PyData.eqv (.str ("moves" : Str)) (.str ("power" : Str)) = false := by decide +kernel
theorem w_moves_ahead : PyData.eqv (.str ("moves" : Str)) (.str ("ahead" : Str)) = false := by decide +kernel
theorem w_moves_behind : PyData.eqv (.str ("moves" : Str)) (.str ("behind" : Str)) = false := by decide +kernel
theorem w_moves_between : PyData.eqv (.str ("moves" : Str)) (.str ("between" : Str)) = false := by decide +kernel
theorem w_moves_moves : PyData.eqv (.str ("moves" : Str)) (.str ("moves" : Str)) = true := by decide +kernel
theorem w_moves_goes : PyData.eqv (.str ("moves" : Str)) (.str ("goes" : Str)) = false := by decide +kernel
theorem w_moves_both : PyData.eqv (.str ("moves" : Str)) (.str ("both" : Str)) = false := by decide +kernel
theorem w_goes_all : PyData.eqv (.str ("goes" : Str)) (.str ("all" : Str)) = false := by decide +kernel
theorem w_goes_none : PyData.eqv (.str ("goes" : Str)) (.str ("none" : Str)) = false := by decide +kernel
theorem w_goes_one : PyData.eqv (.str ("goes" : Str)) (.str ("one" : Str)) = false := by decide +kernel
theorem w_goes_line : PyData.eqv (.str ("goes" : Str)) (.str ("line" : Str)) = false := by decide +kernel
theorem w_goes_power : PyData.eqv (.str ("goes" : Str)) (.str ("power" : Str)) = false := by decide +kernel
theorem w_goes_ahead : PyData.eqv (.str ("goes" : Str)) (.str ("ahead" : Str)) = false := by decide +kernel
theorem w_goes_behind : PyData.eqv (.str ("goes" : Str)) (.str ("behind" : Str)) = false := by decide +kernel
theorem w_goes_between : PyData.eqv (.str ("goes" : Str)) (.str ("between" : Str)) = false := by decide +kernel
theorem w_goes_moves : PyData.eqv (.str ("goes" : Str)) (.str ("moves" : Str)) = false := by decide +kernel
theorem w_goes_goes : PyData.eqv (.str ("goes" : Str)) (.str ("goes" : Str)) = true := by decide +kernel
theorem w_goes_both : PyData.eqv (.str ("goes" : Str)) (.str ("both" : Str)) = false := by decide +kernel
theorem w_both_all : PyData.eqv (.str ("both" : Str)) (.str ("all" : Str)) = false := by decide +kernel
theorem w_both_none : PyData.eqv (.str ("both" : Str)) (.str ("none" : Str)) = false := by decide +kernel
theorem w_both_one : PyData.eqv (.str ("both" : Str)) (.str ("one" : Str)) = false := by decide +kernel
theorem w_both_line : PyData.eqv (.str ("both" : Str)) (.str ("line" : Str)) = false := by decide +kernel
theorem w_both_power : PyData.eqv (.str ("both" : Str)) (.str ("power" : Str)) = false := by decide +kernel
theorem w_both_ahead : PyData.eqv (.str ("both" : Str)) (.str ("ahead" : Str)) = false := by decide +kernel
theorem w_both_behind : PyData.eqv (.str ("both" : Str)) (.str ("behind" : Str)) = false := by decide +kernel
theorem w_both_between : PyData.eqv (.str ("both" : Str)) (.str ("between" : Str)) = false := by decide +kernel
theorem w_both_moves : PyData.eqv (.str ("both" : Str)) (.str ("moves" : Str)) = false := by decide +kernel
theorem w_both_goes : PyData.eqv (.str ("both" : Str)) (.str ("goes" : Str)) = false := by decide +kernel
theorem w_both_both : PyData.eqv (.str ("both" : Str)) (.str ("both" : Str)) = true := by decide +kernel
theorem at10 (a : D) : atI [a] 0 = some a := rfl
theorem at20 (a b : D) : atI [a, b] 0 = some a := rfl
theorem at21 (a b : D) : atI [a, b] 1 = some b := rfl
theorem at30 (a b c : D) : atI [a, b, c] 0 = some a := rfl
theorem at31 (a b c : D) : atI [a, b, c] 1 = some b := rfl
theorem at32 (a b c : D) : atI [a, b, c] 2 = some c := rfl
theorem at40 (a b c d : D) : atI [a, b, c, d] 0 = some a := rfl
theorem at41 (a b c d : D) : atI [a, b, c, d] 1 = some b := rfl
theorem at42 (a b c d : D) : atI [a, b, c, d] 2 = some c := rfl
theorem at43 (a b c d : D) : atI [a, b, c, d] 3 = some d := rfl
theorem py_str {M : MH} {n : Nat} {x : Str} : py M (n + 1) (.str x) = some (.str x) := by simp [py]
theorem py_tup {M : MH} {n : Nat} {ds : List D} : py M (n + 1) (.tup ds) = (pys (py M n) ds).map .tuple := by simp [py]
local macro_rules | `(tactic| walk_at "sq") => `(tactic| simp only [dIx, at10, at20, at21, at30, at31, at32, at40, at41, at42, at43, dEq, dNe, dInB, py_str, py_tup, pys, Option.map_some, List.any_cons, List.any_nil, Bool.or_false, Bool.or_true, Bool.true_or, Bool.false_or, Bool.not_true, Bool.not_false, Bool.false_eq_true, if_true, if_false, w_all_all, w_all_none, w_all_one, w_all_line, w_all_power, w_all_ahead, w_all_behind, w_all_between, w_all_moves, w_all_goes, w_all_both, w_none_all, w_none_none, w_none_one, w_none_line, w_none_power, w_none_ahead, w_none_behind, w_none_between, w_none_moves, w_none_goes, w_none_both, w_one_all, w_one_none, w_one_one, w_one_line, w_one_power, w_one_ahead, w_one_behind, w_one_between, w_one_moves, w_one_goes, w_one_both, w_line_all, w_line_none, w_line_one, w_line_line, w_line_power, w_line_ahead, w_line_behind, w_line_between, w_line_moves, w_line_goes, w_line_both, w_power_all, w_power_none, w_power_one, w_power_line, w_power_power, w_power_ahead, w_power_behind, w_power_between, w_power_moves, w_power_goes, w_power_both, w_ahead_all, w_ahead_none, w_ahead_one, w_ahead_line, w_ahead_power, w_ahead_ahead, w_ahead_behind, w_ahead_between, w_ahead_moves, w_ahead_goes, w_ahead_both, w_behind_all, w_behind_none, w_behind_one, w_behind_line, w_behind_power, w_behind_ahead, w_behind_behind, w_behind_between, w_behind_moves, w_behind_goes, w_behind_both, w_between_all, w_between_none, w_between_one, w_between_line, w_between_power, w_between_ahead, w_between_behind, w_between_between, w_between_moves, w_between_goes, w_between_both, w_moves_all, w_moves_none, w_moves_one, w_moves_line, w_moves_power, w_moves_ahead, w_moves_behind, w_moves_between, w_moves_moves, w_moves_goes, w_moves_both, w_goes_all, w_goes_none, w_goes_one, w_goes_line, w_goes_power, w_goes_ahead, w_goes_behind, w_goes_between, w_goes_moves, w_goes_goes, w_goes_both, w_both_all, w_both_none, w_both_one, w_both_line, w_both_power, w_both_ahead, w_both_behind, w_both_between, w_both_moves, w_both_goes, w_both_both])

/-! ### power -/
def pwI (r : List Sp) (k : Int) : List Sp := red (if 0 ≤ k then r else undo r)
def pw (r : List Sp) (k : Int) : List Sp := if k = 0 then [] else
  (pwI r k).take (stalkOf (pwI r k)) ++ repl k.natAbs (((pwI r k).drop (stalkOf (pwI r k))).take ((pwI r k).length - 2 * stalkOf (pwI r k))) ++ (pwI r k).drop ((pwI r k).length - stalkOf (pwI r k))
theorem sp_power (n : Nat) (r : List Sp) (k : Int) (hk : -200 ≤ k ∧ k ≤ 200) (hl : r.length ≤ 400) : Pure (F (n + 4) 10) [rowD r, .int k] (rowD (pw r k)) := by
  intro M Q h
  rw [F_succ (r := f_power) rfl]
  refine ⟨rfl, ?_⟩
  simp only [f_power, i_power]
  walk_at "dn"
  refine sp_is_number (n + 2) k M _ fun M1 x1 => ?_
  simp only [Bool.not_true, Bool.false_eq_true, if_false, gl4, gl5, dC, dLe, dGe, dCI, decide_eq_true hk.1, decide_eq_true hk.2]
  have hul := undo_len r
  have fin : ∀ (its : List Sp) (M2 : MH), its = pwI r k → its.length ≤ 400 → Ext M M2 → dWh (denT (F (n + 3)) T.cs (.bop true (.cons (.cmp .Lt (.bin .Add (.bin .Mult (.cst (.int 2)) (.var 3)) (.cst (.int 1))) (.bi .len (.cons (.var 2) .nil))) (.cons (.cmp .Eq (.ix (.var 2) (.var 3)) (.call 4 (.cons (.ix (.var 2) (.bin .Sub (.bin .Sub (.bi .len (.cons (.var 2) .nil)) (.cst (.int 1))) (.var 3))) .nil))) .nil))))
      (denSs (F (n + 3)) T.cs (.cons (.aug 3 .Add (.cst (.int 1))) .nil)) { nx := denSs (F (n + 3)) T.cs (.cons (.asg (.nm 4) (.sl (.var 2) (.som (.var 3)) (.som (.bin .Sub (.bi .len (.cons (.var 2) .nil)) (.var 3))))) (.cons (.ite (.bop true (.cons (.cmp .NotEq (.var 1) (.cst (.int 0))) (.cons (.cmp .Gt (.bin .Add (.bin .Mult (.cst (.int 2)) (.var 3)) (.bin .Mult (.bi .abs (.cons (.var 1) .nil)) (.bi .len (.cons (.var 4) .nil)))) (.glo 4)) .nil))) (.cons .never .nil) .nil) (.cons (.ret (.ite (.cmp .NotEq (.var 1) (.cst (.int 0))) (.bin .Add (.bin .Add (.sl (.var 2) .non (.som (.var 3))) (.bin .Mult (.var 4) (.bi .abs (.cons (.var 1) .nil)))) (.sl (.var 2) (.som (.bin .Sub (.bi .len (.cons (.var 2) .nil)) (.var 3))) .non)) (.tup .nil))) .nil))) { nx := fun _ M' => Q .non M', rt := Q }, rt := Q } (its.length + 1) [some (rowD r), some (.int k), some (rowD its), some (.int 0), none] M2 := by
    intro its M2 hits hil x2
    refine loop_stalk (n + 2) its 2 3 _ (fun s => [some (rowD r), some (.int k), some (rowD its), some (.int s), none]) (fun _ => rfl) (fun _ => rfl) (fun _ _ => rfl) its.length 0 M2 (Nat.zero_le _) (by omega) fun M3 x3 => ?_
    have hs := stalkF_le its its.length 0 (Nat.zero_le _)
    have hq := h M3 (x2.trans x3)
    rw [pw, ← hits, stalkOf] at hq
    generalize hst : stalkF its its.length 0 = s at hs hq ⊢
    walk_at "dn"
    have e2 : (its.length : Int) - (s : Int) = ((its.length - s : Nat) : Int) := by omega
    have e3 : (its.drop s).take (its.length - s - s) = (its.drop s).take (its.length - 2 * s) := by
      rw [show its.length - s - s = its.length - 2 * s by omega]
    simp only [rowD, fLen, dSub, List.length_map, e2, cut_map, cutA_to, cutA_nat its s (its.length - s) (by omega), e3]
    have hri : ((its.drop s).take (its.length - 2 * s)).length ≤ 400 := by simp; omega
    generalize hr : (its.drop s).take (its.length - 2 * s) = ring at hri hq ⊢
    simp only [dNe, py_int, eqv_int]
    by_cases hk0 : k = 0
    · simp only [hk0, decide_true, Bool.not_true, Bool.false_eq_true, if_false] at hq ⊢
      exact ⟨ln2, hq⟩
    · rw [if_neg hk0] at hq
      simp only [decide_eq_false hk0, Bool.not_false, if_true, fAbs, fLen, gl4, dC, dGt, dMul, dAdd, List.length_map]
      have ha : (if k < 0 then -k else k) = (k.natAbs : Int) := by
        split <;> omega
      simp only [ha, mul2, true_and]
      have hka : k.natAbs ≤ 200 := by omega
      have hm : k.natAbs * ring.length ≤ 200 * 400 := Nat.mul_le_mul hka hri
      have hm2 : ring.length * k.natAbs ≤ 400 * 200 := Nat.mul_le_mul hri hka
      refine ⟨.inl (by rw [Int.natAbs_natCast]; exact Nat.lt_of_le_of_lt hka (by decide)), ?_⟩
      have hm3 : (k.natAbs : Int) * (ring.length : Int) ≤ 80000 := by
        have hm4 : ((k.natAbs * ring.length : Nat) : Int) ≤ 80000 := by omega
        rwa [Int.natCast_mul] at hm4
      have hc : decide ((100000 : Int) < 2 * (s : Int) + (k.natAbs : Int) * (ring.length : Int)) = false := by
        apply decide_eq_false
        omega
      simp only [dCI, hc, Bool.false_eq_true, if_false, Int.toNat_natCast, repl_map, List.length_map, repl_len]
      have e4 : cutA its (some ((its.length - s : Nat) : Int)) none = its.drop (its.length - s) := cutA_from its _
      rw [e4]
      refine ⟨by omega, by omega, ?_, ?_, ?_, ?_⟩
      · show _ ≤ 16777216
        omega
      · show _ ≤ 16777216
        rw [List.length_take]
        omega
      · show _ ≤ 16777216
        simp only [List.length_append, List.length_map, List.length_take, List.length_drop, repl_len]
        omega
      simp only [rowD, List.map_append] at hq
      exact hq
  by_cases c : 0 ≤ k
  · simp only [decide_eq_true c, if_true, Bool.not_true, Bool.false_eq_true, if_false]
    refine sp_shortened (n + 1) r (by simp [LN]; omega) M1 _ fun M2 x2 => ?_
    have hrl := red_len r
    exact ⟨_, fin (red r) M2 (by rw [pwI, if_pos c]) (by omega) (x1.trans x2)⟩
  · simp only [decide_eq_false c, Bool.false_eq_true, if_false, Bool.not_true]
    refine sp_undoing (n + 1) r (by simp [LN]; omega) M1 _ fun M2 x2 => ?_
    refine sp_shortened (n + 1) (undo r) (by simp [LN]; omega) M2 _ fun M3 x3 => ?_
    have hrl := red_len (undo r)
    exact ⟨_, fin (red (undo r)) M3 (by rw [pwI, if_neg c]) (by omega) (x1.trans (x2.trans x3))⟩
end K10

set_option Elab.async false
set_option linter.all false
set_option maxRecDepth 100000
set_option maxHeartbeats 2000000
namespace K10
open PySem Dn
open L2 (atI ixN)
local macro_rules | `(tactic| walk_at "dn") => `(tactic| simp only [denSs, denSt, denE, denEs, denT, denTB, denB, denO, denI, denS, dSeqS, dNext, dRet, dRetN, dDrop, dIfS, dAsg, dTup, dLst, dCons, dNil, dOp, dVar, dC, Cn.d, dBin, dCmp, dF, dTB, dAnd, dOr, dNot, dAndV, dOrV, dNotV, dIf, dChain, dSl, dPart, dNoPart, dMt, dSeq, dRev, dLc, dLc2, dFor, dPar, dSetS, dAug, dAugS, dAsgL, dNeg, dIsi, Bi.den, Mt.den, startE, bindP_nm, bindP_tp, bindPs_nil, bindPs_cons,
  List.map_cons, List.map_nil, List.length_cons, List.length_nil, Nat.reduceAdd, Nat.reduceSub, Nat.zero_add, List.replicate, List.replicate_zero, List.cons_append, List.nil_append, List.append_nil, List.getElem?_cons_zero, List.getElem?_cons_succ, List.set_cons_zero, List.set_cons_succ, Dn.wp, if_true, if_false, Bool.false_eq_true, ite_true, ite_false])
local macro_rules | `(tactic| walk_at "sq") => `(tactic| simp only [dIx, at10, at20, at21, at30, at31, at32, at40, at41, at42, at43, dEq, dNe, dInB, py_str, py_tup, pys, Option.map_some, List.any_cons, List.any_nil, Bool.or_false, Bool.or_true, Bool.true_or, Bool.false_or, Bool.not_true, Bool.not_false, Bool.false_eq_true, if_true, if_false, w_all_all, w_all_none, w_all_one, w_all_line, w_all_power, w_all_ahead, w_all_behind, w_all_between, w_all_moves, w_all_goes, w_all_both, w_none_all, w_none_none, w_none_one, w_none_line, w_none_power, w_none_ahead, w_none_behind, w_none_between, w_none_moves, w_none_goes, w_none_both, w_one_all, w_one_none, w_one_one, w_one_line, w_one_power, w_one_ahead, w_one_behind, w_one_between, w_one_moves, w_one_goes, w_one_both, w_line_all, w_line_none, w_line_one, w_line_line, w_line_power, w_line_ahead, w_line_behind, w_line_between, w_line_moves, w_line_goes, w_line_both, w_power_all, w_power_none, w_power_one, w_power_line, w_power_power, w_power_ahead, w_power_behind, w_power_between, w_power_moves, w_power_goes, w_power_both, w_ahead_all, w_ahead_none, w_ahead_one, w_ahead_line, w_ahead_power, w_ahead_ahead, w_ahead_behind, w_ahead_between, w_ahead_moves, w_ahead_goes, w_ahead_both, w_behind_all, w_behind_none, w_behind_one, w_behind_line, w_behind_power, w_behind_ahead, w_behind_behind, w_behind_between, w_behind_moves, w_behind_goes, w_behind_both, w_between_all, w_between_none, w_between_one, w_between_line, w_between_power, w_between_ahead, w_between_behind, w_between_between, w_between_moves, w_between_goes, w_between_both, w_moves_all, w_moves_none, w_moves_one, w_moves_line, w_moves_power, w_moves_ahead, w_moves_behind, w_moves_between, w_moves_moves, w_moves_goes, w_moves_both, w_goes_all, w_goes_none, w_goes_one, w_goes_line, w_goes_power, w_goes_ahead, w_goes_behind, w_goes_between, w_goes_moves, w_goes_goes, w_goes_both, w_both_all, w_both_none, w_both_one, w_both_line, w_both_power, w_both_ahead, w_both_behind, w_both_between, w_both_moves, w_both_goes, w_both_both])

/-! ### lots -/
inductive Lot where
  | all
  | none
  | one (r : List Sp)
  | line (s t : List Sp)
def Lot.d : Lot → D
  | .all => .tup [.str "all"]
  | .none => .tup [.str "none"]
  | .one r => .tup [.str "one", rowD r]
  | .line s t => .tup [.str "line", rowD s, rowD t]
def Lot.ok : Lot → Prop
  | .all => True
  | .none => True
  | .one r => r.length ≤ 400
  | .line s t => s.length ≤ 400 ∧ t.length ≤ 400
def someT (t x : List Sp) : Bool := decide ((rootL x).2 = 0) || (decide (t = (rootL x).1) || decide (undo t = (rootL x).1))
theorem eqv_sw (a b : List Sp) : PyData.eqv (.tuple (a.map spP)) (.tuple (b.map spP)) = decide (a = b) := eqv_row a b
theorem sp_is_some_times (n : Nat) (t x : List Sp) (ht : t.length ≤ 100000) (hx : x.length ≤ 100000) : Pure (F (n + 5) 22) [rowD t, rowD x] (.bl (someT t x)) := by
  intro M Q h
  rw [F_succ (r := f_is_some_times) rfl]
  refine ⟨rfl, ?_⟩
  simp only [f_is_some_times, i_is_some_times]
  walk_at "dn"
  refine sp_root n x hx M _ fun M1 x1 => ?_
  walk_at "dn"
  simp only [dEq, py_int, eqv_int]
  by_cases c : (rootL x).2 = 0
  · have := h M1 x1
    rw [someT, decide_eq_true c] at this
    simp only [c]
    exact this
  · have hc : decide (((rootL x).2 : Int) = 0) = false := decide_eq_false (by omega)
    simp only [hc]
    refine sp_undoing (n + 2) t (by show _ ≤ 16777216; omega) M1 _ fun M2 x2 => ?_
    refine ⟨ln2, ?_⟩
    have e : py M2 12 (D.tup [rowD t, rowD (undo t)]) = some (.tuple [.tuple (t.map spP), .tuple ((undo t).map spP)]) := by
      simp only [py_tup, pys, py_row M2 8, Option.map_some]
    simp only [dInB, e, py_row M2 9, List.any_cons, List.any_nil, eqv_sw, Bool.or_false, Bool.false_eq_true, if_false]
    have := h M2 (x1.trans x2)
    rw [someT, decide_eq_false c, Bool.false_or] at this
    exact this
def hasL : Lot → List Sp → Bool
  | .all, _ => true
  | .none, _ => false
  | .one r, x => decide (red x = r)
  | .line s t, x => someT t (red (undo s ++ x))
theorem sp_has_row (n : Nat) (l : Lot) (x : List Sp) (hl : l.ok) (hx : x.length ≤ 1000) : Pure (F (n + 6) 23) [l.d, rowD x] (.bl (hasL l x)) := by
  intro M Q h
  rw [F_succ (r := f_has_row) rfl]
  refine ⟨rfl, ?_⟩
  simp only [f_has_row, i_has_row]
  walk_at "dn"
  cases l with
  | all =>
    simp only [Lot.d]
    walk_at "sq"
    exact ⟨ln2, h M .refl⟩
  | none =>
    simp only [Lot.d]
    walk_at "sq"
    exact ⟨ln2, h M .refl⟩
  | one r =>
    simp only [Lot.d]
    walk_at "sq"
    refine ⟨ln2, ?_⟩
    refine sp_shortened (n + 3) x (by show _ ≤ 16777216; omega) M _ fun M1 x1 => ?_
    simp only [py_row M1 9, eqv_row]
    exact h M1 x1
  | line s t =>
    simp only [Lot.d]
    walk_at "sq"
    refine ⟨ln2, ?_⟩
    obtain ⟨hs, ht⟩ := hl
    refine sp_undoing (n + 3) s (by show _ ≤ 16777216; omega) M _ fun M1 x1 => ?_
    have hu := undo_len s
    refine sp_joined (n + 2) (undo s) x (by show _ ≤ 16777216; omega) M1 _ fun M2 x2 => ?_
    have hr := red_len (undo s ++ x)
    rw [List.length_append] at hr
    exact sp_is_some_times n t _ (by omega) (by omega) M2 _ fun M3 x3 => h M3 (x1.trans (x2.trans x3))
/-- in which are the same, but for two lines -/
def Lot.same : Lot → Lot → Bool
  | .all, .all => true
  | .none, .none => true
  | .one r, .one r' => decide (r = r')
  | .line s t, .line s' t' => (decide (t' = t) || decide (undo t' = t)) && hasL (.line s' t') s
  | _, _ => false
theorem sp_are_same (n : Nat) (a b : Lot) (ha : a.ok) (hb : b.ok) : Pure (F (n + 7) 25) [a.d, b.d] (.bl (a.same b)) := by
  intro M Q h
  rw [F_succ (r := f_are_same) rfl]
  refine ⟨rfl, ?_⟩
  simp only [f_are_same, i_are_same]
  walk_at "dn"
  have h0 := h M .refl
  cases a <;> cases b <;> simp only [Lot.d] <;> walk_at "sq"
  all_goals try simp only [py_row M 9, py_row M 8, Option.map_some, PyData.eqv, PyData.eqvAll, Bool.and_true, Bool.and_false, Bool.true_and, Bool.false_and]
  all_goals try exact h0
  case one.one r r' =>
    simp only [Lot.same] at h0
    rw [eqv_map eqv_sp]
    exact h0
  case line.line s t s' t' =>
    obtain ⟨hs, ht⟩ := ha
    have hb' := hb
    obtain ⟨hs', ht'⟩ := hb
    refine sp_undoing (n + 4) t' (by show _ ≤ 16777216; omega) M _ fun M1 x1 => ⟨ln2, ?_⟩
    have hq := h M1 x1
    simp only [py_row M1 9, py_row M1 8, Option.map_some, List.any_cons, List.any_nil, eqv_row, Bool.or_false]
    simp only [Lot.same] at hq h
    cases c : (decide (t' = t) || decide (undo t' = t)) with
    | false =>
      rw [c] at hq
      exact hq
    | true =>
      rw [c] at h
      refine sp_has_row n (.line s' t') s hb' (by omega) M1 _ fun M2 x2 => ?_
      exact h M2 (x1.trans x2)
/-- what is in both, lines alike in their turns -/
def Lot.both : Lot → Lot → Lot
  | .all, b => b
  | _, .none => .none
  | a, .all => a
  | .none, _ => .none
  | .one r, b => if hasL b r then .one r else .none
  | a, .one r => if hasL a r then .one r else .none
  | .line s t, .line s' t' => if hasL (.line s' t') s then .line s t else .none
def Lot.likeT : Lot → Lot → Prop
  | .line s t, .line s' t' => (t' = t ∨ undo t' = t) ∧ s.length + t.length + s'.length + t'.length ≤ 400
  | _, _ => True
theorem sp_both_lots (n : Nat) (a b : Lot) (ha : a.ok) (hb : b.ok) (hab : a.likeT b) : Pure (F (n + 7) 27) [a.d, b.d] (a.both b).d := by
  intro M Q h
  rw [F_succ (r := f_both_lots) rfl]
  refine ⟨rfl, ?_⟩
  simp only [f_both_lots, i_both_lots]
  walk_at "dn"
  have h0 := h M .refl
  cases a <;> cases b <;> simp only [Lot.d] <;> walk_at "sq"
  all_goals try exact h0
  case one.one r r' =>
    refine sp_has_row n (.one r') r hb (by have : r.length ≤ 400 := ha; omega) M _ fun M1 x1 => ?_
    have hq := h M1 x1
    rw [show Lot.both (.one r) (.one r') = (if hasL (.one r') r then .one r else .none) from rfl] at hq
    split at hq
    · rename_i c; rw [c]; exact hq
    · rename_i c; rw [eq_false_of_ne_true c]; exact ⟨ln2, hq⟩
  case one.line r s t =>
    refine sp_has_row n (.line s t) r hb (by have : r.length ≤ 400 := ha; omega) M _ fun M1 x1 => ?_
    have hq := h M1 x1
    rw [show Lot.both (.one r) (.line s t) = (if hasL (.line s t) r then .one r else .none) from rfl] at hq
    split at hq
    · rename_i c; rw [c]; exact hq
    · rename_i c; rw [eq_false_of_ne_true c]; exact ⟨ln2, hq⟩
  case line.one s t r =>
    refine sp_has_row n (.line s t) r ha (by have : r.length ≤ 400 := hb; omega) M _ fun M1 x1 => ?_
    have hq := h M1 x1
    rw [show Lot.both (.line s t) (.one r) = (if hasL (.line s t) r then .one r else .none) from rfl] at hq
    split at hq
    · rename_i c; rw [c]; exact hq
    · rename_i c; rw [eq_false_of_ne_true c]; exact ⟨ln2, hq⟩
  case line.line s t s' t' =>
    obtain ⟨hab1, hab2⟩ := hab
    have ec : ∀ a b c : D, cut [a, b, c] (some 1) none = [b, c] := fun _ _ _ => rfl
    simp only [ec, dAdd]
    refine ⟨(by decide : (4 : Nat) ≤ 16777216), ?_⟩
    refine lc_A (N := _) [s, t, s', t'] rowD (fun r => Dn.D.int r.length) (fun _ _ _ _ => trivial) (show 4 ≤ LN from ln2) (fun r hr => ⟨_, rfl, fun M' Q' x k => ?_⟩) (fun D M1 hD x1 e => ?_)
    · walk_at "dn"
      simp only [rowD, fLen, List.length_map]
      exact k M' .refl
    · unfold fSum onSeq
      simp only [rdL_lst e, List.map_cons, List.map_nil, intsD, gl8, dC, dGt, dCI]
      have hs : decide ((400 : Int) < ([(s.length : Int), (t.length : Int), (s'.length : Int), (t'.length : Int)]).sum) = false := by
        apply decide_eq_false
        simp
        omega
      simp only [Option.map_some, hs, Bool.false_eq_true, if_false]
      obtain ⟨hs', ht'⟩ := hb
      have hsl : s.length ≤ 400 := ha.1
      refine sp_undoing (n + 4) t' (by show _ ≤ 16777216; omega) M1 _ fun M2 x2 => ⟨ln2, ?_⟩
      simp only [py_row M2 9, py_row M2 8, Option.map_some, List.any_cons, List.any_nil, eqv_row, Bool.or_false]
      have c : (decide (t' = t) || decide (undo t' = t)) = true := by
        rcases hab1 with c | c <;> simp [c]
      rw [c]
      simp only [if_true]
      refine sp_has_row n (.line s' t') s ⟨hs', ht'⟩ (by omega) M2 _ fun M3 x3 => ?_
      have hq := h M3 (x1.trans (x2.trans x3))
      rw [show Lot.both (.line s t) (.line s' t') = (if hasL (.line s' t') s then .line s t else .none) from rfl] at hq
      split at hq
      · rename_i c; rw [c]; exact hq
      · rename_i c; rw [eq_false_of_ne_true c]; exact ⟨ln2, hq⟩
def shortB (r : List Sp) : Bool := (r.zip (r.drop 1)).all fun q => !decide (q.1 = inv q.2)
theorem sp_is_turn (n : Nat) (t : List Sp) (hl : t.length ≤ 400) (hg : ∀ p ∈ t, good p) (hs : shortB t = true) (hr : (rootL t).2 = 1) : Pure (F (n + 5) 20) [rowD t] (.bl true) := by
  intro M Q h
  rw [F_succ (r := f_is_turn) rfl]
  refine ⟨rfl, ?_⟩
  simp only [f_is_turn, i_is_turn]
  walk_at "dn"
  refine sp_is_short_row (n + 1) t (by omega) hg M _ fun M1 x1 => ?_
  rw [show ((t.zip (t.drop 1)).all fun q => !decide (q.1 = inv q.2)) = true from hs]
  simp only []
  refine sp_root n t (by omega) M1 _ fun M2 x2 => ?_
  simp only [dIx, at21, dEq, py_int, eqv_int, hr]
  exact h M2 (x1.trans x2)
/-- what is_lot finds to be a lot -/
def Lot.fine : Lot → Prop
  | .all => True
  | .none => True
  | .one r => r.length ≤ 400 ∧ (∀ p ∈ r, good p) ∧ shortB r = true
  | .line s t => (s.length ≤ 400 ∧ (∀ p ∈ s, good p) ∧ shortB s = true) ∧ (t.length ≤ 400 ∧ (∀ p ∈ t, good p) ∧ shortB t = true) ∧ (rootL t).2 = 1
theorem sp_is_lot (n : Nat) (a : Lot) (ha : a.fine) : Pure (F (n + 6) 21) [a.d] (.bl true) := by
  intro M Q h
  rw [F_succ (r := f_is_lot) rfl]
  refine ⟨rfl, ?_⟩
  simp only [f_is_lot, i_is_lot]
  walk_at "dn"
  have ht : (!("tuple" == "tuple" || "tuple" == "bool" && "tuple" == "int")) = false := by decide
  have hs : (!("str" == "str" || "str" == "bool" && "str" == "int")) = false := by decide
  have h0 := h M .refl
  cases a <;> simp only [Lot.d] <;> walk_at "sq" <;> simp only [tyD, fLen, ht, hs, Bool.false_eq_true, if_false, py_row M 8, Option.map_some, PyData.eqv, PyData.eqvAll, py_int]
  · exact ⟨ln2, ln2, h0⟩
  · exact ⟨ln2, ln2, h0⟩
  case one r =>
    refine ⟨ln2, ln2, ?_⟩
    obtain ⟨h1, h2, h3⟩ := ha
    refine sp_is_short_row (n + 2) r (by omega) h2 M _ fun M1 x1 => ?_
    rw [show ((r.zip (r.drop 1)).all fun q => !decide (q.1 = inv q.2)) = true from h3]
    exact h M1 x1
  case line s t =>
    refine ⟨ln2, ln2, ?_⟩
    obtain ⟨⟨h1, h2, h3⟩, ⟨h4, h5, h6⟩, h7⟩ := ha
    refine sp_is_short_row (n + 2) s (by omega) h2 M _ fun M1 x1 => ?_
    rw [show ((s.zip (s.drop 1)).all fun q => !decide (q.1 = inv q.2)) = true from h3]
    exact sp_is_turn n t h4 h5 h6 h7 M1 _ fun M2 x2 => h M2 (x1.trans x2)
theorem sp_row_at (n : Nat) (s t : List Sp) (k : Int) (hk : -200 ≤ k ∧ k ≤ 200) (hs : s.length ≤ 400) (ht : t.length ≤ 400) (hp : (pw t k).length ≤ 100000) : Pure (F (n + 5) 24) [(Lot.line s t).d, .int k] (rowD (red (s ++ pw t k))) := by
  intro M Q h
  rw [F_succ (r := f_row_at) rfl]
  refine ⟨rfl, ?_⟩
  simp only [f_row_at, i_row_at]
  walk_at "dn"
  simp only [Lot.d]
  walk_at "sq"
  refine ⟨ln2, ?_⟩
  refine sp_is_number (n + 3) k M _ fun M1 x1 => ?_
  simp only [Bool.not_true, Bool.false_eq_true, if_false, gl7, dC, dLe, dCI, decide_eq_true hk.1, decide_eq_true hk.2]
  refine sp_power n t k hk ht M1 _ fun M2 x2 => ?_
  exact sp_joined (n + 1) s (pw t k) (by show _ ≤ 16777216; omega) M2 _ fun M3 x3 => h M3 (x1.trans (x2.trans x3))
end K10

set_option Elab.async false
set_option linter.all false
set_option maxRecDepth 100000
set_option maxHeartbeats 2000000
namespace K10
open PySem Dn
open L2 (atI ixN)
local macro_rules | `(tactic| walk_at "dn") => `(tactic| simp only [denSs, denSt, denE, denEs, denT, denTB, denB, denO, denI, denS, dSeqS, dNext, dRet, dRetN, dDrop, dIfS, dAsg, dTup, dLst, dCons, dNil, dOp, dVar, dC, Cn.d, dBin, dCmp, dF, dTB, dAnd, dOr, dNot, dAndV, dOrV, dNotV, dIf, dChain, dSl, dPart, dNoPart, dMt, dSeq, dRev, dLc, dLc2, dFor, dPar, dSetS, dAug, dAugS, dAsgL, dNeg, dIsi, Bi.den, Mt.den, startE, bindP_nm, bindP_tp, bindPs_nil, bindPs_cons,
  List.map_cons, List.map_nil, List.length_cons, List.length_nil, Nat.reduceAdd, Nat.reduceSub, Nat.zero_add, List.replicate, List.replicate_zero, List.cons_append, List.nil_append, List.append_nil, List.getElem?_cons_zero, List.getElem?_cons_succ, List.set_cons_zero, List.set_cons_succ, Dn.wp, if_true, if_false, Bool.false_eq_true, ite_true, ite_false])
local macro_rules | `(tactic| walk_at "sq") => `(tactic| simp only [dIx, at10, at20, at21, at30, at31, at32, at40, at41, at42, at43, dEq, dNe, dInB, py_str, py_tup, pys, Option.map_some, List.any_cons, List.any_nil, Bool.or_false, Bool.or_true, Bool.true_or, Bool.false_or, Bool.not_true, Bool.not_false, Bool.false_eq_true, if_true, if_false, w_all_all, w_all_none, w_all_one, w_all_line, w_all_power, w_all_ahead, w_all_behind, w_all_between, w_all_moves, w_all_goes, w_all_both, w_none_all, w_none_none, w_none_one, w_none_line, w_none_power, w_none_ahead, w_none_behind, w_none_between, w_none_moves, w_none_goes, w_none_both, w_one_all, w_one_none, w_one_one, w_one_line, w_one_power, w_one_ahead, w_one_behind, w_one_between, w_one_moves, w_one_goes, w_one_both, w_line_all, w_line_none, w_line_one, w_line_line, w_line_power, w_line_ahead, w_line_behind, w_line_between, w_line_moves, w_line_goes, w_line_both, w_power_all, w_power_none, w_power_one, w_power_line, w_power_power, w_power_ahead, w_power_behind, w_power_between, w_power_moves, w_power_goes, w_power_both, w_ahead_all, w_ahead_none, w_ahead_one, w_ahead_line, w_ahead_power, w_ahead_ahead, w_ahead_behind, w_ahead_between, w_ahead_moves, w_ahead_goes, w_ahead_both, w_behind_all, w_behind_none, w_behind_one, w_behind_line, w_behind_power, w_behind_ahead, w_behind_behind, w_behind_between, w_behind_moves, w_behind_goes, w_behind_both, w_between_all, w_between_none, w_between_one, w_between_line, w_between_power, w_between_ahead, w_between_behind, w_between_between, w_between_moves, w_between_goes, w_between_both, w_moves_all, w_moves_none, w_moves_one, w_moves_line, w_moves_power, w_moves_ahead, w_moves_behind, w_moves_between, w_moves_moves, w_moves_goes, w_moves_both, w_goes_all, w_goes_none, w_goes_one, w_goes_line, w_goes_power, w_goes_ahead, w_goes_behind, w_goes_between, w_goes_moves, w_goes_goes, w_goes_both, w_both_all, w_both_none, w_both_one, w_both_line, w_both_power, w_both_ahead, w_both_behind, w_both_between, w_both_moves, w_both_goes, w_both_both])

/-! ### equations -/
inductive Eqn where
  | power (k : Int) (r : List Sp)
  | ahead (a b : List Sp)
  | behind (a b : List Sp)
  | between (a b c : List Sp)
  | moves (a b : List Sp)
  | goes (a : List Sp)
def Eqn.d : Eqn → D
  | .power k r => .tup [.str "power", .int k, rowD r]
  | .ahead a b => .tup [.str "ahead", rowD a, rowD b]
  | .behind a b => .tup [.str "behind", rowD a, rowD b]
  | .between a b c => .tup [.str "between", rowD a, rowD b, rowD c]
  | .moves a b => .tup [.str "moves", rowD a, rowD b]
  | .goes a => .tup [.str "goes", rowD a]
def okR (r : List Sp) : Prop := r.length ≤ 60 ∧ ∀ p ∈ r, good p
def Eqn.ok : Eqn → Prop
  | .power k r => (1 ≤ k ∧ k ≤ 60) ∧ okR r
  | .ahead a b => okR a ∧ okR b
  | .behind a b => okR a ∧ okR b
  | .between a b c => okR a ∧ okR b ∧ okR c
  | .moves a b => okR a ∧ okR b
  | .goes a => okR a
def wholeD : List Eqn → D
  | [e] => e.d
  | es => .tup (.str "both" :: es.map Eqn.d)
theorem cut2 (a b : D) : cut [a, b] (some 1) none = [b] := rfl
theorem cut3 (a b c : D) : cut [a, b, c] (some 1) none = [b, c] := rfl
theorem cut4 (a b c d : D) : cut [a, b, c, d] (some 1) none = [b, c, d] := rfl
theorem cut32 (a b c : D) : cut [a, b, c] (some 2) none = [c] := rfl
theorem sp_parts_of (n : Nat) (es : List Eqn) (hl : 1 ≤ es.length ∧ es.length ≤ 3) : Pure (F (n + 1) 30) [wholeD es] (.tup (es.map Eqn.d)) := by
  intro M Q h
  rw [F_succ (r := f_parts_of) rfl]
  refine ⟨rfl, ?_⟩
  simp only [f_parts_of, i_parts_of]
  walk_at "dn"
  have h0 := h M .refl
  match es, hl with
  | [e], _ =>
    simp only [wholeD]
    cases e <;> simp only [Eqn.d] <;> walk_at "sq" <;> exact ⟨ln2, h0⟩
  | [e1, e2], _ =>
    simp only [wholeD, List.map_cons, List.map_nil]
    walk_at "sq"
    simp only [cut3]
    exact h0
  | [e1, e2, e3], _ =>
    simp only [wholeD, List.map_cons, List.map_nil]
    walk_at "sq"
    simp only [cut4]
    exact h0
def sides : Eqn → List Sp → List Sp × List Sp
  | .power k r, x => (pw x k, r)
  | .ahead a b, x => (x ++ a, b)
  | .behind a b, x => (a ++ x, b)
  | .between a b c, x => (a ++ x ++ b, c)
  | .moves a b, x => (x ++ a ++ undo x, b)
  | .goes a, x => (x ++ a, a ++ x)
theorem sp_sides_of (n : Nat) (e : Eqn) (x : List Sp) (he : e.ok) (hx : x.length ≤ 400) : Pure (F (n + 5) 34) [e.d, rowD x] (.tup [rowD (sides e x).1, rowD (sides e x).2]) := by
  intro M Q h
  rw [F_succ (r := f_sides_of) rfl]
  refine ⟨rfl, ?_⟩
  simp only [f_sides_of, i_sides_of]
  walk_at "dn"
  have h0 := h M .refl
  have hu := undo_len x
  cases e <;> simp only [Eqn.d] <;> walk_at "sq"
  case power k r =>
    obtain ⟨⟨h1, h2⟩, h3⟩ := he
    refine sp_power n x k (by omega) (by omega) M _ fun M1 x1 => ⟨ln2, h M1 x1⟩
  case ahead a b =>
    obtain ⟨⟨h1, _⟩, ⟨h2, _⟩⟩ := he
    simp only [rowD, dAdd, List.length_map, rowD_app]
    exact ⟨by show _ ≤ 16777216; omega, ln2, h0⟩
  case behind a b =>
    obtain ⟨⟨h1, _⟩, ⟨h2, _⟩⟩ := he
    simp only [rowD, dAdd, List.length_map, rowD_app]
    exact ⟨by show _ ≤ 16777216; omega, ln2, h0⟩
  case between a b c =>
    obtain ⟨⟨h1, _⟩, ⟨h2, _⟩, _⟩ := he
    simp only [rowD, dAdd, List.length_map, ← List.map_append, List.length_append]
    exact ⟨by show _ ≤ 16777216; omega, by show _ ≤ 16777216; omega, ln2, h0⟩
  case moves a b =>
    obtain ⟨⟨h1, _⟩, ⟨h2, _⟩⟩ := he
    simp only [rowD, dAdd, List.length_map, ← List.map_append, List.length_append]
    refine ⟨by show _ ≤ 16777216; omega, ?_⟩
    refine sp_undoing (n + 2) x (by show _ ≤ 16777216; omega) M _ fun M1 x1 => ?_
    simp only [rowD, dAdd, List.length_map, ← List.map_append, List.length_append]
    exact ⟨by show _ ≤ 16777216; omega, ln2, h M1 x1⟩
  case goes a =>
    obtain ⟨h1, _⟩ := he
    simp only [rowD, dAdd, List.length_map, ← List.map_append, List.length_append]
    exact ⟨by show _ ≤ 16777216; omega, by show _ ≤ 16777216; omega, ln2, h0⟩
end K10

set_option Elab.async false
set_option linter.all false
set_option maxRecDepth 100000
set_option maxHeartbeats 2000000
namespace K10
open PySem Dn
open L2 (atI ixN)
local macro_rules | `(tactic| walk_at "dn") => `(tactic| simp only [denSs, denSt, denE, denEs, denT, denTB, denB, denO, denI, denS, dSeqS, dNext, dRet, dRetN, dDrop, dIfS, dAsg, dTup, dLst, dCons, dNil, dOp, dVar, dC, Cn.d, dBin, dCmp, dF, dTB, dAnd, dOr, dNot, dAndV, dOrV, dNotV, dIf, dChain, dSl, dPart, dNoPart, dMt, dSeq, dRev, dLc, dLc2, dFor, dPar, dSetS, dAug, dAugS, dAsgL, dNeg, dIsi, Bi.den, Mt.den, startE, bindP_nm, bindP_tp, bindPs_nil, bindPs_cons,
  List.map_cons, List.map_nil, List.length_cons, List.length_nil, Nat.reduceAdd, Nat.reduceSub, Nat.zero_add, List.replicate, List.replicate_zero, List.cons_append, List.nil_append, List.append_nil, List.getElem?_cons_zero, List.getElem?_cons_succ, List.set_cons_zero, List.set_cons_succ, Dn.wp, if_true, if_false, Bool.false_eq_true, ite_true, ite_false])
local macro_rules | `(tactic| walk_at "sq") => `(tactic| simp only [dIx, at10, at20, at21, at30, at31, at32, at40, at41, at42, at43, dEq, dNe, dInB, py_str, py_tup, pys, Option.map_some, List.any_cons, List.any_nil, Bool.or_false, Bool.or_true, Bool.true_or, Bool.false_or, Bool.not_true, Bool.not_false, Bool.false_eq_true, if_true, if_false, w_all_all, w_all_none, w_all_one, w_all_line, w_all_power, w_all_ahead, w_all_behind, w_all_between, w_all_moves, w_all_goes, w_all_both, w_none_all, w_none_none, w_none_one, w_none_line, w_none_power, w_none_ahead, w_none_behind, w_none_between, w_none_moves, w_none_goes, w_none_both, w_one_all, w_one_none, w_one_one, w_one_line, w_one_power, w_one_ahead, w_one_behind, w_one_between, w_one_moves, w_one_goes, w_one_both, w_line_all, w_line_none, w_line_one, w_line_line, w_line_power, w_line_ahead, w_line_behind, w_line_between, w_line_moves, w_line_goes, w_line_both, w_power_all, w_power_none, w_power_one, w_power_line, w_power_power, w_power_ahead, w_power_behind, w_power_between, w_power_moves, w_power_goes, w_power_both, w_ahead_all, w_ahead_none, w_ahead_one, w_ahead_line, w_ahead_power, w_ahead_ahead, w_ahead_behind, w_ahead_between, w_ahead_moves, w_ahead_goes, w_ahead_both, w_behind_all, w_behind_none, w_behind_one, w_behind_line, w_behind_power, w_behind_ahead, w_behind_behind, w_behind_between, w_behind_moves, w_behind_goes, w_behind_both, w_between_all, w_between_none, w_between_one, w_between_line, w_between_power, w_between_ahead, w_between_behind, w_between_between, w_between_moves, w_between_goes, w_between_both, w_moves_all, w_moves_none, w_moves_one, w_moves_line, w_moves_power, w_moves_ahead, w_moves_behind, w_moves_between, w_moves_moves, w_moves_goes, w_moves_both, w_goes_all, w_goes_none, w_goes_one, w_goes_line, w_goes_power, w_goes_ahead, w_goes_behind, w_goes_between, w_goes_moves, w_goes_goes, w_goes_both, w_both_all, w_both_none, w_both_one, w_both_line, w_both_power, w_both_ahead, w_both_behind, w_both_between, w_both_moves, w_both_goes, w_both_both])

/-! ### what solves one equation -/
def powSol (k : Int) (r : List Sp) : Lot := if ((rootL r).2 : Int).fmod k ≠ 0 then .none else .one (pw (rootL r).1 (((rootL r).2 : Int).fdiv k))
theorem root_len (r : List Sp) : (rootL r).1.length ≤ 3 * r.length ∧ (rootL r).2 ≤ r.length := by
  have hp := parted_len r
  have hq : (leastPart (partedL r).2).1.length ≤ (partedL r).2.length ∧ (leastPart (partedL r).2).2 ≤ (partedL r).2.length := lpL_len (partedL r).2 (List.range' 1 (partedL r).2.length)
  have hu := undo_len (partedL r).1
  unfold rootL
  split
  · simp only [List.length_append]
    omega
  · simp
theorem sp_power_solutions (n : Nat) (k : Int) (r : List Sp) (hk : 1 ≤ k ∧ k ≤ 60) (hl : r.length ≤ 60) : Pure (F (n + 5) 36) [.int k, rowD r] (powSol k r).d := by
  intro M Q h
  rw [F_succ (r := f_power_solutions) rfl]
  refine ⟨rfl, ?_⟩
  simp only [f_power_solutions, i_power_solutions]
  walk_at "dn"
  have hr := root_len r
  refine sp_root n r (by omega) M _ fun M1 x1 => ?_
  walk_at "dn"
  simp only [dMod, dNe, py_int, eqv_int]
  refine ⟨by omega, ?_⟩
  have hq := h M1 x1
  rw [powSol] at hq h
  by_cases c : ((rootL r).2 : Int).fmod k = 0
  · rw [if_neg (by simpa using c)] at h
    simp only [decide_eq_true c, Bool.not_true, Bool.false_eq_true, if_false, dFdiv]
    refine ⟨⟨by omega, by omega⟩, ?_⟩
    have hd : 0 ≤ ((rootL r).2 : Int).fdiv k ∧ ((rootL r).2 : Int).fdiv k ≤ 60 := by
      rw [Int.fdiv_eq_ediv_of_nonneg _ (by omega)]
      constructor
      · exact Int.ediv_nonneg (by omega) (by omega)
      · exact Int.le_trans (Int.ediv_le_self _ (by omega)) (by omega)
    refine sp_power n (rootL r).1 _ (by omega) (by omega) M1 _ fun M2 x2 => ⟨ln2, ?_⟩
    exact h M2 (x1.trans x2)
  · rw [if_pos c] at hq
    simp only [decide_eq_false c, Bool.not_false, if_true]
    exact ⟨ln2, hq⟩
/-- what moves a row to another one: the same when shortened, or no turn of it -/
def movSol (r r' : List Sp) : Lot := if red r = red r' then (if (rootL r).2 = 0 then .all else .line (red (red ((partedL r).1 ++ undo []) ++ undo (partedL r).1)) (rootL r).1) else .none
theorem sp_moves_solutions (n : Nat) (r r' : List Sp) (hl : r.length ≤ 60) (hl' : r'.length ≤ 60) (hd : red r = red r' ∨ leastTurn (partedL r).2 ≠ leastTurn (partedL r').2) : Pure (F (n + 7) 37) [rowD r, rowD r'] (movSol r r').d := by
  intro M Q h
  rw [F_succ (r := f_moves_solutions) rfl]
  refine ⟨rfl, ?_⟩
  simp only [f_moves_solutions, i_moves_solutions]
  walk_at "dn"
  refine sp_root (n + 2) r (by omega) M _ fun M1 x1 => ?_
  walk_at "dn"
  by_cases c : red r = red r'
  · refine sp_mover_same n r r' (by omega) (by omega) c M1 _ fun M2 x2 => ?_
    have hq := h M2 (x1.trans x2)
    rw [movSol, if_pos c] at hq
    simp only [dIs, rowD, if_false, Bool.false_eq_true, reduceCtorEq, decide_false]
    simp only [dEq, py_int, eqv_int]
    by_cases c2 : (rootL r).2 = 0
    · rw [if_pos c2] at hq
      simp only [c2]
      exact ⟨ln2, hq⟩
    · rw [if_neg c2] at hq
      have : decide (((rootL r).2 : Int) = 0) = false := decide_eq_false (by omega)
      simp only [this, Bool.false_eq_true, if_false]
      exact ⟨ln2, hq⟩
  · have hne : leastTurn (partedL r).2 ≠ leastTurn (partedL r').2 := by
      rcases hd with hd | hd
      · exact (c hd).elim
      · exact hd
    refine sp_mover_none n r r' (by omega) (by omega) hne M1 _ fun M2 x2 => ?_
    have hq := h M2 (x1.trans x2)
    rw [movSol, if_neg c] at hq
    simp only [dIs, if_false, Bool.false_eq_true, decide_true]
    exact ⟨ln2, hq⟩
def single : Eqn → Lot
  | .power k r => powSol k r
  | .ahead a b => .one (red (b ++ undo a))
  | .behind a b => .one (red (undo a ++ b))
  | .between a b c => .one (red (undo a ++ (c ++ (undo b ++ []))))
  | .moves a b => movSol a b
  | .goes a => movSol a a
/-- for what is moved -/
def Eqn.clear : Eqn → Prop
  | .moves a b => red a = red b ∨ leastTurn (partedL a).2 ≠ leastTurn (partedL b).2
  | _ => True
theorem sp_single (n : Nat) (e : Eqn) (he : e.ok) (hc : e.clear) : Pure (F (n + 8) 38) [e.d] (single e).d := by
  intro M Q h
  rw [F_succ (r := f_single_solutions) rfl]
  refine ⟨rfl, ?_⟩
  simp only [f_single_solutions, i_single_solutions]
  walk_at "dn"
  cases e <;> simp only [Eqn.d] <;> walk_at "sq"
  case power k r =>
    obtain ⟨hk, hr, _⟩ := he
    exact sp_power_solutions (n + 2) k r hk hr M _ h
  case ahead a b =>
    obtain ⟨⟨h1, _⟩, ⟨h2, _⟩⟩ := he
    have hu := undo_len a
    refine sp_undoing (n + 5) a (by show _ ≤ 16777216; omega) M _ fun M1 x1 => ?_
    refine sp_joined (n + 4) b (undo a) (by show _ ≤ 16777216; omega) M1 _ fun M2 x2 => ⟨ln2, ?_⟩
    exact h M2 (x1.trans x2)
  case behind a b =>
    obtain ⟨⟨h1, _⟩, ⟨h2, _⟩⟩ := he
    have hu := undo_len a
    refine sp_undoing (n + 5) a (by show _ ≤ 16777216; omega) M _ fun M1 x1 => ?_
    refine sp_joined (n + 4) (undo a) b (by show _ ≤ 16777216; omega) M1 _ fun M2 x2 => ⟨ln2, ?_⟩
    exact h M2 (x1.trans x2)
  case between a b c =>
    obtain ⟨⟨h1, _⟩, ⟨h2, _⟩, ⟨h3, _⟩⟩ := he
    have hu := undo_len a
    have hu' := undo_len b
    refine sp_undoing (n + 5) a (by show _ ≤ 16777216; omega) M _ fun M1 x1 => ?_
    refine sp_undoing (n + 5) b (by show _ ≤ 16777216; omega) M1 _ fun M2 x2 => ⟨ln2, fun p hp => ?_⟩
    refine sp_product (n + 4) [undo a, c, undo b] (by show _ ≤ 16777216; simp only [List.flatten_cons, List.flatten_nil, List.length_append, List.length_nil]; omega) p _ (rdL_lst up_same) _ fun M3 x3 => ⟨ln2, ?_⟩
    exact h M3 (x1.trans (x2.trans ((Ext.up hp).trans x3)))
  case moves a b =>
    obtain ⟨⟨h1, _⟩, ⟨h2, _⟩⟩ := he
    exact sp_moves_solutions n a b h1 h2 hc M _ h
  case goes a =>
    obtain ⟨h1, _⟩ := he
    exact sp_moves_solutions n a a h1 h1 (.inl rfl) M _ h
end K10

set_option Elab.async false
set_option linter.all false
set_option maxRecDepth 100000
set_option maxHeartbeats 2000000
namespace K10
open PySem Dn
open L2 (atI ixN)
local macro_rules | `(tactic| walk_at "dn") => `(tactic| simp only [denSs, denSt, denE, denEs, denT, denTB, denB, denO, denI, denS, dSeqS, dNext, dRet, dRetN, dDrop, dIfS, dAsg, dTup, dLst, dCons, dNil, dOp, dVar, dC, Cn.d, dBin, dCmp, dF, dTB, dAnd, dOr, dNot, dAndV, dOrV, dNotV, dIf, dChain, dSl, dPart, dNoPart, dMt, dSeq, dRev, dLc, dLc2, dFor, dPar, dSetS, dAug, dAugS, dAsgL, dNeg, dIsi, Bi.den, Mt.den, startE, bindP_nm, bindP_tp, bindPs_nil, bindPs_cons,
  List.map_cons, List.map_nil, List.length_cons, List.length_nil, Nat.reduceAdd, Nat.reduceSub, Nat.zero_add, List.replicate, List.replicate_zero, List.cons_append, List.nil_append, List.append_nil, List.getElem?_cons_zero, List.getElem?_cons_succ, List.set_cons_zero, List.set_cons_succ, Dn.wp, if_true, if_false, Bool.false_eq_true, ite_true, ite_false])
local macro_rules | `(tactic| walk_at "sq") => `(tactic| simp only [dIx, at10, at20, at21, at30, at31, at32, at40, at41, at42, at43, dEq, dNe, dInB, py_str, py_tup, pys, Option.map_some, List.any_cons, List.any_nil, Bool.or_false, Bool.or_true, Bool.true_or, Bool.false_or, Bool.not_true, Bool.not_false, Bool.false_eq_true, if_true, if_false, w_all_all, w_all_none, w_all_one, w_all_line, w_all_power, w_all_ahead, w_all_behind, w_all_between, w_all_moves, w_all_goes, w_all_both, w_none_all, w_none_none, w_none_one, w_none_line, w_none_power, w_none_ahead, w_none_behind, w_none_between, w_none_moves, w_none_goes, w_none_both, w_one_all, w_one_none, w_one_one, w_one_line, w_one_power, w_one_ahead, w_one_behind, w_one_between, w_one_moves, w_one_goes, w_one_both, w_line_all, w_line_none, w_line_one, w_line_line, w_line_power, w_line_ahead, w_line_behind, w_line_between, w_line_moves, w_line_goes, w_line_both, w_power_all, w_power_none, w_power_one, w_power_line, w_power_power, w_power_ahead, w_power_behind, w_power_between, w_power_moves, w_power_goes, w_power_both, w_ahead_all, w_ahead_none, w_ahead_one, w_ahead_line, w_ahead_power, w_ahead_ahead, w_ahead_behind, w_ahead_between, w_ahead_moves, w_ahead_goes, w_ahead_both, w_behind_all, w_behind_none, w_behind_one, w_behind_line, w_behind_power, w_behind_ahead, w_behind_behind, w_behind_between, w_behind_moves, w_behind_goes, w_behind_both, w_between_all, w_between_none, w_between_one, w_between_line, w_between_power, w_between_ahead, w_between_behind, w_between_between, w_between_moves, w_between_goes, w_between_both, w_moves_all, w_moves_none, w_moves_one, w_moves_line, w_moves_power, w_moves_ahead, w_moves_behind, w_moves_between, w_moves_moves, w_moves_goes, w_moves_both, w_goes_all, w_goes_none, w_goes_one, w_goes_line, w_goes_power, w_goes_ahead, w_goes_behind, w_goes_between, w_goes_moves, w_goes_goes, w_goes_both, w_both_all, w_both_none, w_both_one, w_both_line, w_both_power, w_both_ahead, w_both_behind, w_both_between, w_both_moves, w_both_goes, w_both_both])

/-! ### what solves all equations -/
def solveFrom : Lot → List Eqn → Lot
  | l, [] => l
  | l, e :: es => solveFrom (l.both (single e)) es
/-- each step is a case that both_lots tells -/
def Clear : Lot → List Eqn → Prop
  | _, [] => True
  | l, e :: es => e.ok ∧ e.clear ∧ l.ok ∧ (single e).ok ∧ l.likeT (single e) ∧ Clear (l.both (single e)) es
theorem loop_solve (n : Nat) (w : D) (Q : D → MH → Prop) (E : En) (hE : ∀ l x M', E.nx [some w, some (Lot.d l), x] M' = Q l.d M') : ∀ (es : List Eqn) (l : Lot) (x : Option D) (M : MH), Clear l es → (∀ M', Ext M M' → Q (solveFrom l es).d M') →
    dLoop (.nm 2) (denSs (F (n + 8)) T.cs (.cons (.asg (.nm 1) (.call 27 (.cons (.var 1) (.cons (.call 38 (.cons (.var 2) .nil)) .nil)))) .nil)) (fun _ => True) E (es.map Eqn.d) [some w, some l.d, x] M
  | [], l, x, M, _, q => ⟨trivial, by rw [hE]; exact q M .refl⟩
  | e :: es, l, x, M, ⟨h1, h2, h3, h4, h5, h6⟩, q => by
    have ih := loop_solve n w Q E hE es
    rw [List.map_cons]
    refine ⟨trivial, ?_⟩
    simp only [bindP_nm, List.set_cons_zero, List.set_cons_succ]
    generalize hL : dLoop (.nm 2) _ (fun _ => True) E _ = L at ih ⊢
    walk_at "dn"
    refine sp_single n e h1 h2 M _ fun M1 x1 => ?_
    refine sp_both_lots (n + 1) l (single e) h3 h4 h5 M1 _ fun M2 x2 => ?_
    have := ih (l.both (single e)) (some e.d) M2 h6 fun M' x' => q M' (x1.trans (x2.trans x'))
    exact this
theorem sp_solutions (n : Nat) (es : List Eqn) (hl : 1 ≤ es.length ∧ es.length ≤ 3) (hc : Clear .all es) : Pure (F (n + 9) 39) [wholeD es] (solveFrom .all es).d := by
  intro M Q h
  rw [F_succ (r := f_solutions) rfl]
  refine ⟨rfl, ?_⟩
  simp only [f_solutions, i_solutions]
  walk_at "dn"
  refine ⟨ln2, ?_⟩
  refine sp_parts_of (n + 7) es hl M _ fun M1 x1 => ?_
  simp only []
  exact loop_solve n (wholeD es) Q _ (fun l x M' => rfl) es .all none M1 hc fun M' x' => h M' (x1.trans x')
/-- whether a row makes all equations so -/
def solves (es : List Eqn) (x : List Sp) : Bool := es.all fun e => decide (red (sides e x).1 = red (sides e x).2)
theorem pwI_len (x : List Sp) (k : Int) : (pwI x k).length ≤ x.length := by
  unfold pwI
  split
  · exact red_len x
  · exact undo_len x ▸ red_len (undo x)
theorem pw_len (x : List Sp) (k : Int) (hk : -200 ≤ k ∧ k ≤ 200) (hx : x.length ≤ 400) : (pw x k).length ≤ 90000 := by
  have h := pwI_len x k
  unfold pw
  split
  · simp
  · have h2 : (((pwI x k).drop (stalkOf (pwI x k))).take ((pwI x k).length - 2 * stalkOf (pwI x k))).length ≤ 400 := by
      rw [List.length_take, List.length_drop]; omega
    have h3 : k.natAbs * (((pwI x k).drop (stalkOf (pwI x k))).take ((pwI x k).length - 2 * stalkOf (pwI x k))).length ≤ 200 * 400 := Nat.mul_le_mul (by omega) h2
    rw [List.length_append, List.length_append, repl_len]
    have h4 : ((pwI x k).take (stalkOf (pwI x k))).length ≤ 400 := by rw [List.length_take]; omega
    have h5 : ((pwI x k).drop ((pwI x k).length - stalkOf (pwI x k))).length ≤ 400 := by rw [List.length_drop]; omega
    omega
theorem sides_len (e : Eqn) (x : List Sp) (he : e.ok) (hx : x.length ≤ 400) : (sides e x).1.length ≤ 100000 ∧ (sides e x).2.length ≤ 100000 := by
  have hu := undo_len x
  cases e with
  | power k r =>
    obtain ⟨⟨h1, h2⟩, h3, _⟩ := he
    have := pw_len x k (by omega) hx
    simp only [sides]
    omega
  | ahead a b => obtain ⟨⟨h1, _⟩, ⟨h2, _⟩⟩ := he; simp only [sides, List.length_append]; omega
  | behind a b => obtain ⟨⟨h1, _⟩, ⟨h2, _⟩⟩ := he; simp only [sides, List.length_append]; omega
  | between a b c => obtain ⟨⟨h1, _⟩, ⟨h2, _⟩, ⟨h3, _⟩⟩ := he; simp only [sides, List.length_append]; omega
  | moves a b => obtain ⟨⟨h1, _⟩, ⟨h2, _⟩⟩ := he; simp only [sides, List.length_append]; omega
  | goes a => obtain ⟨h1, _⟩ := he; simp only [sides, List.length_append]; omega
theorem loop_solves (n : Nat) (w : D) (v : List Sp) (hv : v.length ≤ 400) (Q : D → MH → Prop) (E : En) (hn : ∀ env M', E.nx env M' = Q (.bl true) M') (hr : E.rt = Q) : ∀ (es : List Eqn) (x y z : Option D) (M : MH), (∀ e ∈ es, e.ok) → (∀ M', Ext M M' → Q (.bl (solves es v)) M') →
    dLoop (.nm 2) (denSs (F (n + 5)) T.cs (.cons (.asg (.tp (.cons (.nm 3) (.cons (.nm 4) .nil))) (.call 34 (.cons (.var 2) (.cons (.var 1) .nil)))) (.cons (.ite (.cmp .NotEq (.call 6 (.cons (.var 3) .nil)) (.call 6 (.cons (.var 4) .nil))) (.cons (.ret (.cst (.bl false))) .nil) .nil) .nil))) (fun _ => True) E (es.map Eqn.d) [some w, some (rowD v), x, y, z] M
  | [], x, y, z, M, _, q => ⟨trivial, by rw [hn]; exact q M .refl⟩
  | e :: es, x, y, z, M, h, q => by
    have ih := loop_solves n w v hv Q E hn hr es
    have he := h e List.mem_cons_self
    rw [List.map_cons]
    refine ⟨trivial, ?_⟩
    simp only [bindP_nm, List.set_cons_zero, List.set_cons_succ]
    generalize hL : dLoop (.nm 2) _ (fun _ => True) E _ = L at ih ⊢
    walk_at "dn"
    refine sp_sides_of n e v he hv M _ fun M1 x1 => ?_
    walk_at "dn"
    have hs := sides_len e v he hv
    refine sp_shortened (n + 3) (sides e v).1 (by show _ ≤ 16777216; omega) M1 _ fun M2 x2 => ?_
    refine sp_shortened (n + 3) (sides e v).2 (by show _ ≤ 16777216; omega) M2 _ fun M3 x3 => ?_
    simp only [dNe, py_row M3 9, eqv_row]
    by_cases c : red (sides e v).1 = red (sides e v).2
    · simp only [decide_eq_true c, Bool.not_true, Bool.false_eq_true, if_false]
      refine ih _ _ _ M3 (fun a ha => h a (List.mem_cons_of_mem _ ha)) fun M' x' => ?_
      have := q M' (x1.trans (x2.trans (x3.trans x')))
      rwa [solves, List.all_cons, decide_eq_true c, Bool.true_and] at this
    · simp only [decide_eq_false c, Bool.not_false, if_true]
      have := q M3 (x1.trans (x2.trans x3))
      rw [solves, List.all_cons, decide_eq_false c, Bool.false_and] at this
      rw [hr]
      exact this
theorem sp_is_solution (n : Nat) (es : List Eqn) (v : List Sp) (hl : 1 ≤ es.length ∧ es.length ≤ 3) (he : ∀ e ∈ es, e.ok) (hv : v.length ≤ 400) : Pure (F (n + 6) 35) [wholeD es, rowD v] (.bl (solves es v)) := by
  intro M Q h
  rw [F_succ (r := f_is_solution) rfl]
  refine ⟨rfl, ?_⟩
  simp only [f_is_solution, i_is_solution]
  walk_at "dn"
  refine sp_parts_of (n + 4) es hl M _ fun M1 x1 => ?_
  simp only []
  exact loop_solves n (wholeD es) v hv Q _ (fun _ _ => rfl) rfl es none none none M1 he fun M' x' => h M' (x1.trans x')
end K10

set_option Elab.async false
set_option linter.all false
set_option maxRecDepth 100000
set_option maxHeartbeats 2000000
namespace K10
open PySem Dn
open L2 (atI ixN)
local macro_rules | `(tactic| walk_at "dn") => `(tactic| simp only [denSs, denSt, denE, denEs, denT, denTB, denB, denO, denI, denS, dSeqS, dNext, dRet, dRetN, dDrop, dIfS, dAsg, dTup, dLst, dCons, dNil, dOp, dVar, dC, Cn.d, dBin, dCmp, dF, dTB, dAnd, dOr, dNot, dAndV, dOrV, dNotV, dIf, dChain, dSl, dPart, dNoPart, dMt, dSeq, dRev, dLc, dLc2, dFor, dPar, dSetS, dAug, dAugS, dAsgL, dNeg, dIsi, Bi.den, Mt.den, startE, bindP_nm, bindP_tp, bindPs_nil, bindPs_cons,
  List.map_cons, List.map_nil, List.length_cons, List.length_nil, Nat.reduceAdd, Nat.reduceSub, Nat.zero_add, List.replicate, List.replicate_zero, List.cons_append, List.nil_append, List.append_nil, List.getElem?_cons_zero, List.getElem?_cons_succ, List.set_cons_zero, List.set_cons_succ, Dn.wp, if_true, if_false, Bool.false_eq_true, ite_true, ite_false])
local macro_rules | `(tactic| walk_at "sq") => `(tactic| simp only [dIx, at10, at20, at21, at30, at31, at32, at40, at41, at42, at43, dEq, dNe, dInB, py_str, py_tup, pys, Option.map_some, List.any_cons, List.any_nil, Bool.or_false, Bool.or_true, Bool.true_or, Bool.false_or, Bool.not_true, Bool.not_false, Bool.false_eq_true, if_true, if_false, w_all_all, w_all_none, w_all_one, w_all_line, w_all_power, w_all_ahead, w_all_behind, w_all_between, w_all_moves, w_all_goes, w_all_both, w_none_all, w_none_none, w_none_one, w_none_line, w_none_power, w_none_ahead, w_none_behind, w_none_between, w_none_moves, w_none_goes, w_none_both, w_one_all, w_one_none, w_one_one, w_one_line, w_one_power, w_one_ahead, w_one_behind, w_one_between, w_one_moves, w_one_goes, w_one_both, w_line_all, w_line_none, w_line_one, w_line_line, w_line_power, w_line_ahead, w_line_behind, w_line_between, w_line_moves, w_line_goes, w_line_both, w_power_all, w_power_none, w_power_one, w_power_line, w_power_power, w_power_ahead, w_power_behind, w_power_between, w_power_moves, w_power_goes, w_power_both, w_ahead_all, w_ahead_none, w_ahead_one, w_ahead_line, w_ahead_power, w_ahead_ahead, w_ahead_behind, w_ahead_between, w_ahead_moves, w_ahead_goes, w_ahead_both, w_behind_all, w_behind_none, w_behind_one, w_behind_line, w_behind_power, w_behind_ahead, w_behind_behind, w_behind_between, w_behind_moves, w_behind_goes, w_behind_both, w_between_all, w_between_none, w_between_one, w_between_line, w_between_power, w_between_ahead, w_between_behind, w_between_between, w_between_moves, w_between_goes, w_between_both, w_moves_all, w_moves_none, w_moves_one, w_moves_line, w_moves_power, w_moves_ahead, w_moves_behind, w_moves_between, w_moves_moves, w_moves_goes, w_moves_both, w_goes_all, w_goes_none, w_goes_one, w_goes_line, w_goes_power, w_goes_ahead, w_goes_behind, w_goes_between, w_goes_moves, w_goes_goes, w_goes_both, w_both_all, w_both_none, w_both_one, w_both_line, w_both_power, w_both_ahead, w_both_behind, w_both_between, w_both_moves, w_both_goes, w_both_both])

/-! ### the form of equations -/
theorem lk_ahead : lkS ([("ahead", (.int 2)), ("behind", (.int 2)), ("between", (.int 3)), ("moves", (.int 2)), ("goes", (.int 1))] : List (Str × D)) "ahead" = some (.int 2) := rfl
theorem lk_behind : lkS ([("ahead", (.int 2)), ("behind", (.int 2)), ("between", (.int 3)), ("moves", (.int 2)), ("goes", (.int 1))] : List (Str × D)) "behind" = some (.int 2) := rfl
theorem lk_between : lkS ([("ahead", (.int 2)), ("behind", (.int 2)), ("between", (.int 3)), ("moves", (.int 2)), ("goes", (.int 1))] : List (Str × D)) "between" = some (.int 3) := rfl
theorem lk_moves : lkS ([("ahead", (.int 2)), ("behind", (.int 2)), ("between", (.int 3)), ("moves", (.int 2)), ("goes", (.int 1))] : List (Str × D)) "moves" = some (.int 2) := rfl
theorem lk_goes : lkS ([("ahead", (.int 2)), ("behind", (.int 2)), ("between", (.int 3)), ("moves", (.int 2)), ("goes", (.int 1))] : List (Str × D)) "goes" = some (.int 1) := rfl
theorem lk_both : lkS ([("ahead", (.int 2)), ("behind", (.int 2)), ("between", (.int 3)), ("moves", (.int 2)), ("goes", (.int 1))] : List (Str × D)) "both" = none := rfl
theorem sp_single_form (n : Nat) (e : Eqn) (he : e.ok) : Pure (F (n + 4) 29) [e.d] (.bl true) := by
  intro M Q h
  rw [F_succ (r := f_is_single_form) rfl]
  refine ⟨rfl, ?_⟩
  simp only [f_is_single_form, i_is_single_form]
  walk_at "dn"
  have ht : (!("tuple" == "tuple" || "tuple" == "bool" && "tuple" == "int")) = false := by decide
  have hs : (!("str" == "str" || "str" == "bool" && "str" == "int")) = false := by decide
  have h0 := h M .refl
  have rows : ∀ (rs : List (List Sp)) (M0 : MH) (env : Ev), (1 < env.length) → rs.length ≤ 3 → (∀ r ∈ rs, okR r) → Ext M M0 → ∀ D, M0 D = none → dLcL (Pat.nm 1) dYes (dF (F (n + 3) 28) (dCons (dVar 1) dNil)) (fun _ => True) env (fun M1 => fAll [.ref D] M1 Q) D (rs.map rowD) (up M0 D (.lst [])) := by
    intro rs M0 env hv hl hr x0
    refine lc_all rs rowD (fun _ => true) (fun _ _ _ _ => trivial) (by show _ ≤ 16777216; omega) (fun r hrm => ⟨_, rfl, fun M' Q' x k => ?_⟩) fun M' x => ?_
    · have := hr r hrm
      simp only [dF, dCons, dVar, dNil, List.getElem?_set_self hv]
      exact sp_is_row n r (by have := this.1; show _ ≤ 16777216; omega) this.2 M' _ k
    · have := h M' (x0.trans x)
      rwa [show (rs.all fun _ => true) = true by simp]
  cases e <;> simp only [Eqn.d] <;> walk_at "sq" <;> simp only [tyD, fLen, ht, hs, Bool.false_eq_true, if_false, py_row M 8, Option.map_some, PyData.eqv, PyData.eqvAll, py_int]
  case power k r =>
    obtain ⟨⟨h1, h2⟩, h3, h4⟩ := he
    refine ⟨ln2, ?_⟩
    have e3 : ((([D.str (Str.ofString "power"), D.int k, rowD r] : List D).length : Int) == 3) = true := rfl
    simp only [e3]
    refine sp_is_number (n + 2) k M _ fun M1 x1 => ?_
    simp only [gl9, dC, dLe, dCI, decide_eq_true h1, decide_eq_true h2]
    exact sp_is_row n r (by show _ ≤ 16777216; omega) h4 M1 _ fun M2 x2 => h M2 (x1.trans x2)
  case ahead a b =>
    refine ⟨ln2, ?_⟩
    obtain ⟨ha, hb⟩ := he
    have hr : ∀ r ∈ [a, b], okR r := fun r hm => by
      simp only [List.mem_cons, List.not_mem_nil, or_false] at hm
      rcases hm with rfl | rfl
      · exact ha
      · exact hb
    simp only [dt0, dKin, dKix, dOp, dC, dVar, List.getElem?_cons_zero, dIx, at30, lk_ahead, Option.isSome_some, if_false, Bool.false_eq_true, dAdd, py_int]
    rw [show ((PyData.int (([D.str (Str.ofString "ahead"), rowD a, rowD b] : List D).length : Int)).eqv (PyData.int (2 + 1))) = true from rfl]
    exact rows [a, b] M [some (D.tup [D.str (Str.ofString "ahead"), rowD a, rowD b]), none] (by simp) (by simp) hr .refl
  case behind a b =>
    refine ⟨ln2, ?_⟩
    obtain ⟨ha, hb⟩ := he
    have hr : ∀ r ∈ [a, b], okR r := fun r hm => by
      simp only [List.mem_cons, List.not_mem_nil, or_false] at hm
      rcases hm with rfl | rfl
      · exact ha
      · exact hb
    simp only [dt0, dKin, dKix, dOp, dC, dVar, List.getElem?_cons_zero, dIx, at30, lk_behind, Option.isSome_some, if_false, Bool.false_eq_true, dAdd, py_int]
    rw [show ((PyData.int (([D.str (Str.ofString "behind"), rowD a, rowD b] : List D).length : Int)).eqv (PyData.int (2 + 1))) = true from rfl]
    exact rows [a, b] M [some (D.tup [D.str (Str.ofString "behind"), rowD a, rowD b]), none] (by simp) (by simp) hr .refl
  case between a b c =>
    refine ⟨ln2, ?_⟩
    obtain ⟨ha, hb, hc⟩ := he
    have hr : ∀ r ∈ [a, b, c], okR r := fun r hm => by
      simp only [List.mem_cons, List.not_mem_nil, or_false] at hm
      rcases hm with rfl | rfl | rfl
      · exact ha
      · exact hb
      · exact hc
    simp only [dt0, dKin, dKix, dOp, dC, dVar, List.getElem?_cons_zero, dIx, at40, lk_between, Option.isSome_some, if_false, Bool.false_eq_true, dAdd, py_int]
    rw [show ((PyData.int (([D.str (Str.ofString "between"), rowD a, rowD b, rowD c] : List D).length : Int)).eqv (PyData.int (3 + 1))) = true from rfl]
    exact rows [a, b, c] M [some (D.tup [D.str (Str.ofString "between"), rowD a, rowD b, rowD c]), none] (by simp) (by simp) hr .refl
  case moves a b =>
    refine ⟨ln2, ?_⟩
    obtain ⟨ha, hb⟩ := he
    have hr : ∀ r ∈ [a, b], okR r := fun r hm => by
      simp only [List.mem_cons, List.not_mem_nil, or_false] at hm
      rcases hm with rfl | rfl
      · exact ha
      · exact hb
    simp only [dt0, dKin, dKix, dOp, dC, dVar, List.getElem?_cons_zero, dIx, at30, lk_moves, Option.isSome_some, if_false, Bool.false_eq_true, dAdd, py_int]
    rw [show ((PyData.int (([D.str (Str.ofString "moves"), rowD a, rowD b] : List D).length : Int)).eqv (PyData.int (2 + 1))) = true from rfl]
    exact rows [a, b] M [some (D.tup [D.str (Str.ofString "moves"), rowD a, rowD b]), none] (by simp) (by simp) hr .refl
  case goes a =>
    refine ⟨ln2, ?_⟩
    have hr : ∀ r ∈ [a], okR r := fun r hm => by rw [List.mem_singleton] at hm; subst hm; exact he
    simp only [dt0, dKin, dKix, dOp, dC, dVar, List.getElem?_cons_zero, dIx, at20, lk_goes, Option.isSome_some, if_false, Bool.false_eq_true, dAdd, py_int]
    rw [show ((PyData.int (([D.str (Str.ofString "goes"), rowD a] : List D).length : Int)).eqv (PyData.int (1 + 1))) = true from rfl]
    exact rows [a] M [some (D.tup [D.str (Str.ofString "goes"), rowD a]), none] (by simp) (by simp) hr .refl
def Eqn.p : Eqn → PyData
  | .power k r => .tuple [.str "power", .int k, .tuple (r.map spP)]
  | .ahead a b => .tuple [.str "ahead", .tuple (a.map spP), .tuple (b.map spP)]
  | .behind a b => .tuple [.str "behind", .tuple (a.map spP), .tuple (b.map spP)]
  | .between a b c => .tuple [.str "between", .tuple (a.map spP), .tuple (b.map spP), .tuple (c.map spP)]
  | .moves a b => .tuple [.str "moves", .tuple (a.map spP), .tuple (b.map spP)]
  | .goes a => .tuple [.str "goes", .tuple (a.map spP)]
theorem py_eqn (M : MH) (n : Nat) (e : Eqn) : py M (n + 4) e.d = some e.p := by
  cases e <;> simp only [Eqn.d, Eqn.p, py_tup, pys, py_str, py_int, py_row M n, Option.map_some]
theorem py_both (M : MH) (es : List Eqn) : py M 12 (D.tup (.str "both" :: es.map Eqn.d)) = some (.tuple (.str "both" :: es.map Eqn.p)) := by
  rw [py_tup, pys, py_str, pys_map (py_eqn M 7)]
  rfl
theorem at0c (a : D) (l : List D) : atI (a :: l) 0 = some a := by
  have := atI_cast (a :: l) 0 (by simp)
  simpa using this
theorem sp_single_form_both (n : Nat) (es : List Eqn) : Pure (F (n + 4) 29) [.tup (.str "both" :: es.map Eqn.d)] (.bl false) := by
  intro M Q h
  rw [F_succ (r := f_is_single_form) rfl]
  refine ⟨rfl, ?_⟩
  simp only [f_is_single_form, i_is_single_form]
  walk_at "dn"
  have ht : (!("tuple" == "tuple" || "tuple" == "bool" && "tuple" == "int")) = false := by decide
  have hs : (!("str" == "str" || "str" == "bool" && "str" == "int")) = false := by decide
  have ep : py M 12 (D.tup []) = some (.tuple []) := rfl
  simp only [tyD, ht, hs, Bool.false_eq_true, if_false, dEq, py_both, ep, PyData.eqv, PyData.eqvAll, dIx, at0c, py_str, w_both_power, dt0, dKin, dOp, dC, dVar, List.getElem?_cons_zero, lk_both, Option.isSome_none]
  refine ⟨ln2, ?_⟩
  rw [if_neg (by decide +kernel)]
  exact h M .refl
theorem cutc (a : D) (l : List D) : cut (a :: l) (some 1) none = l := by
  have h1 := cut_map id (a :: l) (some 1) none
  have h2 : cutA (a :: l) (some (1 : Int)) none = (a :: l).drop 1 := cutA_from (a :: l) 1
  rw [h2] at h1
  simpa using h1
theorem sp_equation_form (n : Nat) (es : List Eqn) (hl : 1 ≤ es.length ∧ es.length ≤ 3) (he : ∀ e ∈ es, e.ok) : Pure (F (n + 5) 31) [wholeD es] (.bl true) := by
  intro M Q h
  rw [F_succ (r := f_is_equation_form) rfl]
  refine ⟨rfl, ?_⟩
  simp only [f_is_equation_form, i_is_equation_form]
  walk_at "dn"
  have big : 2 ≤ es.length → wholeD es = .tup (.str "both" :: es.map Eqn.d) := by
    intro h2
    match es, h2 with
    | e1 :: e2 :: r, _ => rfl
  by_cases c : es.length = 1
  · match es, c with
    | [e], _ =>
      refine sp_single_form n e (he e List.mem_cons_self) M _ fun M1 x1 => ?_
      simp only [if_true]
      exact h M1 x1
  · rw [big (by omega)]
    refine sp_single_form_both n es M _ fun M1 x1 => ?_
    have ht : (!("tuple" == "tuple" || "tuple" == "bool" && "tuple" == "int")) = false := by decide
    have hs : ("str" == "str" || "str" == "bool" && "str" == "int") = true := by decide
    simp only [tyD, ht, hs, Bool.false_eq_true, if_false, fLen, dLe, dCI, gl10, dC, dAdd, List.length_cons, List.length_map, dIx, at0c, dEq, py_str, w_both_both]
    have e1 : decide ((3 : Int) ≤ ((es.length + 1 : Nat) : Int)) = true := decide_eq_true (by omega)
    have e2 : decide (((es.length + 1 : Nat) : Int) ≤ 6 + 1) = true := decide_eq_true (by omega)
    simp only [e1, e2, Bool.not_true, Bool.false_eq_true, if_false, cutc]
    refine lc_all es Eqn.d (fun _ => true) (fun _ _ _ _ => trivial) (by show _ ≤ 16777216; omega) (fun e hm => ⟨_, rfl, fun M' Q' x k => ?_⟩) fun M' x => ?_
    · walk_at "dn"
      exact sp_single_form n e (he e hm) M' _ k
    · have := h M' (x1.trans x)
      rwa [show (es.all fun _ => true) = true by simp]
end K10

set_option Elab.async false
set_option linter.all false
set_option maxRecDepth 100000
set_option maxHeartbeats 2000000
namespace K10
open PySem Dn
open L2 (atI ixN)
local macro_rules | `(tactic| walk_at "dn") => `(tactic| simp only [denSs, denSt, denE, denEs, denT, denTB, denB, denO, denI, denS, dSeqS, dNext, dRet, dRetN, dDrop, dIfS, dAsg, dTup, dLst, dCons, dNil, dOp, dVar, dC, Cn.d, dBin, dCmp, dF, dTB, dAnd, dOr, dNot, dAndV, dOrV, dNotV, dIf, dChain, dSl, dPart, dNoPart, dMt, dSeq, dRev, dLc, dLc2, dFor, dPar, dSetS, dAug, dAugS, dAsgL, dNeg, dIsi, Bi.den, Mt.den, startE, bindP_nm, bindP_tp, bindPs_nil, bindPs_cons,
  List.map_cons, List.map_nil, List.length_cons, List.length_nil, Nat.reduceAdd, Nat.reduceSub, Nat.zero_add, List.replicate, List.replicate_zero, List.cons_append, List.nil_append, List.append_nil, List.getElem?_cons_zero, List.getElem?_cons_succ, List.set_cons_zero, List.set_cons_succ, Dn.wp, if_true, if_false, Bool.false_eq_true, ite_true, ite_false])
local macro_rules | `(tactic| walk_at "sq") => `(tactic| simp only [dIx, at10, at20, at21, at30, at31, at32, at40, at41, at42, at43, dEq, dNe, dInB, py_str, py_tup, pys, Option.map_some, List.any_cons, List.any_nil, Bool.or_false, Bool.or_true, Bool.true_or, Bool.false_or, Bool.not_true, Bool.not_false, Bool.false_eq_true, if_true, if_false, w_all_all, w_all_none, w_all_one, w_all_line, w_all_power, w_all_ahead, w_all_behind, w_all_between, w_all_moves, w_all_goes, w_all_both, w_none_all, w_none_none, w_none_one, w_none_line, w_none_power, w_none_ahead, w_none_behind, w_none_between, w_none_moves, w_none_goes, w_none_both, w_one_all, w_one_none, w_one_one, w_one_line, w_one_power, w_one_ahead, w_one_behind, w_one_between, w_one_moves, w_one_goes, w_one_both, w_line_all, w_line_none, w_line_one, w_line_line, w_line_power, w_line_ahead, w_line_behind, w_line_between, w_line_moves, w_line_goes, w_line_both, w_power_all, w_power_none, w_power_one, w_power_line, w_power_power, w_power_ahead, w_power_behind, w_power_between, w_power_moves, w_power_goes, w_power_both, w_ahead_all, w_ahead_none, w_ahead_one, w_ahead_line, w_ahead_power, w_ahead_ahead, w_ahead_behind, w_ahead_between, w_ahead_moves, w_ahead_goes, w_ahead_both, w_behind_all, w_behind_none, w_behind_one, w_behind_line, w_behind_power, w_behind_ahead, w_behind_behind, w_behind_between, w_behind_moves, w_behind_goes, w_behind_both, w_between_all, w_between_none, w_between_one, w_between_line, w_between_power, w_between_ahead, w_between_behind, w_between_between, w_between_moves, w_between_goes, w_between_both, w_moves_all, w_moves_none, w_moves_one, w_moves_line, w_moves_power, w_moves_ahead, w_moves_behind, w_moves_between, w_moves_moves, w_moves_goes, w_moves_both, w_goes_all, w_goes_none, w_goes_one, w_goes_line, w_goes_power, w_goes_ahead, w_goes_behind, w_goes_between, w_goes_moves, w_goes_goes, w_goes_both, w_both_all, w_both_none, w_both_one, w_both_line, w_both_power, w_both_ahead, w_both_behind, w_both_between, w_both_moves, w_both_goes, w_both_both])

/-! ### two clauses -/
theorem lc_push {β : Type} {p1 : Pat} {te : TD} {G1 : MH → Prop} {env : Ev} (D : Addr) (g1 f : β → Dn.D) : ∀ (l : List β) (acc : List Dn.D) (M0 M1 : MH) (N : MH → Prop), M0 D = none → (∀ M2, ExtB D M0 M2 → G1 M2) →
    (∀ b ∈ l, ∃ env2, bindP p1 (g1 b) env = some env2 ∧ ∀ M' (Q : Dn.D → MH → Prop), Ext M0 M' → (∀ M2, Ext M' M2 → Q (f b) M2) → te env2 M' Q) →
    ExtB D M0 M1 → M1 D = some (.lst acc) → acc.length + l.length ≤ LN → (∀ M2, ExtB D M0 M2 → M2 D = some (.lst (acc ++ l.map f)) → N M2) →
    dLcL p1 dYes te G1 env N D (l.map g1) M1
  | [], acc, M0, M1, N, hD, hG, _, x, e, _, k => ⟨hG M1 x, k M1 x (by simpa using e)⟩
  | b :: l, acc, M0, M1, N, hD, hG, hb, x, e, hl, k => by
    have ih := lc_push (te := te) (G1 := G1) (env := env) (p1 := p1) D g1 f l (acc ++ [f b]) M0
    obtain ⟨env2, e1, e2⟩ := hb b List.mem_cons_self
    rw [List.map_cons]
    refine ⟨hG M1 x, ?_⟩
    rw [e1]
    simp only [dYes, if_true]
    refine e2 M1 _ (x.ext hD) fun M2 x2 => ?_
    unfold pushD
    rw [x2 D _ e]
    simp only [List.length_cons] at hl
    refine ⟨by omega, ?_⟩
    exact ih _ N hD hG (fun y hy => hb y (List.mem_cons_of_mem _ hy)) ((x.trans x2.b).trans .up) up_same (by rw [List.length_append, List.length_singleton]; omega) fun M3 x3 e3 => k M3 x3 (by rw [e3]; simp)
theorem lc2_A {α β : Type} {p p1 : Pat} {wi1 : TDI} {te : TD} {vs vs1 : List Nat} {env : Ev} {G : MH → Prop} {Q : Dn.D → MH → Prop} {M : MH} (D : Addr) (hD : M D = none) (l : List α) (g : α → Dn.D) (inn : α → List β) (g1 : β → Dn.D) (f : α → β → Dn.D)
    (hG : ∀ M2, ExtB D M M2 → G M2)
    (he : ∀ a ∈ l, ∃ env2, bindP p (g a) (Dn.wp env vs) = some env2 ∧ (∀ M' (N : List Dn.D → (MH → Prop) → MH → Prop), Ext M M' → (∀ M2, Ext M' M2 → N ((inn a).map g1) (fun _ => True) M2) → wi1 env2 M' N) ∧
      ∀ b ∈ inn a, ∃ env3, bindP p1 (g1 b) (Dn.wp env2 vs1) = some env3 ∧ ∀ M' (Q : Dn.D → MH → Prop), Ext M M' → (∀ M2, Ext M' M2 → Q (f a b) M2) → te env3 M' Q)
    (hl : (l.flatMap inn).length ≤ LN) (k : ∀ M', Ext M M' → M' D = some (.lst (l.flatMap fun a => (inn a).map (f a))) → Q (.ref D) M') :
    dLc2.go p dYes wi1 p1 dYes te vs vs1 env Q G D (l.map g) (up M D (.lst [])) := by
  have key : ∀ (l : List α) (acc : List Dn.D) (M1 : MH), (∀ a ∈ l, ∃ env2, bindP p (g a) (Dn.wp env vs) = some env2 ∧ (∀ M' (N : List Dn.D → (MH → Prop) → MH → Prop), Ext M M' → (∀ M2, Ext M' M2 → N ((inn a).map g1) (fun _ => True) M2) → wi1 env2 M' N) ∧
      ∀ b ∈ inn a, ∃ env3, bindP p1 (g1 b) (Dn.wp env2 vs1) = some env3 ∧ ∀ M' (Q : Dn.D → MH → Prop), Ext M M' → (∀ M2, Ext M' M2 → Q (f a b) M2) → te env3 M' Q) →
      ExtB D M M1 → M1 D = some (.lst acc) → acc.length + (l.flatMap inn).length ≤ LN → (∀ M', ExtB D M M' → M' D = some (.lst (acc ++ l.flatMap fun a => (inn a).map (f a))) → Q (.ref D) M') →
      dLc2.go p dYes wi1 p1 dYes te vs vs1 env Q G D (l.map g) M1 := by
    intro l
    induction l with
    | nil => intro acc M1 _ x e _ k; exact ⟨hG M1 x, k M1 x (by simpa using e)⟩
    | cons a l ih =>
      intro acc M1 he x e hl k
      obtain ⟨env2, e1, e2, e3⟩ := he a List.mem_cons_self
      rw [List.flatMap_cons, List.length_append] at hl
      rw [List.map_cons, dLc2.go]
      refine ⟨hG M1 x, ?_⟩
      rw [e1]
      simp only [dYes, if_true]
      refine e2 M1 _ (x.ext hD) fun M2 x2 => ?_
      refine lc_push D g1 (f a) (inn a) acc M M2 _ hD (fun _ _ => trivial) e3 (x.trans x2.b) (x2 D _ e) (by omega) fun M3 x3 e3 => ?_
      exact ih _ M3 (fun y hy => he y (List.mem_cons_of_mem _ hy)) x3 e3 (by rw [List.length_append, List.length_map]; omega) fun M' x' e' => k M' x' (by rw [e']; simp)
  exact key l [] _ he .up up_same (by simpa using hl) fun M' x' e' => k M' (x'.ext hD) (by simpa using e')
def Eqn.rows : Eqn → List (List Sp)
  | .power _ r => [r]
  | .ahead a b => [a, b]
  | .behind a b => [a, b]
  | .between a b c => [a, b, c]
  | .moves a b => [a, b]
  | .goes a => [a]
theorem sp_rows_in (n : Nat) (e : Eqn) : Pure (F (n + 1) 32) [e.d] (.tup (e.rows.map rowD)) := by
  intro M Q h
  rw [F_succ (r := f_rows_in) rfl]
  refine ⟨rfl, ?_⟩
  simp only [f_rows_in, i_rows_in]
  walk_at "dn"
  have h0 := h M .refl
  cases e <;> simp only [Eqn.d] <;> walk_at "sq" <;> simp only [cut2, cut3, cut4, cut32] <;> exact h0
end K10

set_option Elab.async false
set_option linter.all false
set_option maxRecDepth 100000
set_option maxHeartbeats 2000000
namespace K10
open PySem Dn
open L2 (atI ixN)
local macro_rules | `(tactic| walk_at "dn") => `(tactic| simp only [denSs, denSt, denE, denEs, denT, denTB, denB, denO, denI, denS, dSeqS, dNext, dRet, dRetN, dDrop, dIfS, dAsg, dTup, dLst, dCons, dNil, dOp, dVar, dC, Cn.d, dBin, dCmp, dF, dTB, dAnd, dOr, dNot, dAndV, dOrV, dNotV, dIf, dChain, dSl, dPart, dNoPart, dMt, dSeq, dRev, dLc, dLc2, dFor, dPar, dSetS, dAug, dAugS, dAsgL, dNeg, dIsi, Bi.den, Mt.den, startE, bindP_nm, bindP_tp, bindPs_nil, bindPs_cons,
  List.map_cons, List.map_nil, List.length_cons, List.length_nil, Nat.reduceAdd, Nat.reduceSub, Nat.zero_add, List.replicate, List.replicate_zero, List.cons_append, List.nil_append, List.append_nil, List.getElem?_cons_zero, List.getElem?_cons_succ, List.set_cons_zero, List.set_cons_succ, Dn.wp, if_true, if_false, Bool.false_eq_true, ite_true, ite_false])
local macro_rules | `(tactic| walk_at "sq") => `(tactic| simp only [dIx, at10, at20, at21, at30, at31, at32, at40, at41, at42, at43, dEq, dNe, dInB, py_str, py_tup, pys, Option.map_some, List.any_cons, List.any_nil, Bool.or_false, Bool.or_true, Bool.true_or, Bool.false_or, Bool.not_true, Bool.not_false, Bool.false_eq_true, if_true, if_false, w_all_all, w_all_none, w_all_one, w_all_line, w_all_power, w_all_ahead, w_all_behind, w_all_between, w_all_moves, w_all_goes, w_all_both, w_none_all, w_none_none, w_none_one, w_none_line, w_none_power, w_none_ahead, w_none_behind, w_none_between, w_none_moves, w_none_goes, w_none_both, w_one_all, w_one_none, w_one_one, w_one_line, w_one_power, w_one_ahead, w_one_behind, w_one_between, w_one_moves, w_one_goes, w_one_both, w_line_all, w_line_none, w_line_one, w_line_line, w_line_power, w_line_ahead, w_line_behind, w_line_between, w_line_moves, w_line_goes, w_line_both, w_power_all, w_power_none, w_power_one, w_power_line, w_power_power, w_power_ahead, w_power_behind, w_power_between, w_power_moves, w_power_goes, w_power_both, w_ahead_all, w_ahead_none, w_ahead_one, w_ahead_line, w_ahead_power, w_ahead_ahead, w_ahead_behind, w_ahead_between, w_ahead_moves, w_ahead_goes, w_ahead_both, w_behind_all, w_behind_none, w_behind_one, w_behind_line, w_behind_power, w_behind_ahead, w_behind_behind, w_behind_between, w_behind_moves, w_behind_goes, w_behind_both, w_between_all, w_between_none, w_between_one, w_between_line, w_between_power, w_between_ahead, w_between_behind, w_between_between, w_between_moves, w_between_goes, w_between_both, w_moves_all, w_moves_none, w_moves_one, w_moves_line, w_moves_power, w_moves_ahead, w_moves_behind, w_moves_between, w_moves_moves, w_moves_goes, w_moves_both, w_goes_all, w_goes_none, w_goes_one, w_goes_line, w_goes_power, w_goes_ahead, w_goes_behind, w_goes_between, w_goes_moves, w_goes_goes, w_goes_both, w_both_all, w_both_none, w_both_one, w_both_line, w_both_power, w_both_ahead, w_both_behind, w_both_between, w_both_moves, w_both_goes, w_both_both])

theorem rows_len (e : Eqn) : e.rows.length ≤ 3 := by cases e <;> simp [Eqn.rows]
theorem rows_ok (e : Eqn) (he : e.ok) : ∀ r ∈ e.rows, okR r := by
  cases e <;> simp only [Eqn.rows, List.mem_cons, List.not_mem_nil, or_false] <;> rintro r hr
  case power => subst hr; exact he.2
  case ahead => rcases hr with rfl | rfl; exact he.1; exact he.2
  case behind => rcases hr with rfl | rfl; exact he.1; exact he.2
  case between => rcases hr with rfl | rfl | rfl; exact he.1; exact he.2.1; exact he.2.2
  case moves => rcases hr with rfl | rfl; exact he.1; exact he.2
  case goes => subst hr; exact he
theorem sp_checked (n : Nat) (es : List Eqn) (hl : 1 ≤ es.length ∧ es.length ≤ 3) (he : ∀ e ∈ es, e.ok) : Pure (F (n + 6) 33) [wholeD es] (wholeD es) := by
  intro M Q h
  rw [F_succ (r := f_checked_equation) rfl]
  refine ⟨rfl, ?_⟩
  simp only [f_checked_equation, i_checked_equation]
  walk_at "dn"
  refine sp_equation_form n es hl he M _ fun M1 x1 => ?_
  simp only [Bool.not_true, Bool.false_eq_true, if_false]
  refine sp_parts_of (n + 4) es hl M1 _ fun M2 x2 => ?_
  simp only []
  intro D hD
  have hfl : ∀ l : List Eqn, (l.flatMap Eqn.rows).length ≤ 3 * l.length := by
    intro l
    induction l with
    | nil => simp
    | cons e l ih => rw [List.flatMap_cons, List.length_append, List.length_cons]; have := rows_len e; omega
  refine lc2_A D hD es Eqn.d Eqn.rows rowD (fun _ _ => .bl false) (fun _ _ => trivial) (fun e hm => ⟨_, rfl, fun M' N x k => ?_, fun r hr => ⟨_, rfl, fun M' Q' x k => ?_⟩⟩) (by have := hfl es; show _ ≤ 16777216; omega) fun M3 x3 e3 => ?_
  · walk_at "dn"
    refine sp_rows_in (n + 4) e M' _ fun M2 x2 => ?_
    exact k M2 x2
  · walk_at "dn"
    have hk := rows_ok e (he e hm) r hr
    simp only [rowD, fLen, List.length_map, gl11, dC, dGt, dCI]
    have : decide ((60 : Int) < (r.length : Int)) = false := decide_eq_false (by have := hk.1; omega)
    rw [this]
    exact k M' .refl
  · have hb : ∀ l : List Eqn, ∃ bs, blsD (l.flatMap fun a => a.rows.map fun _ => Dn.D.bl false) = some bs ∧ bs.any id = false := by
      intro l
      induction l with
      | nil => exact ⟨[], rfl, rfl⟩
      | cons e l ih =>
        obtain ⟨bs, h1, h2⟩ := ih
        rw [List.flatMap_cons]
        have : ∀ rs : List (List Sp), ∃ bs', blsD (rs.map (fun _ => Dn.D.bl false) ++ l.flatMap fun a => a.rows.map fun _ => Dn.D.bl false) = some bs' ∧ bs'.any id = false := by
          intro rs
          induction rs with
          | nil => exact ⟨bs, h1, h2⟩
          | cons r rs ih2 =>
            obtain ⟨bs2, h3, h4⟩ := ih2
            refine ⟨false :: bs2, ?_, by simpa using h4⟩
            rw [List.map_cons, List.cons_append, blsD, h3]
            rfl
        exact this e.rows
    obtain ⟨bs, h1, h2⟩ := hb es
    simp only [fAny, onSeq, rdL_lst e3, h1, h2, Bool.false_eq_true, if_false]
    exact h M3 (x1.trans (x2.trans x3))
end K10

set_option Elab.async false
set_option linter.all false
set_option maxRecDepth 100000
set_option maxHeartbeats 2000000
namespace K10
open PySem Dn
open L2 (atI ixN)
local macro_rules | `(tactic| walk_at "dn") => `(tactic| simp only [denSs, denSt, denE, denEs, denT, denTB, denB, denO, denI, denS, dSeqS, dNext, dRet, dRetN, dDrop, dIfS, dAsg, dTup, dLst, dCons, dNil, dOp, dVar, dC, Cn.d, dBin, dCmp, dF, dTB, dAnd, dOr, dNot, dAndV, dOrV, dNotV, dIf, dChain, dSl, dPart, dNoPart, dMt, dSeq, dRev, dLc, dLc2, dFor, dPar, dSetS, dAug, dAugS, dAsgL, dNeg, dIsi, Bi.den, Mt.den, startE, bindP_nm, bindP_tp, bindPs_nil, bindPs_cons,
  List.map_cons, List.map_nil, List.length_cons, List.length_nil, Nat.reduceAdd, Nat.reduceSub, Nat.zero_add, List.replicate, List.replicate_zero, List.cons_append, List.nil_append, List.append_nil, List.getElem?_cons_zero, List.getElem?_cons_succ, List.set_cons_zero, List.set_cons_succ, Dn.wp, if_true, if_false, Bool.false_eq_true, ite_true, ite_false])
local macro_rules | `(tactic| walk_at "sq") => `(tactic| simp only [dIx, at10, at20, at21, at30, at31, at32, at40, at41, at42, at43, dEq, dNe, dInB, py_str, py_tup, pys, Option.map_some, List.any_cons, List.any_nil, Bool.or_false, Bool.or_true, Bool.true_or, Bool.false_or, Bool.not_true, Bool.not_false, Bool.false_eq_true, if_true, if_false, w_all_all, w_all_none, w_all_one, w_all_line, w_all_power, w_all_ahead, w_all_behind, w_all_between, w_all_moves, w_all_goes, w_all_both, w_none_all, w_none_none, w_none_one, w_none_line, w_none_power, w_none_ahead, w_none_behind, w_none_between, w_none_moves, w_none_goes, w_none_both, w_one_all, w_one_none, w_one_one, w_one_line, w_one_power, w_one_ahead, w_one_behind, w_one_between, w_one_moves, w_one_goes, w_one_both, w_line_all, w_line_none, w_line_one, w_line_line, w_line_power, w_line_ahead, w_line_behind, w_line_between, w_line_moves, w_line_goes, w_line_both, w_power_all, w_power_none, w_power_one, w_power_line, w_power_power, w_power_ahead, w_power_behind, w_power_between, w_power_moves, w_power_goes, w_power_both, w_ahead_all, w_ahead_none, w_ahead_one, w_ahead_line, w_ahead_power, w_ahead_ahead, w_ahead_behind, w_ahead_between, w_ahead_moves, w_ahead_goes, w_ahead_both, w_behind_all, w_behind_none, w_behind_one, w_behind_line, w_behind_power, w_behind_ahead, w_behind_behind, w_behind_between, w_behind_moves, w_behind_goes, w_behind_both, w_between_all, w_between_none, w_between_one, w_between_line, w_between_power, w_between_ahead, w_between_behind, w_between_between, w_between_moves, w_between_goes, w_between_both, w_moves_all, w_moves_none, w_moves_one, w_moves_line, w_moves_power, w_moves_ahead, w_moves_behind, w_moves_between, w_moves_moves, w_moves_goes, w_moves_both, w_goes_all, w_goes_none, w_goes_one, w_goes_line, w_goes_power, w_goes_ahead, w_goes_behind, w_goes_between, w_goes_moves, w_goes_goes, w_goes_both, w_both_all, w_both_none, w_both_one, w_both_line, w_both_power, w_both_ahead, w_both_behind, w_both_between, w_both_moves, w_both_goes, w_both_both])

/-! ### the law's own copies -/
theorem sp_lcontrary (n : Nat) (p : Sp) : Pure (F (n + 1) 44) [spD p] (spD (inv p)) := by
  intro M Q h
  rw [F_succ (r := f__law_contrary) rfl]
  refine ⟨rfl, ?_⟩
  simp only [f__law_contrary, i__law_contrary]
  walk_at "dn"
  exact ⟨ln2, h M .refl⟩
theorem sp_lundoing (n : Nat) (r : List Sp) (hl : r.length ≤ LN) : Pure (F (n + 2) 45) [rowD r] (rowD (undo r)) := by
  intro M Q h
  rw [F_succ (r := f__law_undoing) rfl]
  refine ⟨rfl, ?_⟩
  simp only [f__law_undoing, i__law_undoing]
  walk_at "dn"
  simp only [rowD]
  rw [← List.map_reverse]
  refine lc_A (N := _) r.reverse spD (fun p => spD (inv p)) (fun _ _ _ _ => trivial) (by simpa using hl) (fun p hp => ⟨_, rfl, fun M' Q' x k => ?_⟩) fun D M' hD x e => ?_
  · walk_at "dn"
    exact sp_lcontrary n p M' Q' k
  · unfold fTuple
    simp only [rdL_lst e]
    have := h M' x
    simp only [undo, rowD, List.map_map] at this
    exact this
theorem sp_lshort (n : Nat) (r : List Sp) (hl : r.length ≤ LN) : Pure (F (n + 2) 46) [rowD r] (rowD (red r)) := by
  intro M Q h
  rw [F_succ (r := f__law_short) rfl]
  refine ⟨rfl, ?_⟩
  simp only [f__law_short, i__law_short]
  walk_at "dn"
  refine ⟨ln2, fun p hp => ?_⟩
  have e0 : up M p (.lst []) p = some (.lst []) := up_same
  simp only [rowD]
  refine loop_short n 44 (sp_lcontrary n) _ _ p _ rfl r [] _ _ (fun _ _ => trivial) e0 (by simpa using hl) fun x' M' x e => ?_
  walk_at "dn"
  unfold fTuple
  simp only [rdL_lst e]
  exact h M' (x.new hp)
/-- a unit so many times -/
def upw (u : List Sp) (k : Int) : List Sp := repl k.natAbs (if 0 < k then u else undo u)
theorem upw_len (u : List Sp) (k : Int) : (upw u k).length = k.natAbs * u.length := by
  unfold upw
  rw [repl_len]
  split <;> simp [undo_len]
end K10

set_option Elab.async false
set_option linter.all false
set_option maxRecDepth 100000
set_option maxHeartbeats 2000000
namespace K10
open PySem Dn
open L2 (atI ixN)
local macro_rules | `(tactic| walk_at "dn") => `(tactic| simp only [denSs, denSt, denE, denEs, denT, denTB, denB, denO, denI, denS, dSeqS, dNext, dRet, dRetN, dDrop, dIfS, dAsg, dTup, dLst, dCons, dNil, dOp, dVar, dC, Cn.d, dBin, dCmp, dF, dTB, dAnd, dOr, dNot, dAndV, dOrV, dNotV, dIf, dChain, dSl, dPart, dNoPart, dMt, dSeq, dRev, dLc, dLc2, dFor, dPar, dSetS, dAug, dAugS, dAsgL, dNeg, dIsi, Bi.den, Mt.den, startE, bindP_nm, bindP_tp, bindPs_nil, bindPs_cons,
  List.map_cons, List.map_nil, List.length_cons, List.length_nil, Nat.reduceAdd, Nat.reduceSub, Nat.zero_add, List.replicate, List.replicate_zero, List.cons_append, List.nil_append, List.append_nil, List.getElem?_cons_zero, List.getElem?_cons_succ, List.set_cons_zero, List.set_cons_succ, Dn.wp, if_true, if_false, Bool.false_eq_true, ite_true, ite_false])
local macro_rules | `(tactic| walk_at "sq") => `(tactic| simp only [dIx, at10, at20, at21, at30, at31, at32, at40, at41, at42, at43, dEq, dNe, dInB, py_str, py_tup, pys, Option.map_some, List.any_cons, List.any_nil, Bool.or_false, Bool.or_true, Bool.true_or, Bool.false_or, Bool.not_true, Bool.not_false, Bool.false_eq_true, if_true, if_false, w_all_all, w_all_none, w_all_one, w_all_line, w_all_power, w_all_ahead, w_all_behind, w_all_between, w_all_moves, w_all_goes, w_all_both, w_none_all, w_none_none, w_none_one, w_none_line, w_none_power, w_none_ahead, w_none_behind, w_none_between, w_none_moves, w_none_goes, w_none_both, w_one_all, w_one_none, w_one_one, w_one_line, w_one_power, w_one_ahead, w_one_behind, w_one_between, w_one_moves, w_one_goes, w_one_both, w_line_all, w_line_none, w_line_one, w_line_line, w_line_power, w_line_ahead, w_line_behind, w_line_between, w_line_moves, w_line_goes, w_line_both, w_power_all, w_power_none, w_power_one, w_power_line, w_power_power, w_power_ahead, w_power_behind, w_power_between, w_power_moves, w_power_goes, w_power_both, w_ahead_all, w_ahead_none, w_ahead_one, w_ahead_line, w_ahead_power, w_ahead_ahead, w_ahead_behind, w_ahead_between, w_ahead_moves, w_ahead_goes, w_ahead_both, w_behind_all, w_behind_none, w_behind_one, w_behind_line, w_behind_power, w_behind_ahead, w_behind_behind, w_behind_between, w_behind_moves, w_behind_goes, w_behind_both, w_between_all, w_between_none, w_between_one, w_between_line, w_between_power, w_between_ahead, w_between_behind, w_between_between, w_between_moves, w_between_goes, w_between_both, w_moves_all, w_moves_none, w_moves_one, w_moves_line, w_moves_power, w_moves_ahead, w_moves_behind, w_moves_between, w_moves_moves, w_moves_goes, w_moves_both, w_goes_all, w_goes_none, w_goes_one, w_goes_line, w_goes_power, w_goes_ahead, w_goes_behind, w_goes_between, w_goes_moves, w_goes_goes, w_goes_both, w_both_all, w_both_none, w_both_one, w_both_line, w_both_power, w_both_ahead, w_both_behind, w_both_between, w_both_moves, w_both_goes, w_both_both])

theorem sp_lpower (n : Nat) (u : List Sp) (k : Int) (hk : k.natAbs ≤ 60) (hu : u.length ≤ 10) : Pure (F (n + 3) 48) [rowD u, .int k] (rowD (red (upw u k))) := by
  intro M Q h
  rw [F_succ (r := f__law_power) rfl]
  refine ⟨rfl, ?_⟩
  simp only [f__law_power, i__law_power]
  walk_at "dn"
  simp only [dGt, dCI]
  have ha : (if k < 0 then -k else k) = (k.natAbs : Int) := by
    split <;> omega
  have hm : u.length * k.natAbs ≤ 10 * 60 := Nat.mul_le_mul hu hk
  by_cases c : 0 < k
  · simp only [decide_eq_true c, if_true, fAbs, ha, rowD, dMul, List.length_map, Int.toNat_natCast, repl_map]
    refine ⟨by omega, by omega, by show _ ≤ 16777216; omega, ?_⟩
    have e : upw u k = repl k.natAbs u := by rw [upw, if_pos c]
    rw [e] at h
    exact sp_lshort n _ (by rw [repl_len, Nat.mul_comm]; show _ ≤ 16777216; omega) M _ h
  · simp only [decide_eq_false c, Bool.false_eq_true, if_false]
    refine sp_lundoing n u (by show _ ≤ 16777216; omega) M _ fun M1 x1 => ?_
    have hul := undo_len u
    simp only [fAbs, ha, rowD, dMul, List.length_map, Int.toNat_natCast, repl_map]
    refine ⟨by omega, by omega, by rw [hul]; show _ ≤ 16777216; omega, ?_⟩
    have e : upw u k = repl k.natAbs (undo u) := by rw [upw, if_neg c]
    rw [e] at h
    exact sp_lshort n _ (by rw [repl_len, hul, Nat.mul_comm]; show _ ≤ 16777216; omega) M1 _ fun M2 x2 => h M2 (x1.trans x2)
end K10

set_option Elab.async false
set_option linter.all false
set_option maxRecDepth 100000
set_option maxHeartbeats 2000000
namespace K10
open PySem Dn
open L2 (atI ixN)
local macro_rules | `(tactic| walk_at "dn") => `(tactic| simp only [denSs, denSt, denE, denEs, denT, denTB, denB, denO, denI, denS, dSeqS, dNext, dRet, dRetN, dDrop, dIfS, dAsg, dTup, dLst, dCons, dNil, dOp, dVar, dC, Cn.d, dBin, dCmp, dF, dTB, dAnd, dOr, dNot, dAndV, dOrV, dNotV, dIf, dChain, dSl, dPart, dNoPart, dMt, dSeq, dRev, dLc, dLc2, dFor, dPar, dSetS, dAug, dAugS, dAsgL, dNeg, dIsi, Bi.den, Mt.den, startE, bindP_nm, bindP_tp, bindPs_nil, bindPs_cons,
  List.map_cons, List.map_nil, List.length_cons, List.length_nil, Nat.reduceAdd, Nat.reduceSub, Nat.zero_add, List.replicate, List.replicate_zero, List.cons_append, List.nil_append, List.append_nil, List.getElem?_cons_zero, List.getElem?_cons_succ, List.set_cons_zero, List.set_cons_succ, Dn.wp, if_true, if_false, Bool.false_eq_true, ite_true, ite_false])
local macro_rules | `(tactic| walk_at "sq") => `(tactic| simp only [dIx, at10, at20, at21, at30, at31, at32, at40, at41, at42, at43, dEq, dNe, dInB, py_str, py_tup, pys, Option.map_some, List.any_cons, List.any_nil, Bool.or_false, Bool.or_true, Bool.true_or, Bool.false_or, Bool.not_true, Bool.not_false, Bool.false_eq_true, if_true, if_false, w_all_all, w_all_none, w_all_one, w_all_line, w_all_power, w_all_ahead, w_all_behind, w_all_between, w_all_moves, w_all_goes, w_all_both, w_none_all, w_none_none, w_none_one, w_none_line, w_none_power, w_none_ahead, w_none_behind, w_none_between, w_none_moves, w_none_goes, w_none_both, w_one_all, w_one_none, w_one_one, w_one_line, w_one_power, w_one_ahead, w_one_behind, w_one_between, w_one_moves, w_one_goes, w_one_both, w_line_all, w_line_none, w_line_one, w_line_line, w_line_power, w_line_ahead, w_line_behind, w_line_between, w_line_moves, w_line_goes, w_line_both, w_power_all, w_power_none, w_power_one, w_power_line, w_power_power, w_power_ahead, w_power_behind, w_power_between, w_power_moves, w_power_goes, w_power_both, w_ahead_all, w_ahead_none, w_ahead_one, w_ahead_line, w_ahead_power, w_ahead_ahead, w_ahead_behind, w_ahead_between, w_ahead_moves, w_ahead_goes, w_ahead_both, w_behind_all, w_behind_none, w_behind_one, w_behind_line, w_behind_power, w_behind_ahead, w_behind_behind, w_behind_between, w_behind_moves, w_behind_goes, w_behind_both, w_between_all, w_between_none, w_between_one, w_between_line, w_between_power, w_between_ahead, w_between_behind, w_between_between, w_between_moves, w_between_goes, w_between_both, w_moves_all, w_moves_none, w_moves_one, w_moves_line, w_moves_power, w_moves_ahead, w_moves_behind, w_moves_between, w_moves_moves, w_moves_goes, w_moves_both, w_goes_all, w_goes_none, w_goes_one, w_goes_line, w_goes_power, w_goes_ahead, w_goes_behind, w_goes_between, w_goes_moves, w_goes_goes, w_goes_both, w_both_all, w_both_none, w_both_one, w_both_line, w_both_power, w_both_ahead, w_both_behind, w_both_between, w_both_moves, w_both_goes, w_both_both])

/-! ### draws -/
structure Bag (M : MH) (b q : Addr) (cells : List Int) : Prop where
  ne : q ≠ b
  at_ : ∃ b0 b1 b2 : Int, 0 ≤ b0 ∧ 0 ≤ b1 ∧ b1 < 2147483647 ∧ 0 ≤ b2 ∧ M b = some (.lst [.int b0, .int b1, .int b2, .ref q])
  cs : M q = some (.lst (cells.map D.int))
  pos : ∀ c ∈ cells, 0 ≤ c
  len : cells.length ≤ 63
theorem Bag.ext {M M' : MH} {b q : Addr} {cells : List Int} (hB : Bag M b q cells) (x : Ext M M') : Bag M' b q cells := by
  obtain ⟨ne, ⟨b0, b1, b2, h0, h1, h1', h2, hb⟩, hc, hp, hln⟩ := hB
  exact ⟨ne, ⟨b0, b1, b2, h0, h1, h1', h2, x b _ hb⟩, x q _ hc, hp, hln⟩
theorem Bag.put {M : MH} {b q : Addr} {cells : List Int} (ne : q ≠ b) (hc : M q = some (.lst (cells.map D.int))) (hp : ∀ c ∈ cells, 0 ≤ c) (hln : cells.length ≤ 63) (b0 b1 b2 : Int) (h0 : 0 ≤ b0) (h1 : 0 ≤ b1) (h1' : b1 < 2147483647) (h2 : 0 ≤ b2) :
    Bag (up M b (.lst [.int b0, .int b1, .int b2, .ref q])) b q cells := ⟨ne, ⟨b0, b1, b2, h0, h1, h1', h2, up_same⟩, by rw [up_ne ne]; exact hc, hp, hln⟩
theorem fmod_rg (i j : Int) (hj : 0 < j) : 0 ≤ i.fmod j ∧ i.fmod j < j := ⟨Int.fmod_nonneg_of_pos _ hj, Int.fmod_lt_of_pos _ hj⟩
/-- the end of a draw -/
theorem take_end (n : Nat) (b q : Addr) (cells : List Int) (many : Int) (hm : 1 ≤ many ∧ many < 1000000) (M : MH) (hB : Bag M b q cells) (Q : D → MH → Prop) (h : ∀ r M', 0 ≤ r → r < many → ExtB b M M' → Bag M' b q cells → Q (.int r) M') (x y z : Option D) (s0 : Stm) (rest : Stms) (hi : i__law_take = .cons s0 rest) :
    denSs (F n) T.cs rest { nx := fun _ M' => Q .non M', rt := Q } [some (.ref b), some (.int many), none, none, x, y, z] M := by
  simp only [i__law_take, Stms.cons.injEq] at hi
  obtain ⟨_, rfl⟩ := hi
  walk_at "dn"
  obtain ⟨ne, ⟨b0, b1, b2, h0, h1, h1', h2, hb⟩, hc, hp, hln⟩ := hB
  have e0 := rdL_lst hb
  simp only [dIx, e0, at40, at41, at42, dGt, dCI]
  by_cases c : 0 < b0
  · simp only [decide_eq_true c, if_true, fInt, dMod, dFdiv, e0, at40]
    refine ⟨by omega, ⟨by omega, by omega⟩, ?_⟩
    have ei : ixN [D.int b0, .int b1, .int b2, .ref q].length 0 = some 0 := rfl
    simp only [setD, hb, ei, List.set_cons_zero]
    have hr := fmod_rg b0 many (by omega)
    have hd : 0 ≤ b0.fdiv many := by
      rw [Int.fdiv_eq_ediv_of_nonneg _ (by omega)]
      exact Int.ediv_nonneg h0 (by omega)
    exact h _ _ hr.1 hr.2 .up (.put ne hc hp hln _ _ _ hd h1 h1' h2)
  · simp only [decide_eq_false c, Bool.false_eq_true, if_false, fInt, dMod, dFdiv, dAdd, dMul, e0, at41]
    have hf : ∀ i : Int, i.fmod 1000000007 < 2 ^ 63 ∧ 0 ≤ i.fmod 1000000007 := fun i => ⟨by have := (fmod_rg i 1000000007 (by decide)).2; omega, (fmod_rg i 1000000007 (by decide)).1⟩
    refine ⟨.inr (by decide), by decide, .inl (by have := hf ((b1 + 1) * 39373); omega), by decide, .inr (by decide), by decide, ⟨by decide, by decide⟩, by omega, ?_⟩
    have hr := fmod_rg (((((((b1 + 1) * 39373).fmod 1000000007 * ((b1 + 1) * 39373).fmod 1000000007).fmod 998244353 * 30011).fmod 998244353).fdiv 7)) many (by omega)
    exact h _ M hr.1 hr.2 .refl ⟨ne, ⟨b0, b1, b2, h0, h1, h1', h2, hb⟩, hc, hp, hln⟩
theorem sp_take (n : Nat) (b q : Addr) (cells : List Int) (many : Int) (hm : 1 ≤ many ∧ many < 1000000) (M : MH) (hB : Bag M b q cells) (Q : D → MH → Prop) (h : ∀ r M', 0 ≤ r → r < many → ExtB b M M' → Bag M' b q cells → Q (.int r) M') : F (n + 1) 41 [.ref b, .int many] M Q := by
  rw [F_succ (r := f__law_take) rfl]
  refine ⟨rfl, ?_⟩
  have te : ∀ (M1 : MH), ExtB b M M1 → Bag M1 b q cells → ∀ x y z, _ := fun M1 x1 hB1 x y z => take_end n b q cells many hm M1 hB1 Q (fun r M' r0 r1 x2 hB2 => h r M' r0 r1 (x1.trans x2) hB2) x y z _ _ rfl
  simp only [f__law_take, i__law_take]
  rw [denSs]
  unfold dSeqS
  generalize hT : denSs (F n) T.cs _ { nx := fun _ M' => Q .non M', rt := Q } = T' at te ⊢
  walk_at "dn"
  obtain ⟨ne, ⟨b0, b1, b2, h0, h1, h1', h2, hb⟩, hc, hp, hln⟩ := hB
  have e0 := rdL_lst hb
  have a3 : atI [D.int b0, .int b1, .int b2, .ref q] 3 = some (.ref q) := rfl
  simp only [dIx, e0, at40, at41, at42, a3, dEq, py_int, eqv_int]
  by_cases c : b0 = 0
  · simp only [decide_eq_true c, if_true, rdL_lst hc]
    intro r hr
    refine ⟨ln2, fun p hp' => ?_⟩
    have hpr : p ≠ r := by
      rintro rfl
      rw [up_same] at hp'
      cases hp'
    have ec : ∃ w ws, cut (List.map D.int cells) (some b2) none ++ [D.int 0] = D.int w :: ws ∧ 0 ≤ w := by
      rw [cut_map]
      cases hcut : cutA cells (some b2) none with
      | nil => exact ⟨0, [], rfl, by decide⟩
      | cons w ws =>
        refine ⟨w, _, rfl, hp w ?_⟩
        have : w ∈ cutA cells (some b2) none := by rw [hcut]; exact List.mem_cons_self
        unfold cutA at this
        exact List.mem_of_mem_drop (List.mem_of_mem_take this)
    obtain ⟨w, ws, ew, hw⟩ := ec
    simp only [dAdd, up_ne hpr.symm, up_same, ew]
    refine ⟨by simp [cut]; show _ ≤ 16777216; omega, fun t ht => ?_⟩
    have x3 : Ext M (up (up (up M r (.lst (cut (List.map D.int cells) (some b2) none))) p (.lst [D.int 0])) t (.lst (D.int w :: ws))) := ((Ext.up hr).trans (.up hp')).trans (.up ht)
    have et : rdL (up (up (up M r (.lst (cut (List.map D.int cells) (some b2) none))) p (.lst [D.int 0])) t (.lst (D.int w :: ws))) t = some (D.int w :: ws) := rdL_lst up_same
    generalize up (up (up M r (.lst (cut (List.map D.int cells) (some b2) none))) p (.lst [D.int 0])) t (.lst (D.int w :: ws)) = M3 at x3 et ⊢
    have hb3 := x3 b _ hb
    have hc3 := x3 q _ hc
    have i0 : ixN [D.int b0, .int b1, .int b2, .ref q].length 0 = some 0 := rfl
    have i2 : ixN [D.int b0, .int b1, .int b2, .ref q].length 2 = some 2 := rfl
    simp only [et, at0c, getD', rdL_lst hb3, at42, iopD, setD, hb3, i2, List.set_cons_succ, List.set_cons_zero]
    simp only [dPow, dGe, dCI]
    refine ⟨⟨by decide, by decide, by decide⟩, ?_⟩
    have rg := fun i : Int => fmod_rg i 2147483647 (by decide)
    have ra : ∀ x y z : Int, rdL (up M3 b (MO.lst [D.int x, D.int y, D.int z, D.ref q])) b = some [D.int x, D.int y, D.int z, D.ref q] := fun _ _ _ => rdL_lst up_same
    have j0 : ∀ x y z : Int, ixN [D.int x, .int y, .int z, .ref q].length 0 = some 0 := fun _ _ _ => rfl
    have j1 : ∀ x y z : Int, ixN [D.int x, .int y, .int z, .ref q].length 1 = some 1 := fun _ _ _ => rfl
    have ra2 : ∀ (u : List D) (x y z : Int), rdL (up (up M3 b (.lst u)) b (MO.lst [D.int x, D.int y, D.int z, D.ref q])) b = some [D.int x, D.int y, D.int z, D.ref q] := fun _ _ _ _ => rdL_lst up_same
    have rr := rg (b1 * 48271 + w.fmod 2147483647 + 7919 * (b2 + 1))
    by_cases g : (10 : Int) ^ (18 : Int).toNat ≤ w
    · simp only [decide_eq_true g, if_true, up_same, j0, j1, List.set_cons_zero, List.set_cons_succ, ra2, dMul, dMod, fInt, at41, at42]
      refine ⟨.inr (by decide), by decide, .inl (by decide), by decide, ?_⟩
      exact te _ (((x3.b.trans .up).trans .up).trans .up) (.put ne (by rw [up_ne ne, up_ne ne]; exact hc3) hp hln _ _ _ hw rr.1 rr.2 (by omega)) _ _ _
    · simp only [decide_eq_false g, Bool.false_eq_true, if_false, up_same, i0, ra, j1, List.set_cons_succ, List.set_cons_zero, dMul, dMod, fInt, at41, at42]
      refine ⟨.inr (by decide), by decide, .inl (by decide), by decide, ?_⟩
      exact te _ ((x3.b.trans .up).trans .up) (.put ne (by rw [up_ne ne]; exact hc3) hp hln _ _ _ h0 rr.1 rr.2 (by omega)) _ _ _
  · simp only [decide_eq_false c, Bool.false_eq_true, if_false]
    exact te M .refl ⟨ne, ⟨b0, b1, b2, h0, h1, h1', h2, hb⟩, hc, hp, hln⟩ none none none
end K10

set_option Elab.async false
set_option linter.all false
set_option maxRecDepth 100000
set_option maxHeartbeats 2000000
namespace K10
open PySem Dn
open L2 (atI ixN)
local macro_rules | `(tactic| walk_at "dn") => `(tactic| simp only [denSs, denSt, denE, denEs, denT, denTB, denB, denO, denI, denS, dSeqS, dNext, dRet, dRetN, dDrop, dIfS, dAsg, dTup, dLst, dCons, dNil, dOp, dVar, dC, Cn.d, dBin, dCmp, dF, dTB, dAnd, dOr, dNot, dAndV, dOrV, dNotV, dIf, dChain, dSl, dPart, dNoPart, dMt, dSeq, dRev, dLc, dLc2, dFor, dPar, dSetS, dAug, dAugS, dAsgL, dNeg, dIsi, Bi.den, Mt.den, startE, bindP_nm, bindP_tp, bindPs_nil, bindPs_cons,
  List.map_cons, List.map_nil, List.length_cons, List.length_nil, Nat.reduceAdd, Nat.reduceSub, Nat.zero_add, List.replicate, List.replicate_zero, List.cons_append, List.nil_append, List.append_nil, List.getElem?_cons_zero, List.getElem?_cons_succ, List.set_cons_zero, List.set_cons_succ, Dn.wp, if_true, if_false, Bool.false_eq_true, ite_true, ite_false])
local macro_rules | `(tactic| walk_at "sq") => `(tactic| simp only [dIx, at10, at20, at21, at30, at31, at32, at40, at41, at42, at43, dEq, dNe, dInB, py_str, py_tup, pys, Option.map_some, List.any_cons, List.any_nil, Bool.or_false, Bool.or_true, Bool.true_or, Bool.false_or, Bool.not_true, Bool.not_false, Bool.false_eq_true, if_true, if_false, w_all_all, w_all_none, w_all_one, w_all_line, w_all_power, w_all_ahead, w_all_behind, w_all_between, w_all_moves, w_all_goes, w_all_both, w_none_all, w_none_none, w_none_one, w_none_line, w_none_power, w_none_ahead, w_none_behind, w_none_between, w_none_moves, w_none_goes, w_none_both, w_one_all, w_one_none, w_one_one, w_one_line, w_one_power, w_one_ahead, w_one_behind, w_one_between, w_one_moves, w_one_goes, w_one_both, w_line_all, w_line_none, w_line_one, w_line_line, w_line_power, w_line_ahead, w_line_behind, w_line_between, w_line_moves, w_line_goes, w_line_both, w_power_all, w_power_none, w_power_one, w_power_line, w_power_power, w_power_ahead, w_power_behind, w_power_between, w_power_moves, w_power_goes, w_power_both, w_ahead_all, w_ahead_none, w_ahead_one, w_ahead_line, w_ahead_power, w_ahead_ahead, w_ahead_behind, w_ahead_between, w_ahead_moves, w_ahead_goes, w_ahead_both, w_behind_all, w_behind_none, w_behind_one, w_behind_line, w_behind_power, w_behind_ahead, w_behind_behind, w_behind_between, w_behind_moves, w_behind_goes, w_behind_both, w_between_all, w_between_none, w_between_one, w_between_line, w_between_power, w_between_ahead, w_between_behind, w_between_between, w_between_moves, w_between_goes, w_between_both, w_moves_all, w_moves_none, w_moves_one, w_moves_line, w_moves_power, w_moves_ahead, w_moves_behind, w_moves_between, w_moves_moves, w_moves_goes, w_moves_both, w_goes_all, w_goes_none, w_goes_one, w_goes_line, w_goes_power, w_goes_ahead, w_goes_behind, w_goes_between, w_goes_moves, w_goes_goes, w_goes_both, w_both_all, w_both_none, w_both_one, w_both_line, w_both_power, w_both_ahead, w_both_behind, w_both_between, w_both_moves, w_both_goes, w_both_both])

theorem sp_some (n : Nat) (b q : Addr) (cells : List Int) (ds : List D) (hd : 1 ≤ ds.length ∧ ds.length < 1000) (M : MH) (hB : Bag M b q cells) (Q : D → MH → Prop) (h : ∀ d M', d ∈ ds → ExtB b M M' → Bag M' b q cells → Q d M') : F (n + 2) 42 [.ref b, .tup ds] M Q := by
  rw [F_succ (r := f__law_some) rfl]
  refine ⟨rfl, ?_⟩
  simp only [f__law_some, i__law_some]
  walk_at "dn"
  simp only [fLen]
  refine sp_take n b q cells ds.length (by omega) M hB _ fun r M' r0 r1 x hB' => ?_
  simp only [dIx]
  obtain ⟨k, rfl⟩ : ∃ k : Nat, r = k := ⟨r.toNat, by omega⟩
  have hk : k < ds.length := by omega
  rw [atI_cast ds k hk, List.getElem?_eq_getElem hk]
  exact h _ M' (List.getElem_mem hk) x hB'
theorem sp_some_list (n : Nat) (b q a : Addr) (cells : List Int) (ds : List D) (hd : 1 ≤ ds.length ∧ ds.length < 1000) (M : MH) (hB : Bag M b q cells) (ha : M a = some (.lst ds)) (hab : a ≠ b) (Q : D → MH → Prop) (h : ∀ d M', d ∈ ds → ExtB b M M' → Bag M' b q cells → Q d M') : F (n + 2) 42 [.ref b, .ref a] M Q := by
  rw [F_succ (r := f__law_some) rfl]
  refine ⟨rfl, ?_⟩
  simp only [f__law_some, i__law_some]
  walk_at "dn"
  simp only [fLen, ha]
  refine sp_take n b q cells ds.length (by omega) M hB _ fun r M' r0 r1 x hB' => ?_
  simp only [dIx, rdL_lst (x a _ hab ha)]
  obtain ⟨k, rfl⟩ : ∃ k : Nat, r = k := ⟨r.toNat, by omega⟩
  have hk : k < ds.length := by omega
  rw [atI_cast ds k hk, List.getElem?_eq_getElem hk]
  exact h _ M' (List.getElem_mem hk) x hB'
end K10

set_option Elab.async false
set_option linter.all false
set_option maxRecDepth 100000
set_option maxHeartbeats 2000000
namespace K10
open PySem Dn
open L2 (atI ixN)
local macro_rules | `(tactic| walk_at "dn") => `(tactic| simp only [denSs, denSt, denE, denEs, denT, denTB, denB, denO, denI, denS, dSeqS, dNext, dRet, dRetN, dDrop, dIfS, dAsg, dTup, dLst, dCons, dNil, dOp, dVar, dC, Cn.d, dBin, dCmp, dF, dTB, dAnd, dOr, dNot, dAndV, dOrV, dNotV, dIf, dChain, dSl, dPart, dNoPart, dMt, dSeq, dRev, dLc, dLc2, dFor, dPar, dSetS, dAug, dAugS, dAsgL, dNeg, dIsi, Bi.den, Mt.den, startE, bindP_nm, bindP_tp, bindPs_nil, bindPs_cons,
  List.map_cons, List.map_nil, List.length_cons, List.length_nil, Nat.reduceAdd, Nat.reduceSub, Nat.zero_add, List.replicate, List.replicate_zero, List.cons_append, List.nil_append, List.append_nil, List.getElem?_cons_zero, List.getElem?_cons_succ, List.set_cons_zero, List.set_cons_succ, Dn.wp, if_true, if_false, Bool.false_eq_true, ite_true, ite_false])
local macro_rules | `(tactic| walk_at "sq") => `(tactic| simp only [dIx, at10, at20, at21, at30, at31, at32, at40, at41, at42, at43, dEq, dNe, dInB, py_str, py_tup, pys, Option.map_some, List.any_cons, List.any_nil, Bool.or_false, Bool.or_true, Bool.true_or, Bool.false_or, Bool.not_true, Bool.not_false, Bool.false_eq_true, if_true, if_false, w_all_all, w_all_none, w_all_one, w_all_line, w_all_power, w_all_ahead, w_all_behind, w_all_between, w_all_moves, w_all_goes, w_all_both, w_none_all, w_none_none, w_none_one, w_none_line, w_none_power, w_none_ahead, w_none_behind, w_none_between, w_none_moves, w_none_goes, w_none_both, w_one_all, w_one_none, w_one_one, w_one_line, w_one_power, w_one_ahead, w_one_behind, w_one_between, w_one_moves, w_one_goes, w_one_both, w_line_all, w_line_none, w_line_one, w_line_line, w_line_power, w_line_ahead, w_line_behind, w_line_between, w_line_moves, w_line_goes, w_line_both, w_power_all, w_power_none, w_power_one, w_power_line, w_power_power, w_power_ahead, w_power_behind, w_power_between, w_power_moves, w_power_goes, w_power_both, w_ahead_all, w_ahead_none, w_ahead_one, w_ahead_line, w_ahead_power, w_ahead_ahead, w_ahead_behind, w_ahead_between, w_ahead_moves, w_ahead_goes, w_ahead_both, w_behind_all, w_behind_none, w_behind_one, w_behind_line, w_behind_power, w_behind_ahead, w_behind_behind, w_behind_between, w_behind_moves, w_behind_goes, w_behind_both, w_between_all, w_between_none, w_between_one, w_between_line, w_between_power, w_between_ahead, w_between_behind, w_between_between, w_between_moves, w_between_goes, w_between_both, w_moves_all, w_moves_none, w_moves_one, w_moves_line, w_moves_power, w_moves_ahead, w_moves_behind, w_moves_between, w_moves_moves, w_moves_goes, w_moves_both, w_goes_all, w_goes_none, w_goes_one, w_goes_line, w_goes_power, w_goes_ahead, w_goes_behind, w_goes_between, w_goes_moves, w_goes_goes, w_goes_both, w_both_all, w_both_none, w_both_one, w_both_line, w_both_power, w_both_ahead, w_both_behind, w_both_between, w_both_moves, w_both_goes, w_both_both])

/-- the bag of a script -/
theorem sp_bag (n : Nat) (ns : List Int) (hl : ns.length ≤ 63) (M : MH) (Q : D → MH → Prop) (h : ∀ b q cells M', Bag M' b q cells → Q (.ref b) M') : F (n + 1) 40 [.kls (ns.map D.int)] M Q := by
  rw [F_succ (r := f__law_bag) rfl]
  refine ⟨rfl, ?_⟩
  simp only [f__law_bag, i__law_bag]
  walk_at "dn"
  intro r hr
  have ec : cut (ns.map D.int) none (some 63) = ns.map D.int := by
    have h1 : cutA ns none (some (63 : Int)) = ns.take 63 := cutA_to ns 63
    rw [cut_map, h1, List.take_of_length_le hl]
  rw [ec]
  have e0 : rdL (up M r (.lst (ns.map D.int))) r = some (ns.map D.int) := rdL_lst up_same
  generalize up M r (.lst (ns.map D.int)) = M1 at e0 ⊢
  simp only [e0]
  intro D hD
  have hrD : r ≠ D := by
    rintro rfl
    unfold rdL at e0
    rw [hD] at e0
    cases e0
  refine lc_A (N := fun D M1 => 4 ≤ LN ∧ ∀ (p : Addr), M1 p = none → Q (Dn.D.ref p) (up M1 p (MO.lst [Dn.D.int 0, Dn.D.int 1234567891, Dn.D.int 0, Dn.D.ref D]))) ns Dn.D.int (fun i => Dn.D.int (if i < 0 then -i else i)) (fun D' M2 hD' x => ?_) (by show _ ≤ 16777216; omega) (fun i hi => ⟨_, rfl, fun M' Q' x k => ?_⟩) (fun D' M2 hD' x e => ⟨ln2, fun p hp => ?_⟩) D hD
  · have hr' : r ≠ D' := by
      rintro rfl
      unfold rdL at e0
      rw [hD'] at e0
      cases e0
    exact rdL_extB hr' x e0
  · walk_at "dn"
    simp only [fAbs]
    exact k M' .refl
  · have hpD : D' ≠ p := by
      rintro rfl
      rw [hp] at e
      cases e
    refine h p D' (ns.map fun i => if i < 0 then -i else i) _ ⟨hpD, ⟨0, 1234567891, 0, by decide, by decide, by decide, by decide, up_same⟩, ?_, ?_, by simpa using hl⟩
    · rw [up_ne hpD, e, List.map_map]
      rfl
    · intro c hc
      rw [List.mem_map] at hc
      obtain ⟨i, _, rfl⟩ := hc
      split <;> omega
end K10

set_option Elab.async false
set_option linter.all false
set_option maxRecDepth 100000
set_option maxHeartbeats 2000000
namespace K10
open PySem Dn
open L2 (atI ixN)
local macro_rules | `(tactic| walk_at "dn") => `(tactic| simp only [denSs, denSt, denE, denEs, denT, denTB, denB, denO, denI, denS, dSeqS, dNext, dRet, dRetN, dDrop, dIfS, dAsg, dTup, dLst, dCons, dNil, dOp, dVar, dC, Cn.d, dBin, dCmp, dF, dTB, dAnd, dOr, dNot, dAndV, dOrV, dNotV, dIf, dChain, dSl, dPart, dNoPart, dMt, dSeq, dRev, dLc, dLc2, dFor, dPar, dSetS, dAug, dAugS, dAsgL, dNeg, dIsi, Bi.den, Mt.den, startE, bindP_nm, bindP_tp, bindPs_nil, bindPs_cons,
  List.map_cons, List.map_nil, List.length_cons, List.length_nil, Nat.reduceAdd, Nat.reduceSub, Nat.zero_add, List.replicate, List.replicate_zero, List.cons_append, List.nil_append, List.append_nil, List.getElem?_cons_zero, List.getElem?_cons_succ, List.set_cons_zero, List.set_cons_succ, Dn.wp, if_true, if_false, Bool.false_eq_true, ite_true, ite_false])
local macro_rules | `(tactic| walk_at "sq") => `(tactic| simp only [dIx, at10, at20, at21, at30, at31, at32, at40, at41, at42, at43, dEq, dNe, dInB, py_str, py_tup, pys, Option.map_some, List.any_cons, List.any_nil, Bool.or_false, Bool.or_true, Bool.true_or, Bool.false_or, Bool.not_true, Bool.not_false, Bool.false_eq_true, if_true, if_false, w_all_all, w_all_none, w_all_one, w_all_line, w_all_power, w_all_ahead, w_all_behind, w_all_between, w_all_moves, w_all_goes, w_all_both, w_none_all, w_none_none, w_none_one, w_none_line, w_none_power, w_none_ahead, w_none_behind, w_none_between, w_none_moves, w_none_goes, w_none_both, w_one_all, w_one_none, w_one_one, w_one_line, w_one_power, w_one_ahead, w_one_behind, w_one_between, w_one_moves, w_one_goes, w_one_both, w_line_all, w_line_none, w_line_one, w_line_line, w_line_power, w_line_ahead, w_line_behind, w_line_between, w_line_moves, w_line_goes, w_line_both, w_power_all, w_power_none, w_power_one, w_power_line, w_power_power, w_power_ahead, w_power_behind, w_power_between, w_power_moves, w_power_goes, w_power_both, w_ahead_all, w_ahead_none, w_ahead_one, w_ahead_line, w_ahead_power, w_ahead_ahead, w_ahead_behind, w_ahead_between, w_ahead_moves, w_ahead_goes, w_ahead_both, w_behind_all, w_behind_none, w_behind_one, w_behind_line, w_behind_power, w_behind_ahead, w_behind_behind, w_behind_between, w_behind_moves, w_behind_goes, w_behind_both, w_between_all, w_between_none, w_between_one, w_between_line, w_between_power, w_between_ahead, w_between_behind, w_between_between, w_between_moves, w_between_goes, w_between_both, w_moves_all, w_moves_none, w_moves_one, w_moves_line, w_moves_power, w_moves_ahead, w_moves_behind, w_moves_between, w_moves_moves, w_moves_goes, w_moves_both, w_goes_all, w_goes_none, w_goes_one, w_goes_line, w_goes_power, w_goes_ahead, w_goes_behind, w_goes_between, w_goes_moves, w_goes_goes, w_goes_both, w_both_all, w_both_none, w_both_one, w_both_line, w_both_power, w_both_ahead, w_both_behind, w_both_between, w_both_moves, w_both_goes, w_both_both])

/-- a comprehension whose items draw: what holds of the heap goes on -/
theorem lc_inv {p : Pat} {te : TD} {env : Ev} {M : MH} {N : Addr → MH → Prop} (I : Addr → MH → Prop) (P : D → Prop) (l : List D) (hl : l.length ≤ LN)
    (hpush : ∀ D M1 ds, M D = none → I D M1 → I D (up M1 D (.lst ds)))
    (h0 : ∀ D, M D = none → I D (up M D (.lst [])))
    (he : ∀ d ∈ l, ∃ env2, bindP p d env = some env2 ∧ ∀ D M1 ds (Q : Dn.D → MH → Prop), M D = none → I D M1 → M1 D = some (.lst ds) → (∀ y M2, P y → I D M2 → M2 D = some (.lst ds) → Q y M2) → te env2 M1 Q)
    (k : ∀ D M' ds, M D = none → I D M' → M' D = some (.lst ds) → ds.length = l.length → (∀ d ∈ ds, P d) → N D M') (D : Addr) (hD : M D = none) :
    dLcL p dYes te (fun _ => True) env (N D) D l (up M D (.lst [])) := by
  have key : ∀ (l : List Dn.D) (acc : List Dn.D) (M1 : MH), (∀ d ∈ l, ∃ env2, bindP p d env = some env2 ∧ ∀ D M1 ds (Q : Dn.D → MH → Prop), M D = none → I D M1 → M1 D = some (.lst ds) → (∀ y M2, P y → I D M2 → M2 D = some (.lst ds) → Q y M2) → te env2 M1 Q) → I D M1 → M1 D = some (.lst acc) → acc.length + l.length ≤ LN → (∀ d ∈ acc, P d) →
      (∀ M' ds, I D M' → M' D = some (.lst ds) → ds.length = acc.length + l.length → (∀ d ∈ ds, P d) → N D M') → dLcL p dYes te (fun _ => True) env (N D) D l M1 := by
    intro l
    induction l with
    | nil => intro acc M1 _ i e _ hp k; exact ⟨trivial, k M1 acc i e (by simp) hp⟩
    | cons d l ih =>
      intro acc M1 he i e hl hp k
      obtain ⟨env2, e1, e2⟩ := he d List.mem_cons_self
      refine ⟨trivial, ?_⟩
      rw [e1]
      simp only [dYes, if_true]
      refine e2 D M1 acc _ hD i e fun y M2 py i2 e3 => ?_
      unfold pushD
      rw [e3]
      simp only [List.length_cons] at hl
      refine ⟨by omega, ?_⟩
      refine ih (acc ++ [y]) _ (fun z hz => he z (List.mem_cons_of_mem _ hz)) (hpush D M2 _ hD i2) up_same (by rw [List.length_append, List.length_singleton]; omega) (fun z hz => ?_) fun M' ds i' e' hl' hp' => k M' ds i' e' (by rw [hl', List.length_append, List.length_singleton, List.length_cons]; omega) hp'
      rw [List.mem_append, List.mem_singleton] at hz
      rcases hz with hz | rfl
      · exact hp z hz
      · exact py
  exact key l [] _ he (h0 D hD) up_same (by simpa using hl) (fun d hd => by cases hd) fun M' ds i e hl hp => k D M' ds hD i e (by simpa using hl) hp
end K10

set_option Elab.async false
set_option linter.all false
set_option maxRecDepth 100000
set_option maxHeartbeats 2000000
namespace K10
open PySem Dn
/-! ### shortening as a stack, head on top -/
theorem inv_inv (s : Sp) : inv (inv s) = s := by
  obtain ⟨a, b⟩ := s
  simp [inv]
def pushS (acc : List Sp) (s : Sp) : List Sp := match acc with
  | [] => [s]
  | t :: r => if t = inv s then r else s :: t :: r
def ap (acc x : List Sp) : List Sp := x.foldl pushS acc
inductive ShS : List Sp → Prop where
  | nil : ShS []
  | one (s : Sp) : ShS [s]
  | cons (s t : Sp) (r : List Sp) : t ≠ inv s → ShS (t :: r) → ShS (s :: t :: r)
theorem ShS.tail {s : Sp} {r : List Sp} (h : ShS (s :: r)) : ShS r := by
  cases h with
  | one => exact .nil
  | cons _ _ _ _ h => exact h
theorem ShS.ne {s t : Sp} {r : List Sp} (h : ShS (s :: t :: r)) : t ≠ inv s := by
  cases h with
  | cons _ _ _ h _ => exact h
theorem redL_ap : ∀ (x acc : List Sp), redL acc x = (ap acc.reverse x).reverse
  | [], acc => by simp [redL, ap]
  | s :: x, acc => by
    rw [redL]
    have e : ap acc.reverse (s :: x) = ap (pushS acc.reverse s) x := rfl
    rw [e]
    rcases List.eq_nil_or_concat acc with rfl | ⟨a, t, rfl⟩
    · simp only [List.getLast?_nil, reduceCtorEq, if_false]
      rw [redL_ap x]
      rfl
    · rw [List.concat_eq_append]
      simp only [List.getLast?_append, List.getLast?_singleton, Option.some_or, Option.some.injEq, List.reverse_append, List.reverse_cons, List.reverse_nil, List.nil_append, List.singleton_append, pushS, List.dropLast_concat]
      split
      · rw [redL_ap x]
      · rw [redL_ap x]
        simp
theorem red_ap (x : List Sp) : red x = (ap [] x).reverse := redL_ap x []
theorem ap_app (acc x y : List Sp) : ap acc (x ++ y) = ap (ap acc x) y := List.foldl_append
theorem sh_push {acc : List Sp} (h : ShS acc) (s : Sp) : ShS (pushS acc s) := by
  cases acc with
  | nil => exact .one s
  | cons t r =>
    unfold pushS
    simp only []
    split
    · exact h.tail
    · rename_i c; exact .cons s t r c h
theorem push_inv {acc : List Sp} (h : ShS acc) (s : Sp) : pushS (pushS acc s) (inv s) = acc := by
  cases acc with
  | nil => simp [pushS, inv_inv]
  | cons t r =>
    by_cases c : t = inv s
    · subst c
      have e : pushS (inv s :: r) s = r := by simp [pushS]
      rw [e]
      cases r with
      | nil => rfl
      | cons u r =>
        have := h.ne
        rw [inv_inv] at this
        simp [pushS, inv_inv, this]
    · simp [pushS, c, inv_inv]
theorem ap_short : ∀ (x : List Sp) {acc : List Sp}, ShS acc → ShS (ap acc x)
  | [], _, h => h
  | s :: x, acc, h => ap_short x (sh_push h s)
theorem undo_app (x y : List Sp) : undo (x ++ y) = undo y ++ undo x := by simp [undo]
theorem undo_undo (x : List Sp) : undo (undo x) = x := by
  simp only [undo, List.map_reverse, List.reverse_reverse, List.map_map]
  have : inv ∘ inv = id := by funext s; exact inv_inv s
  rw [this, List.map_id]
theorem ap_undo : ∀ (x : List Sp) {acc : List Sp}, ShS acc → ap (ap acc x) (undo x) = acc
  | [], _, _ => rfl
  | s :: x, acc, h => by
    have e : undo (s :: x) = undo x ++ [inv s] := by simp [undo]
    rw [e, ap_app]
    have e2 : ap acc (s :: x) = ap (pushS acc s) x := rfl
    rw [e2, ap_undo x (sh_push h s)]
    exact push_inv h s
theorem ap_st (acc : List Sp) (ha : ShS acc) : ∀ (x st : List Sp), ShS st → ap acc (st.reverse ++ x) = ap acc (ap st x).reverse
  | [], st, _ => by simp [ap]
  | s :: x, st, h => by
    have ih := ap_st acc ha x (pushS st s) (sh_push h s)
    have e : ap st (s :: x) = ap (pushS st s) x := rfl
    rw [e, ← ih, ap_app, ap_app]
    have e2 : ap (ap acc st.reverse) (s :: x) = ap (pushS (ap acc st.reverse) s) x := rfl
    rw [e2]
    congr 1
    cases st with
    | nil => rfl
    | cons t r =>
      by_cases c : t = inv s
      · subst c
        have e3 : pushS (inv s :: r) s = r := by simp [pushS]
        rw [e3, List.reverse_cons, ap_app]
        have := push_inv (ap_short r.reverse ha) (inv s)
        rw [inv_inv] at this
        exact this
      · have e3 : pushS (t :: r) s = s :: t :: r := by simp [pushS, c]
        rw [e3, List.reverse_cons (a := s), ap_app]
        rfl
theorem ap_red (acc x : List Sp) (h : ShS acc) : ap acc x = ap acc (red x) := by
  rw [red_ap]
  have := ap_st acc h x [] .nil
  simpa using this
/-- two rows that shorten to one do the same -/
theorem red_app {x x' y y' : List Sp} (h : red x = red x') (k : red y = red y') : red (x ++ y) = red (x' ++ y') := by
  have e : ap [] x = ap [] x' := by
    have := h
    rw [red_ap, red_ap] at this
    exact List.reverse_inj.mp this
  rw [red_ap, red_ap, ap_app, ap_app, e, ap_red _ y (ap_short x' .nil), ap_red _ y' (ap_short x' .nil), k]
theorem red_red (x : List Sp) : red (red x) = red x := by
  rw [red_ap (red x), ← ap_red [] x .nil, ← red_ap]
theorem red_undo_self (x : List Sp) : red (x ++ undo x) = [] := by
  rw [red_ap, ap_app, ap_undo x .nil]; rfl
theorem red_undo_self' (x : List Sp) : red (undo x ++ x) = [] := by
  have := red_undo_self (undo x)
  rwa [undo_undo] at this
theorem red_nil : red [] = [] := rfl
theorem red_left (x : List Sp) {y y' : List Sp} (k : red y = red y') : red (x ++ y) = red (x ++ y') := red_app rfl k
theorem red_right {x x' : List Sp} (y : List Sp) (k : red x = red x') : red (x ++ y) = red (x' ++ y) := red_app k rfl
theorem red_cancel {x y y' : List Sp} (h : red (x ++ y) = red (x ++ y')) : red y = red y' := by
  have := red_left (undo x) h
  rw [← List.append_assoc, ← List.append_assoc] at this
  have e : ∀ z : List Sp, red (undo x ++ x ++ z) = red z := fun z => by
    have := red_right (x := undo x ++ x) (x' := []) z (by rw [red_undo_self', red_nil])
    simpa using this
  rwa [e, e] at this
theorem red_cancel' {x y y' : List Sp} (h : red (y ++ x) = red (y' ++ x)) : red y = red y' := by
  have := red_right (undo x) h
  rw [List.append_assoc, List.append_assoc] at this
  have e : ∀ z : List Sp, red (z ++ (x ++ undo x)) = red z := fun z => by
    have := red_left (y := x ++ undo x) (y' := []) z (by rw [red_undo_self, red_nil])
    simpa using this
  rwa [e, e] at this
theorem red_mid (x z : List Sp) {y : List Sp} (h : red y = []) : red (x ++ y ++ z) = red (x ++ z) := by
  refine red_right z ?_
  have := red_left (y := y) (y' := []) x (by rw [h, red_nil])
  simpa using this
theorem red_undo {x y : List Sp} (h : red x = red y) : red (undo x) = red (undo y) := by
  apply red_cancel (x := x)
  rw [red_undo_self]
  have := red_right (undo y) h
  rw [red_undo_self] at this
  exact this.symm
/-! ### short rows -/
theorem shS_red (x : List Sp) : ShS (red x).reverse := by
  rw [red_ap, List.reverse_reverse]
  exact ap_short x .nil
theorem ap_short_self : ∀ (x : List Sp) {acc : List Sp}, ShS (x.reverse ++ acc) → ap acc x = x.reverse ++ acc
  | [], _, _ => rfl
  | s :: x, acc, h => by
    have e : ap acc (s :: x) = ap (pushS acc s) x := rfl
    rw [List.reverse_cons, List.append_assoc, List.singleton_append] at h ⊢
    have e2 : pushS acc s = s :: acc := by
      cases acc with
      | nil => rfl
      | cons t r =>
        have : ShS (s :: t :: r) := by
          have : ∀ (a : List Sp), ShS (a ++ s :: t :: r) → ShS (s :: t :: r) := by
            intro a
            induction a with
            | nil => exact fun h => h
            | cons b a ih => exact fun h => ih h.tail
          exact this _ h
        simp [pushS, this.ne]
    rw [e, e2]
    exact ap_short_self x h
theorem red_of_short {x : List Sp} (h : ShS x.reverse) : red x = x := by
  have := ap_short_self (acc := []) x (by simpa using h)
  rw [red_ap, this]
  simp
/-! ### sums of ways -/
def cnt (c : Str) : List Sp → Int
  | [] => 0
  | s :: r => (if s.1 = c then s.2 else 0) + cnt c r
theorem cnt_app (c : Str) : ∀ x y : List Sp, cnt c (x ++ y) = cnt c x + cnt c y
  | [], y => by simp [cnt]
  | s :: x, y => by rw [List.cons_append, cnt, cnt, cnt_app c x y]; omega
theorem cnt_rev (c : Str) : ∀ x : List Sp, cnt c x.reverse = cnt c x
  | [] => rfl
  | s :: x => by rw [List.reverse_cons, cnt_app, cnt_rev c x, cnt, cnt, cnt]; omega
theorem cnt_inv (c : Str) : ∀ x : List Sp, cnt c (x.map inv) = - cnt c x
  | [] => rfl
  | s :: x => by
    rw [List.map_cons, cnt, cnt, cnt_inv c x]
    by_cases h : s.1 = c <;> simp only [inv, h, if_true, if_false] <;> omega
theorem cnt_undo (c : Str) (x : List Sp) : cnt c (undo x) = - cnt c x := by
  rw [undo, cnt_inv, cnt_rev]
theorem cnt_push (c : Str) (acc : List Sp) (s : Sp) : cnt c (pushS acc s) = cnt c acc + cnt c [s] := by
  cases acc with
  | nil => simp [pushS, cnt]
  | cons t r =>
    unfold pushS
    simp only []
    split
    · rename_i h
      subst h
      by_cases h : s.1 = c <;> simp only [cnt, inv, h, if_true, if_false] <;> omega
    · simp only [cnt]; omega
theorem cnt_ap (c : Str) : ∀ (x acc : List Sp), cnt c (ap acc x) = cnt c acc + cnt c x
  | [], acc => by simp [ap, cnt]
  | s :: x, acc => by
    have e : ap acc (s :: x) = ap (pushS acc s) x := rfl
    rw [e, cnt_ap c x, cnt_push]
    simp only [cnt]
    omega
theorem cnt_red (c : Str) (x : List Sp) : cnt c (red x) = cnt c x := by
  rw [red_ap, cnt_rev, cnt_ap]
  simp [cnt]
theorem cnt_eq {x y : List Sp} (c : Str) (h : red x = red y) : cnt c x = cnt c y := by
  rw [← cnt_red c x, h, cnt_red]
/-! ### powers -/
theorem repl_succ (k : Nat) (x : List Sp) : repl (k + 1) x = x ++ repl k x := by
  rw [repl, List.replicate_succ, List.flatten_cons]; rfl
theorem repl_zero (x : List Sp) : repl 0 x = [] := rfl
theorem repl_comm (x : List Sp) : ∀ k, repl k x ++ x = x ++ repl k x
  | 0 => by simp [repl_zero]
  | k + 1 => by rw [repl_succ, List.append_assoc, repl_comm x k]
theorem repl_succ' (k : Nat) (x : List Sp) : repl (k + 1) x = repl k x ++ x := by rw [repl_succ, repl_comm]
theorem undo_repl (x : List Sp) : ∀ k, undo (repl k x) = repl k (undo x)
  | 0 => rfl
  | k + 1 => by rw [repl_succ, undo_app, undo_repl x k, repl_succ']
theorem red_repl {x y : List Sp} (h : red x = red y) : ∀ k, red (repl k x) = red (repl k y)
  | 0 => rfl
  | k + 1 => by rw [repl_succ, repl_succ]; exact red_app h (red_repl h k)
theorem cnt_repl (c : Str) (x : List Sp) : ∀ k : Nat, cnt c (repl k x) = k * cnt c x
  | 0 => by simp [repl_zero, cnt]
  | k + 1 => by
    rw [repl_succ, cnt_app, cnt_repl c x k]
    have : ((k + 1 : Nat) : Int) = (k : Int) + 1 := by omega
    rw [this, Int.add_mul]
    omega
theorem upw_nat (u : List Sp) (k : Nat) : upw u (k : Int) = repl k u := by
  unfold upw
  cases k with
  | zero => simp [repl_zero]
  | succ k => rw [if_pos (by omega), Int.natAbs_natCast]
theorem upw_neg (u : List Sp) (k : Nat) : upw u (-(k : Int)) = repl k (undo u) := by
  unfold upw
  rw [if_neg (by omega)]
  simp
theorem undo_upw (u : List Sp) (k : Int) : undo (upw u k) = upw u (-k) := by
  rcases Int.eq_nat_or_neg k with ⟨n, rfl | rfl⟩
  · rw [upw_nat, upw_neg, undo_repl]
  · rw [upw_neg, Int.neg_neg, upw_nat, undo_repl, undo_undo]
theorem cnt_upw (c : Str) (u : List Sp) (k : Int) : cnt c (upw u k) = k * cnt c u := by
  rcases Int.eq_nat_or_neg k with ⟨n, rfl | rfl⟩
  · rw [upw_nat, cnt_repl]
  · rw [upw_neg, cnt_repl, cnt_undo, Int.mul_neg, Int.neg_mul]
theorem upw_up (u : List Sp) (k : Int) : red (upw u k ++ u) = red (upw u (k + 1)) := by
  rcases Int.eq_nat_or_neg k with ⟨n, rfl | rfl⟩
  · have e : ((n : Int) + 1) = ((n + 1 : Nat) : Int) := by omega
    rw [e, upw_nat, upw_nat, repl_succ']
  · cases n with
    | zero => simp [upw, repl]
    | succ n =>
      have e : (-((n + 1 : Nat) : Int) + 1) = -(n : Int) := by omega
      rw [e, upw_neg, upw_neg, repl_succ']
      have := red_mid (repl n (undo u)) [] (red_undo_self' u)
      simpa [List.append_assoc] using this
theorem upw_dn (u : List Sp) (k : Int) : red (upw u k ++ undo u) = red (upw u (k - 1)) := by
  have h := upw_up u (k - 1)
  have e : k - 1 + 1 = k := by omega
  rw [e] at h
  rw [← red_right (undo u) h]
  have := red_mid (upw u (k - 1)) [] (red_undo_self u)
  simpa [List.append_assoc] using this
theorem upw_add (u : List Sp) (j k : Int) : red (upw u j ++ upw u k) = red (upw u (j + k)) := by
  rcases Int.eq_nat_or_neg k with ⟨n, rfl | rfl⟩
  · induction n with
    | zero => simp [upw, repl]
    | succ n ih =>
      have e : ((n + 1 : Nat) : Int) = n + 1 := by omega
      rw [upw_nat, repl_succ', ← List.append_assoc, ← upw_nat, red_right u ih, upw_up, e]
      congr 2; omega
  · induction n with
    | zero => simp [upw, repl]
    | succ n ih =>
      have e : ((n + 1 : Nat) : Int) = n + 1 := by omega
      rw [upw_neg, repl_succ', ← List.append_assoc, ← upw_neg, red_right (undo u) ih, upw_dn, e]
      congr 2; omega
theorem upw_red (x : List Sp) (k : Int) : red (upw (red x) k) = red (upw x k) := by
  unfold upw
  split
  · exact red_repl (red_red x) _
  · exact red_repl (red_undo (red_red x)) _
theorem upw_congr {x y : List Sp} (h : red x = red y) (k : Int) : red (upw x k) = red (upw y k) := by
  rw [← upw_red x, h, upw_red]
theorem upw_upw (u : List Sp) (j k : Int) : red (upw (upw u j) k) = red (upw u (j * k)) := by
  have nat : ∀ (j : Int) (n : Nat), red (repl n (upw u j)) = red (upw u (j * n)) := by
    intro j n
    induction n with
    | zero => simp [upw, repl]
    | succ n ih =>
      rw [repl_succ', red_right _ ih, upw_add]
      congr 2
      have : ((n + 1 : Nat) : Int) = n + 1 := by omega
      rw [this, Int.mul_add]; omega
  rcases Int.eq_nat_or_neg k with ⟨n, rfl | rfl⟩
  · rw [upw_nat]; exact nat j n
  · rw [upw_neg, undo_upw, nat, Int.mul_neg, Int.neg_mul]
theorem upw_inj {u : List Sp} {c : Str} (hc : cnt c u ≠ 0) {j k : Int} (h : red (upw u j) = red (upw u k)) : j = k := by
  have := cnt_eq c h
  rw [cnt_upw, cnt_upw] at this
  exact Int.eq_of_mul_eq_mul_right hc this
/-- conjugates -/
theorem conj_repl (s r : List Sp) : ∀ k : Nat, red (repl k (s ++ r ++ undo s)) = red (s ++ repl k r ++ undo s)
  | 0 => by
    have := red_undo_self s
    simp only [repl_zero, List.append_nil]
    rw [this]; rfl
  | k + 1 => by
    rw [repl_succ, red_left _ (conj_repl s r k), repl_succ]
    have := red_mid (s ++ r) (repl k r ++ undo s) (red_undo_self' s)
    simpa [List.append_assoc] using this
/-- the stalk: its first steps are undone at the end -/
def StOk (its : List Sp) (s : Nat) : Prop := 2 * s ≤ its.length ∧ ∀ i, i < s → its[i]? = (its[its.length - 1 - i]?).map inv
theorem stalkF_ok (its : List Sp) : ∀ f s, StOk its s → StOk its (stalkF its f s)
  | 0, s, h => h
  | f + 1, s, h => by
    rw [stalkF]
    split
    · rename_i c
      refine stalkF_ok its f (s + 1) ⟨by omega, fun i hi => ?_⟩
      by_cases e : i = s
      · subst e; exact c.2
      · exact h.2 i (by omega)
    · exact h
theorem stalk_ok (its : List Sp) : StOk its (stalkOf its) := stalkF_ok its _ 0 ⟨by omega, fun i hi => by omega⟩
theorem stalk_end (its : List Sp) (s : Nat) (h : StOk its s) : its.drop (its.length - s) = undo (its.take s) := by
  have hl := h.1
  apply List.ext_getElem?
  intro i
  unfold undo
  rw [List.getElem?_drop, List.getElem?_map]
  by_cases hi : i < s
  · rw [List.getElem?_reverse (by simp; omega)]
    have e : (its.take s).length - 1 - i = s - 1 - i := by simp; omega
    rw [e, List.getElem?_take_of_lt (by omega), h.2 (s - 1 - i) (by omega)]
    have e2 : its.length - 1 - (s - 1 - i) = its.length - s + i := by omega
    rw [e2, Option.map_map]
    have : inv ∘ inv = id := by funext s; exact inv_inv s
    rw [this, Option.map_id]
    rfl
  · rw [List.getElem?_eq_none (by omega), List.getElem?_eq_none (by simp; omega)]
    rfl
theorem stalk_split (its : List Sp) (s : Nat) (h : StOk its s) : its.take s ++ ((its.drop s).take (its.length - 2 * s)) ++ undo (its.take s) = its := by
  have hl := h.1
  rw [← stalk_end its s h]
  have e : its.drop (its.length - s) = (its.drop s).drop (its.length - 2 * s) := by
    rw [List.drop_drop]; congr 1; omega
  rw [e, List.append_assoc, List.take_append_drop, List.take_append_drop]
theorem pw_upw (x : List Sp) (k : Int) : red (pw x k) = red (upw x k) := by
  unfold pw
  by_cases hk : k = 0
  · subst hk; simp [upw, repl]
  · rw [if_neg hk]
    have ho := stalk_ok (pwI x k)
    have hs := stalk_split _ _ ho
    rw [stalk_end _ _ ho, ← conj_repl, hs]
    unfold pwI upw
    have e : (if 0 ≤ k then x else undo x) = if 0 < k then x else undo x := by
      by_cases c : 0 < k
      · rw [if_pos c, if_pos (by omega)]
      · rw [if_neg c, if_neg (by omega)]
    rw [e]
    exact red_repl (red_red _) _
theorem parted_split (x : List Sp) : (partedL x).1 ++ (partedL x).2 ++ undo (partedL x).1 = red x := stalk_split _ _ (stalk_ok (red x))
theorem parted_congr {x y : List Sp} (h : red x = red y) : partedL x = partedL y := by
  unfold partedL; rw [h]
theorem root_congr {x y : List Sp} (h : red x = red y) : rootL x = rootL y := by
  unfold rootL; rw [parted_congr h]
theorem root_red (x : List Sp) : rootL (red x) = rootL x := root_congr (red_red x)
theorem pw_congr_red {x y : List Sp} (h : red x = red y) (k : Int) : red (pw x k) = red (pw y k) := by
  rw [pw_upw, pw_upw, upw_congr h]
end K10

set_option Elab.async false
set_option linter.all false
set_option maxRecDepth 100000
set_option maxHeartbeats 2000000
namespace K10
open PySem Dn
/-! ### short rows, their letters -/
theorem ShS.right : ∀ {l m : List Sp}, ShS (l ++ m) → ShS m
  | [], _, h => h
  | _ :: l, m, h => ShS.right (l := l) h.tail
theorem ShS.left : ∀ {l m : List Sp}, ShS (l ++ m) → ShS l
  | [], _, _ => .nil
  | [s], _, _ => .one s
  | s :: t :: l, m, h => .cons s t l h.ne (ShS.left (l := t :: l) (m := m) h.tail)
theorem shortB_of : ∀ x : List Sp, ShS x.reverse → shortB x = true
  | [], _ => rfl
  | [s], _ => rfl
  | s :: t :: x, h => by
    have e : (s :: t :: x).reverse = x.reverse ++ [t, s] := by simp
    rw [e] at h
    have h1 : s ≠ inv t := h.right.ne
    have h2 : ShS (t :: x).reverse := by
      rw [List.reverse_cons]
      have : x.reverse ++ [t, s] = (x.reverse ++ [t]) ++ [s] := by simp
      rw [this] at h
      exact h.left
    have ih := shortB_of (t :: x) h2
    unfold shortB at ih ⊢
    simp only [List.drop_succ_cons, List.drop_zero, List.zip_cons_cons, List.all_cons] at ih ⊢
    rw [ih, decide_eq_false h1]
    rfl
theorem shortB_red (x : List Sp) : shortB (red x) = true := shortB_of _ (shS_red x)
theorem mem_ap (p : Sp) : ∀ (x acc : List Sp), p ∈ ap acc x → p ∈ acc ∨ p ∈ x
  | [], acc, h => .inl h
  | s :: x, acc, h => by
    have e : ap acc (s :: x) = ap (pushS acc s) x := rfl
    rw [e] at h
    rcases mem_ap p x _ h with h | h
    · cases acc with
      | nil => simp only [pushS, List.mem_singleton] at h; exact .inr (by simp [h])
      | cons t r =>
        unfold pushS at h
        simp only [] at h
        split at h
        · exact .inl (List.mem_cons_of_mem _ h)
        · rcases List.mem_cons.mp h with h | h
          · exact .inr (by simp [h])
          · exact .inl h
    · exact .inr (List.mem_cons_of_mem _ h)
theorem mem_red {p : Sp} {x : List Sp} (h : p ∈ red x) : p ∈ x := by
  rw [red_ap, List.mem_reverse] at h
  rcases mem_ap p x [] h with h | h
  · cases h
  · exact h
theorem mem_repl {p : Sp} {x : List Sp} : ∀ {k : Nat}, p ∈ repl k x → p ∈ x
  | 0, h => by cases h
  | k + 1, h => by
    rw [repl_succ, List.mem_append] at h
    rcases h with h | h
    · exact h
    · exact mem_repl h
theorem mem_undo {p : Sp} {x : List Sp} (h : p ∈ undo x) : ∃ q ∈ x, p = inv q := by
  unfold undo at h
  rw [List.mem_map] at h
  obtain ⟨q, h1, h2⟩ := h
  exact ⟨q, List.mem_reverse.mp h1, h2.symm⟩
theorem good_inv {p : Sp} (h : good p) : good (inv p) := by
  obtain ⟨h1, h2⟩ := h
  exact ⟨h1, by simp only [inv]; omega⟩
theorem good_undo {x : List Sp} (h : ∀ p ∈ x, good p) : ∀ p ∈ undo x, good p := fun p hp => by
  obtain ⟨q, h1, rfl⟩ := mem_undo hp
  exact good_inv (h q h1)
theorem good_upw {x : List Sp} (h : ∀ p ∈ x, good p) (k : Int) : ∀ p ∈ upw x k, good p := fun p hp => by
  unfold upw at hp
  split at hp
  · exact h p (mem_repl hp)
  · exact good_undo h p (mem_repl hp)
theorem good_red {x : List Sp} (h : ∀ p ∈ x, good p) : ∀ p ∈ red x, good p := fun p hp => h p (mem_red hp)
/-! ### units -/
/-- rootL of what is short -/
def rootOf (s : List Sp) : List Sp × Nat :=
  if 0 < (leastPart ((s.drop (stalkOf s)).take (s.length - 2 * stalkOf s))).2 then (s.take (stalkOf s) ++ (leastPart ((s.drop (stalkOf s)).take (s.length - 2 * stalkOf s))).1 ++ undo (s.take (stalkOf s)), (leastPart ((s.drop (stalkOf s)).take (s.length - 2 * stalkOf s))).2) else ([], 0)
theorem rootL_eq (x : List Sp) : rootL x = rootOf (ap [] x).reverse := by
  rw [← red_ap]; rfl
abbrev sA : Sp := (⟨#[97]⟩, 1)
abbrev sB : Sp := (⟨#[98]⟩, 1)
abbrev sC : Sp := (⟨#[99]⟩, 1)
abbrev tA : Sp := (⟨#[97]⟩, -1)
abbrev tB : Sp := (⟨#[98]⟩, -1)
def units : List (List Sp) := [[sA], [tA], [sA, sB], [sA, sB, sA, tB], [sB, sA, tB], [sA, sA, sB]]
def mostOf (u : List Sp) : Nat := 50 / (3 * u.length)
def okU (u : List Sp) : Bool :=
  (List.range (3 * mostOf u)).all (fun k => rootOf (ap [] (repl (k + 1) u)).reverse == (u, k + 1) && rootOf (ap [] (repl (k + 1) (undo u))).reverse == (undo u, k + 1)) &&
  (List.range (3 * mostOf u + 1)).all (fun k => pw u k == (ap [] (repl k u)).reverse && pw (undo u) k == (ap [] (repl k (undo u))).reverse) &&
  ((ap [] u).reverse == u) && ((ap [] (undo u)).reverse == undo u) && (rootOf (ap [] (u ++ [sC])).reverse == (u ++ [sC], 1)) && (cnt ⟨#[97]⟩ u != 0) && (cnt ⟨#[99]⟩ u == 0)
theorem units_ok : units.all okU = true := by decide +kernel
structure Un (u : List Sp) : Prop where
  mem : u ∈ units
theorem Un.chk {u : List Sp} (h : Un u) : okU u = true := List.all_eq_true.mp units_ok u h.mem
theorem Un.len {u : List Sp} (h : Un u) : 1 ≤ u.length ∧ u.length ≤ 4 ∧ 4 ≤ mostOf u ∧ mostOf u ≤ 16 ∧ 3 * mostOf u * u.length ≤ 50 := by
  have : units.all (fun u => decide (1 ≤ u.length ∧ u.length ≤ 4 ∧ 4 ≤ mostOf u ∧ mostOf u ≤ 16 ∧ 3 * mostOf u * u.length ≤ 50)) = true := by decide +kernel
  simpa using List.all_eq_true.mp this u h.mem
theorem Un.letters {u : List Sp} (h : Un u) : ∀ p ∈ u, (p.1 = ⟨#[97]⟩ ∨ p.1 = ⟨#[98]⟩) ∧ (p.2 = 1 ∨ p.2 = -1) := by
  have : units.all (fun u => u.all fun p => decide ((p.1 = ⟨#[97]⟩ ∨ p.1 = ⟨#[98]⟩) ∧ (p.2 = 1 ∨ p.2 = -1))) = true := by decide +kernel
  have h1 := List.all_eq_true.mp this u h.mem
  intro p hp
  have h2 := List.all_eq_true.mp h1 p hp
  exact of_decide_eq_true h2
theorem Un.good {u : List Sp} (h : Un u) : ∀ p ∈ u, good p := fun p hp => by
  obtain ⟨h1, h2⟩ := h.letters p hp
  refine ⟨?_, h2⟩
  have ea : (⟨#[97]⟩ : Str) ∈ (["a", "b", "c"] : List Str) := by decide +kernel
  have eb : (⟨#[98]⟩ : Str) ∈ (["a", "b", "c"] : List Str) := by decide +kernel
  rcases h1 with h1 | h1 <;> rw [h1] <;> assumption
theorem Un.parts {u : List Sp} (h : Un u) : (∀ k, k < 3 * mostOf u → rootL (repl (k + 1) u) = (u, k + 1) ∧ rootL (repl (k + 1) (undo u)) = (undo u, k + 1)) ∧
    (∀ k : Nat, k ≤ 3 * mostOf u → pw u k = red (upw u k) ∧ pw (undo u) k = red (upw u (-(k : Int)))) ∧ red u = u ∧ red (undo u) = undo u ∧ rootL (u ++ [sC]) = (u ++ [sC], 1) ∧ cnt ⟨#[97]⟩ u ≠ 0 ∧ cnt ⟨#[99]⟩ u = 0 := by
  have h1 := h.chk
  unfold okU at h1
  simp only [Bool.and_eq_true, List.all_eq_true, List.mem_range, beq_iff_eq, bne_iff_ne] at h1
  obtain ⟨⟨⟨⟨⟨⟨h1, h2⟩, h3⟩, h7⟩, h4⟩, h5⟩, h6⟩ := h1
  refine ⟨fun k hk => ?_, fun k hk => ?_, by rw [red_ap]; exact h3, by rw [red_ap]; exact h7, by rw [rootL_eq]; exact h4, h5, h6⟩
  · rw [rootL_eq, rootL_eq]; exact h1 k hk
  · rw [upw_nat, upw_neg, red_ap, red_ap]; exact h2 k (by omega)
theorem Un.root {u : List Sp} (h : Un u) (k : Int) (hk : k.natAbs ≤ 3 * mostOf u) (h0 : k ≠ 0) : rootL (upw u k) = (if 0 < k then u else undo u, k.natAbs) := by
  have h1 := h.parts.1
  unfold upw
  obtain ⟨n, hn⟩ : ∃ n, k.natAbs = n + 1 := ⟨k.natAbs - 1, by omega⟩
  rw [hn]
  have := h1 n (by omega)
  split
  · exact this.1
  · exact this.2
theorem root_nil : rootL [] = ([], 0) := by decide +kernel
theorem Un.sh {u : List Sp} (h : Un u) : red u = u := h.parts.2.2.1
theorem Un.ca {u : List Sp} (h : Un u) : cnt ⟨#[97]⟩ u ≠ 0 := h.parts.2.2.2.2.2.1
theorem Un.cc {u : List Sp} (h : Un u) : cnt ⟨#[99]⟩ u = 0 := h.parts.2.2.2.2.2.2
theorem Un.inj {u : List Sp} (h : Un u) {j k : Int} (e : red (upw u j) = red (upw u k)) : j = k := upw_inj h.ca e
theorem upw_zero (u : List Sp) : upw u 0 = [] := rfl
theorem upw_one (u : List Sp) : upw u 1 = u := by simp [upw, repl]
theorem Un.noC {u : List Sp} (h : Un u) (k : Int) : ∀ p ∈ upw u k, p.1 ≠ ⟨#[99]⟩ := fun p hp => by
  have key : ∀ p ∈ u, p.1 ≠ ⟨#[99]⟩ := fun p hp => by
    rcases (h.letters p hp).1 with e | e <;> rw [e] <;> decide +kernel
  unfold upw at hp
  split at hp
  · exact key p (mem_repl hp)
  · obtain ⟨q, hq, rfl⟩ := mem_undo (mem_repl hp)
    exact key q hq
/-- c, a power, and c undone, shorten to no power -/
theorem Un.wrap {u : List Sp} (h : Un u) {k : Int} (h0 : k ≠ 0) : red ([sC] ++ upw u k ++ [inv sC]) ≠ red (upw u k) := by
  have e : red ([sC] ++ upw u k ++ [inv sC]) = red ([sC] ++ red (upw u k) ++ [inv sC]) := red_right _ (red_left _ (red_red _).symm)
  have hne : red (upw u k) ≠ [] := fun q => h0 (h.inj (k := 0) (by rw [q]; rfl))
  have hc : ∀ p ∈ red (upw u k), p.1 ≠ ⟨#[99]⟩ := fun p hp => h.noC k p (mem_red hp)
  have hs := shS_red (upw u k)
  rw [e]
  generalize red (upw u k) = q at hne hc hs ⊢
  have add : ∀ (l : List Sp), ShS l → (∀ p ∈ l, p.1 ≠ ⟨#[99]⟩) → ShS (l ++ [sC]) := by
    intro l hl
    induction hl with
    | nil => intro _; exact .one _
    | one s => intro hq; exact .cons s sC [] (fun e => hq s (by simp) (by rw [show s = inv sC by rw [e, inv_inv]]; rfl)) (.one _)
    | cons s t r h1 h2 ih => intro hq; exact .cons s t (r ++ [sC]) h1 (ih fun p hp => hq p (List.mem_cons_of_mem _ hp))
  have hs2 := add _ hs fun p hp => hc p (List.mem_reverse.mp hp)
  have hs3 : ShS ([sC] ++ q ++ [inv sC]).reverse := by
    simp only [List.reverse_append, List.reverse_cons, List.reverse_nil, List.nil_append]
    obtain ⟨t, r, hr⟩ : ∃ t r, q.reverse = t :: r := by
      cases hq : q.reverse with
      | nil => exact absurd (List.reverse_eq_nil_iff.mp hq) hne
      | cons t r => exact ⟨t, r, rfl⟩
    rw [hr] at hs2 ⊢
    refine .cons _ t _ (fun e => ?_) hs2
    rw [inv_inv] at e
    refine hc t (List.mem_reverse.mp (by rw [hr]; simp)) (by rw [e])
  rw [red_of_short hs3]
  intro q2
  have : sC ∈ q := by rw [← q2]; simp
  exact hc _ this rfl
/-! ### what is due -/
inductive Due where
  | all | line | no | at (k : Int)
  deriving DecidableEq
def Due.has : Due → Int → Prop
  | .all, _ => True
  | .line, _ => True
  | .no, _ => False
  | .at j, k => k = j
instance (d : Due) (k : Int) : Decidable (d.has k) := by cases d <;> unfold Due.has <;> infer_instance
def Due.met : Due → Due → Due
  | .all, d => d
  | d, .all => d
  | .line, d => d
  | d, .line => d
  | .no, _ => .no
  | _, .no => .no
  | .at j, .at k => if j = k then .at j else .no
def Due.lot (u : List Sp) : Due → Lot
  | .all => .all
  | .no => .none
  | .at k => .one (red (upw u k))
  | .line => .line [] u
def Due.in (u : List Sp) : Due → Prop
  | .at k => k.natAbs ≤ 3 * mostOf u
  | _ => True
def IsLot (u : List Sp) : Due → Lot → Prop
  | .all, l => l = .all
  | .no, l => l = .none
  | .at k, l => l = .one (red (upw u k))
  | .line, l => l = .line [] u ∨ l = .line [] (undo u)
theorem isLot_lot (u : List Sp) (d : Due) : IsLot u d (d.lot u) := by
  cases d <;> simp [IsLot, Due.lot]
section
variable {u : List Sp}
theorem Un.red_len (h : Un u) (k : Int) (hk : k.natAbs ≤ 3 * mostOf u) : (red (upw u k)).length ≤ 50 := by
  have h1 := K10.red_len (upw u k)
  rw [upw_len] at h1
  have := h.len
  have h2 : k.natAbs * u.length ≤ 3 * mostOf u * u.length := Nat.mul_le_mul_right _ hk
  omega
theorem someT_pow (h : Un u) {t : List Sp} (ht : t = u ∨ t = undo u) (k : Int) (hk : k.natAbs ≤ 3 * mostOf u) {x : List Sp} (hx : red x = red (upw u k)) : someT t x = true := by
  unfold someT
  rw [root_congr hx]
  by_cases h0 : k = 0
  · subst h0
    rw [upw_zero, root_nil]; rfl
  · rw [h.root k hk h0]
    simp only [Bool.or_eq_true, decide_eq_true_eq]
    refine .inr ?_
    rcases ht with rfl | rfl
    · by_cases c : 0 < k
      · exact .inl (by rw [if_pos c])
      · exact .inr (by rw [if_neg c])
    · by_cases c : 0 < k
      · exact .inr (by rw [if_pos c, undo_undo])
      · exact .inl (by rw [if_neg c])
theorem undo_nil : undo [] = [] := rfl
/-- a lot has the powers that are due -/
theorem hasL_pow (h : Un u) {d : Due} {l : Lot} (hl : IsLot u d l) (k : Int) (hk : k.natAbs ≤ 3 * mostOf u) {x : List Sp} (hx : red x = red (upw u k)) : hasL l x = decide (d.has k) := by
  cases d <;> simp only [IsLot] at hl
  · subst hl; rfl
  · rcases hl with rfl | rfl <;> simp only [hasL, Due.has, decide_true]
    · exact someT_pow h (.inl rfl) k hk (by rw [undo_nil, List.nil_append, red_red, hx])
    · exact someT_pow h (.inr rfl) k hk (by rw [undo_nil, List.nil_append, red_red, hx])
  · subst hl; rfl
  · subst hl
    simp only [hasL, Due.has, hx]
    congr 1
    exact propext ⟨fun e => h.inj e, fun e => by rw [e]⟩
abbrev oddR (u : List Sp) : List Sp := red (upw u 1) ++ [sC]
theorem Un.odd_eq (h : Un u) : oddR u = u ++ [sC] := by unfold oddR; rw [upw_one, h.sh]
theorem Un.odd_red (h : Un u) (x y : List Sp) : red (x ++ oddR u ++ y) = red (x ++ (upw u 1 ++ [sC]) ++ y) := red_right _ (red_left _ (red_right _ (red_red _)))
theorem cnt_sC : cnt ⟨#[99]⟩ [sC] = 1 := by decide +kernel
theorem cnt_sCa : cnt ⟨#[97]⟩ [sC] = 0 := by decide +kernel
theorem Un.odd_cnt (h : Un u) : cnt ⟨#[99]⟩ (oddR u) = 1 := by rw [h.odd_eq, cnt_app, h.cc, cnt_sC]; rfl
theorem Un.pow_cnt (h : Un u) (k : Int) : cnt ⟨#[99]⟩ (upw u k) = 0 := by rw [cnt_upw, h.cc]; simp
theorem hasL_odd (h : Un u) {d : Due} {l : Lot} (hl : IsLot u d l) : hasL l (oddR u) = decide (d = .all) := by
  have hroot : ∀ t, (t = u ∨ t = undo u) → someT t (red (undo [] ++ oddR u)) = false := by
    intro t ht
    rw [undo_nil, List.nil_append, h.odd_eq]
    unfold someT
    rw [root_red, h.parts.2.2.2.2.1]
    have hlen : ∀ t : List Sp, t.length = u.length → t ≠ u ++ [sC] := fun t e q => by
      have := congrArg List.length q
      rw [List.length_append, e] at this
      simp at this
    have h1 : t.length = u.length := by
      rcases ht with rfl | rfl
      · rfl
      · exact undo_len u
    rw [decide_eq_false (show ¬ (1 = 0) by decide), decide_eq_false (hlen t h1), decide_eq_false (hlen (undo t) (by rw [undo_len, h1]))]
    rfl
  cases d <;> simp only [IsLot] at hl
  · subst hl; rfl
  · rcases hl with rfl | rfl <;> simp only [hasL]
    · exact hroot u (.inl rfl)
    · exact hroot (undo u) (.inr rfl)
  · subst hl; rfl
  · subst hl
    simp only [hasL]
    rw [decide_eq_false, decide_eq_false (by simp)]
    intro e
    have := congrArg (cnt ⟨#[99]⟩) e
    rw [cnt_red, cnt_red, h.odd_cnt, h.pow_cnt] at this
    exact absurd this (by decide)
theorem isLot_ok (h : Un u) {d : Due} {l : Lot} (hl : IsLot u d l) (hd : d.in u) : l.ok ∧ l.fine := by
  have hu := h.len
  have ru : ∀ t, (t = u ∨ t = undo u) → (t.length ≤ 400 ∧ (∀ p ∈ t, good p) ∧ shortB t = true) ∧ (rootL t).2 = 1 := by
    intro t ht
    have e1 : rootL u = (u, 1) := by
      have := (h.parts.1 0 (by omega)).1
      rwa [repl_succ, repl_zero, List.append_nil] at this
    have e2 : rootL (undo u) = (undo u, 1) := by
      have := (h.parts.1 0 (by omega)).2
      rwa [repl_succ, repl_zero, List.append_nil] at this
    have e3 : red (undo u) = undo u := h.parts.2.2.2.1
    rcases ht with rfl | rfl
    · exact ⟨⟨by omega, h.good, by rw [← h.sh]; exact shortB_red _⟩, by rw [e1]⟩
    · exact ⟨⟨by rw [undo_len]; omega, good_undo h.good, by rw [← e3]; exact shortB_red _⟩, by rw [e2]⟩
  have nil : ([] : List Sp).length ≤ 400 ∧ (∀ p ∈ ([] : List Sp), good p) ∧ shortB [] = true := ⟨by decide, (fun p hp => by cases hp), rfl⟩
  cases d <;> simp only [IsLot] at hl
  · subst hl; exact ⟨trivial, trivial⟩
  · rcases hl with rfl | rfl
    · exact ⟨⟨by decide, (ru u (.inl rfl)).1.1⟩, nil, (ru u (.inl rfl)).1, (ru u (.inl rfl)).2⟩
    · exact ⟨⟨by decide, (ru _ (.inr rfl)).1.1⟩, nil, (ru _ (.inr rfl)).1, (ru _ (.inr rfl)).2⟩
  · subst hl; exact ⟨trivial, trivial⟩
  · subst hl
    have := h.red_len _ hd
    exact ⟨by simp only [Lot.ok]; omega, by omega, good_red (good_upw h.good _), shortB_red _⟩
theorem isLot_same (h : Un u) {d : Due} {l : Lot} (hl : IsLot u d l) : l.same (d.lot u) = true := by
  cases d <;> simp only [IsLot] at hl
  · subst hl; rfl
  · have e : hasL (.line [] u) [] = true := by
      simp only [hasL]
      exact someT_pow h (.inl rfl) 0 (by omega) rfl
    rcases hl with rfl | rfl <;> simp only [Due.lot, Lot.same, e, Bool.and_true, decide_true, Bool.true_or, Bool.or_true]
  · subst hl; rfl
  · subst hl
    simp only [Due.lot, Lot.same, decide_true]
theorem isLot_both (h : Un u) {d1 d2 : Due} {l1 l2 : Lot} (h1 : IsLot u d1 l1) (h2 : IsLot u d2 l2) (i1 : d1.in u) (i2 : d2.in u) : IsLot u (d1.met d2) (l1.both l2) ∧ l1.likeT l2 ∧ (d1.met d2).in u := by
  have hu := h.len
  have hu2 : (undo u).length = u.length := undo_len u
  have uu := undo_undo u
  have hn : ([] : List Sp).length = 0 := rfl
  have hln : hasL (.line [] u) [] = true ∧ hasL (.line [] (undo u)) [] = true := by
    constructor <;> simp only [hasL]
    · exact someT_pow h (.inl rfl) 0 (by omega) rfl
    · exact someT_pow h (.inr rfl) 0 (by omega) rfl
  cases d1 <;> cases d2 <;> simp only [IsLot] at h1 h2 <;> simp only [Due.met]
  all_goals try (subst h1; subst h2; exact ⟨by simp [IsLot, Lot.both], trivial, trivial⟩)
  all_goals try (subst h1; subst h2; exact ⟨by simp [IsLot, Lot.both], trivial, by assumption⟩)
  all_goals try (subst h1; rcases h2 with rfl | rfl <;> exact ⟨by simp [IsLot, Lot.both], trivial, trivial⟩)
  all_goals try (subst h2; rcases h1 with rfl | rfl <;> exact ⟨by simp [IsLot, Lot.both], trivial, trivial⟩)
  case line.line =>
    rcases h1 with rfl | rfl <;> rcases h2 with rfl | rfl <;> simp only [IsLot, Lot.both, Lot.likeT, hln.1, hln.2, if_true] <;> refine ⟨by simp, ⟨by simp [uu], by omega⟩, trivial⟩
  case line.at k =>
    subst h2
    have := hasL_pow h (d := .line) (l := l1) h1 k i2 (red_red (upw u k))
    rcases h1 with rfl | rfl <;> simp only [Lot.both, this, Due.has, decide_true, if_true] <;> exact ⟨rfl, trivial, i2⟩
  case at.line k =>
    subst h1
    have := hasL_pow h (d := .line) (l := l2) h2 k i1 (red_red (upw u k))
    rcases h2 with rfl | rfl <;> simp only [Lot.both, this, Due.has, decide_true, if_true] <;> exact ⟨rfl, trivial, i1⟩
  case at.at j k =>
    subst h1; subst h2
    have := hasL_pow h (d := .at k) (l := .one (red (upw u k))) rfl j i1 (red_red (upw u j))
    simp only [Lot.both, this, Due.has]
    by_cases c : j = k
    · subst c
      simp only [if_true, decide_true]
      exact ⟨rfl, trivial, i1⟩
    · rw [if_neg c, decide_eq_false c, if_neg Bool.false_ne_true]
      exact ⟨rfl, trivial, trivial⟩
end
end K10

set_option Elab.async false
set_option linter.all false
set_option maxRecDepth 100000
set_option maxHeartbeats 2000000
namespace K10
open PySem Dn
/-! ### least turns keep the sums of ways -/
theorem foldl_mem (r : List (List Sp)) : ∀ x, r.foldl (fun a y => if ltR y a then y else a) x = x ∨ r.foldl (fun a y => if ltR y a then y else a) x ∈ r := by
  induction r with
  | nil => intro x; exact .inl rfl
  | cons y r ih =>
    intro x
    rw [List.foldl_cons]
    rcases ih (if ltR y x then y else x) with h | h
    · rw [h]
      split
      · exact .inr List.mem_cons_self
      · exact .inl rfl
    · exact .inr (List.mem_cons_of_mem _ h)
theorem leastTurn_mem {g : List Sp} (h : g ≠ []) : leastTurn g ∈ turnsL g := by
  unfold leastTurn leastR
  cases e : turnsL g with
  | nil =>
    unfold turnsL at e
    rw [List.map_eq_nil_iff, List.range_eq_nil] at e
    exact absurd (List.length_eq_zero_iff.mp e) h
  | cons x r =>
    simp only []
    rcases foldl_mem r x with h | h
    · rw [h]; exact List.mem_cons_self
    · exact List.mem_cons_of_mem _ h
theorem cnt_leastTurn (c : Str) (g : List Sp) : cnt c (leastTurn g) = cnt c g := by
  by_cases h : g = []
  · subst h; rfl
  · have := leastTurn_mem h
    unfold turnsL at this
    rw [List.mem_map] at this
    obtain ⟨k, _, e⟩ := this
    rw [← e, cnt_app, Int.add_comm, ← cnt_app, List.take_append_drop]
theorem cnt_ring (c : Str) (r : List Sp) : cnt c (leastTurn (partedL r).2) = cnt c r := by
  rw [cnt_leastTurn, ← cnt_red c r, ← parted_split r, cnt_app, cnt_app, cnt_undo]
  omega
/-! ### what is told: a row that does what the unit so many times does -/
structure Tld (u : List Sp) (k : Int) (r : List Sp) : Prop where
  ok : okR r
  eq : red r = red (upw u k)
structure Good (u : List Sp) (e : Eqn) (d : Due) : Prop where
  ok : e.ok
  clear : e.clear
  lot : IsLot u d (single e)
  inn : d.in u
  sol : ∀ k : Int, k.natAbs ≤ 3 * mostOf u → (red (sides e (red (upw u k))).1 = red (sides e (red (upw u k))).2 ↔ d.has k)
  odd : red (sides e (oddR u)).1 = red (sides e (oddR u)).2 ↔ d = .all
section
variable {u : List Sp}
theorem Tld.neg {k : Int} {r : List Sp} (h : Tld u k r) : red (undo r) = red (upw u (-k)) := by
  rw [red_undo h.eq, undo_upw]
theorem Tld.cc (hu : Un u) {k : Int} {r : List Sp} (h : Tld u k r) : cnt ⟨#[99]⟩ r = 0 := by
  rw [cnt_eq _ h.eq, hu.pow_cnt]
theorem red_pp {x y : List Sp} {j k : Int} (hx : red x = red (upw u j)) (hy : red y = red (upw u k)) : red (x ++ y) = red (upw u (j + k)) := by
  rw [red_app hx hy, upw_add]
theorem good_ahead (hu : Un u) {U V : Int} {a b : List Sp} (ha : Tld u U a) (hb : Tld u V b) (hi : (V - U).natAbs ≤ 3 * mostOf u) : Good u (.ahead a b) (.at (V - U)) where
  ok := ⟨ha.ok, hb.ok⟩
  clear := trivial
  lot := by
    simp only [single, IsLot]
    rw [red_pp hb.eq ha.neg]
    rfl
  inn := hi
  sol := fun k hk => by
    simp only [sides, Due.has]
    rw [red_pp (red_red _) ha.eq, hb.eq]
    exact ⟨fun e => by have := hu.inj e; omega, fun e => by rw [e]; congr 2; omega⟩
  odd := by
    simp only [sides, reduceCtorEq, iff_false]
    intro e
    have := cnt_eq ⟨#[99]⟩ e
    rw [cnt_app, hu.odd_cnt, ha.cc hu, hb.cc hu] at this
    omega
theorem good_behind (hu : Un u) {U V : Int} {a b : List Sp} (ha : Tld u U a) (hb : Tld u V b) (hi : (V - U).natAbs ≤ 3 * mostOf u) : Good u (.behind a b) (.at (V - U)) where
  ok := ⟨ha.ok, hb.ok⟩
  clear := trivial
  lot := by
    simp only [single, IsLot]
    rw [red_pp ha.neg hb.eq]
    congr 3; omega
  inn := hi
  sol := fun k hk => by
    simp only [sides, Due.has]
    rw [red_pp ha.eq (red_red _), hb.eq]
    exact ⟨fun e => by have := hu.inj e; omega, fun e => by rw [e]; congr 2; omega⟩
  odd := by
    simp only [sides, reduceCtorEq, iff_false]
    intro e
    have := cnt_eq ⟨#[99]⟩ e
    rw [cnt_app, hu.odd_cnt, ha.cc hu, hb.cc hu] at this
    omega
theorem good_between (hu : Un u) {U V W : Int} {a b c : List Sp} (ha : Tld u U a) (hb : Tld u W b) (hc : Tld u V c) (hi : (V - U - W).natAbs ≤ 3 * mostOf u) : Good u (.between a b c) (.at (V - U - W)) where
  ok := ⟨ha.ok, hb.ok, hc.ok⟩
  clear := trivial
  lot := by
    simp only [single, IsLot]
    rw [List.append_nil, red_pp ha.neg (red_pp hc.eq hb.neg)]
    congr 3; omega
  inn := hi
  sol := fun k hk => by
    simp only [sides, Due.has]
    rw [red_pp (red_pp ha.eq (red_red _)) hb.eq, hc.eq]
    exact ⟨fun e => by have := hu.inj e; omega, fun e => by rw [e]; congr 2; omega⟩
  odd := by
    simp only [sides, reduceCtorEq, iff_false]
    intro e
    have := cnt_eq ⟨#[99]⟩ e
    rw [cnt_app, cnt_app, hu.odd_cnt, ha.cc hu, hb.cc hu, hc.cc hu] at this
    omega
theorem root_pow (hu : Un u) {k : Int} {r : List Sp} (hk : k.natAbs ≤ 3 * mostOf u) (h : red r = red (upw u k)) : rootL r = (if k = 0 then [] else if 0 < k then u else undo u, k.natAbs) := by
  rw [root_congr h]
  by_cases h0 : k = 0
  · subst h0; rw [upw_zero, root_nil]; rfl
  · rw [hu.root k hk h0, if_neg h0]
theorem upw_undo (u : List Sp) (k : Int) : upw (undo u) k = upw u (-k) := by
  rcases Int.eq_nat_or_neg k with ⟨n, rfl | rfl⟩
  · rw [upw_nat, upw_neg]
  · rw [upw_neg, Int.neg_neg, upw_nat, undo_undo]
theorem natAbs_fmod_fdiv (w n : Int) (hn : 1 ≤ n) : (((w.natAbs : Int).fmod n ≠ 0) ↔ w.fmod n ≠ 0) ∧ (w.fmod n = 0 → 0 ≤ w → w.fdiv n = (w.natAbs : Int).fdiv n) ∧ (w.fmod n = 0 → w < 0 → w.fdiv n = -(w.natAbs : Int).fdiv n) := by
  have e1 : ∀ x : Int, x.fmod n = x % n := fun x => Int.fmod_eq_emod_of_nonneg x (by omega)
  have e2 : ∀ x : Int, x.fdiv n = x / n := fun x => Int.fdiv_eq_ediv_of_nonneg x (by omega)
  rw [e1, e1, e2, e2]
  rcases Int.natAbs_eq w with h | h
  · refine ⟨by rw [← h], fun _ _ => by rw [← h], fun _ h2 => by omega⟩
  · have e3 : (w.natAbs : Int) = -w := by omega
    rw [e3]
    refine ⟨?_, fun _ h2 => ?_, fun h1 _ => ?_⟩
    · rw [Ne, Ne, ← Int.dvd_iff_emod_eq_zero, ← Int.dvd_iff_emod_eq_zero, Int.dvd_neg]
    · have : w = 0 := by omega
      subst this; rfl
    · rw [Int.neg_ediv_of_dvd (Int.dvd_of_emod_eq_zero h1), Int.neg_neg]
theorem good_power (hu : Un u) {n w : Int} {r : List Sp} (hn : 1 ≤ n ∧ n ≤ 60) (hr : Tld u w r) (hi : w.natAbs ≤ 3 * mostOf u) : Good u (.power n r) (if w.fmod n = 0 then .at (w.fdiv n) else .no) := by
  have hq := natAbs_fmod_fdiv w n hn.1
  have e1 : w.fmod n = w % n := Int.fmod_eq_emod_of_nonneg w (by omega)
  have e2 : w.fdiv n = w / n := Int.fdiv_eq_ediv_of_nonneg w (by omega)
  have hle : (w.natAbs : Int).fdiv n = ((w.natAbs / n.toNat : Nat) : Int) := by
    rw [Int.fdiv_eq_ediv_of_nonneg _ (by omega)]
    obtain ⟨m, rfl⟩ : ∃ m : Nat, n = m := ⟨n.toNat, by omega⟩
    rw [Int.toNat_natCast]; rfl
  have hle2 : w.natAbs / n.toNat ≤ w.natAbs := Nat.div_le_self _ _
  have hin : w.fmod n = 0 → (w.fdiv n).natAbs ≤ 3 * mostOf u := fun h0 => by
    rcases Int.lt_or_le w 0 with h | h
    · rw [hq.2.2 h0 h, hle]
      generalize w.natAbs / n.toNat = q at hle2 ⊢
      omega
    · rw [hq.2.1 h0 h, hle]
      generalize w.natAbs / n.toNat = q at hle2 ⊢
      omega
  constructor
  · exact ⟨hn, hr.ok⟩
  · trivial
  · simp only [single, powSol]
    rw [root_pow hu hi hr.eq]
    simp only []
    by_cases h0 : w.fmod n = 0
    · rw [if_pos h0, if_neg (fun c => hq.1.mp c h0)]
      simp only [IsLot]
      congr 1
      by_cases hz : w = 0
      · subst hz
        rw [if_pos rfl]
        have : (((0 : Int).natAbs : Nat) : Int).fdiv n = 0 := by simp
        rw [this, hq.2.1 h0 (by omega), this]
        rfl
      · rw [if_neg hz]
        rcases Int.lt_or_le w 0 with h | h
        · rw [if_neg (by omega), hq.2.2 h0 h, hle]
          exact (hu.parts.2.1 _ (by omega)).2
        · rw [if_pos (by omega), hq.2.1 h0 h, hle]
          exact (hu.parts.2.1 _ (by omega)).1
    · rw [if_neg h0, if_pos (hq.1.mpr h0)]
      rfl
  · by_cases h0 : w.fmod n = 0
    · rw [if_pos h0]; exact hin h0
    · rw [if_neg h0]; trivial
  · intro k hk
    simp only [sides]
    rw [pw_upw, upw_red, upw_upw, hr.eq]
    have : (red (upw u (k * n)) = red (upw u w)) ↔ k * n = w := ⟨fun e => hu.inj e, fun e => by rw [e]⟩
    rw [this]
    by_cases h0 : w.fmod n = 0
    · rw [if_pos h0, e2]
      simp only [Due.has]
      rw [e1] at h0
      constructor
      · rintro rfl
        rw [Int.mul_ediv_cancel _ (by omega)]
      · rintro rfl
        exact Int.ediv_mul_cancel (Int.dvd_of_emod_eq_zero h0)
    · rw [if_neg h0]
      simp only [Due.has, iff_false]
      rintro rfl
      rw [e1, Int.mul_emod_left] at h0
      exact h0 rfl
  · simp only [sides]
    have : (if w.fmod n = 0 then Due.at (w.fdiv n) else .no) ≠ .all := by split <;> simp
    simp only [this, iff_false]
    intro e
    have h1 := cnt_eq ⟨#[99]⟩ e
    rw [hr.cc hu] at h1
    have h2 := cnt_eq ⟨#[99]⟩ (pw_upw (oddR u) n)
    rw [h1, cnt_upw, hu.odd_cnt] at h2
    omega
/-- the stalk of a line goes -/
theorem line_nil (x : List Sp) : red (red (x ++ undo []) ++ undo x) = [] := by
  rw [undo_nil, List.append_nil, red_right (undo x) (red_red x), red_undo_self]
theorem good_mov (hu : Un u) {U V : Int} {a b : List Sp} (ha : Tld u U a) (hb : Tld u V b) (hi : U.natAbs ≤ 3 * mostOf u) : IsLot u (if U ≠ V then .no else if U = 0 then .all else .line) (movSol a b) := by
  unfold movSol
  rw [line_nil, root_pow hu hi ha.eq]
  simp only []
  by_cases h : U = V
  · subst h
    rw [if_neg (show ¬ (U ≠ U) by simp), if_pos (show red a = red b by rw [ha.eq, hb.eq])]
    by_cases h0 : U = 0
    · subst h0
      rfl
    · rw [if_neg h0, if_neg (show ¬ (U.natAbs = 0) by omega), if_neg h0]
      by_cases c : 0 < U
      · rw [if_pos c]; exact .inl rfl
      · rw [if_neg c]; exact .inr rfl
  · rw [if_pos h, if_neg]
    · rfl
    · rw [ha.eq, hb.eq]
      exact fun e => h (hu.inj e)
theorem due_in (c d : Prop) [Decidable c] [Decidable d] (u : List Sp) : (if c then Due.no else if d then .all else .line).in u := by
  by_cases c <;> by_cases d <;> simp [*, Due.in]
theorem good_moves (hu : Un u) {U V : Int} {a b : List Sp} (ha : Tld u U a) (hb : Tld u V b) (hi : U.natAbs ≤ 3 * mostOf u) : Good u (.moves a b) (if U ≠ V then .no else if U = 0 then .all else .line) := by
  constructor
  · exact ⟨ha.ok, hb.ok⟩
  · simp only [Eqn.clear]
    by_cases h : U = V
    · subst h; exact .inl (by rw [ha.eq, hb.eq])
    · refine .inr fun e => h ?_
      have := congrArg (cnt ⟨#[97]⟩) e
      rw [cnt_ring, cnt_ring, cnt_eq _ ha.eq, cnt_eq _ hb.eq, cnt_upw, cnt_upw] at this
      exact Int.eq_of_mul_eq_mul_right hu.ca this
  · exact good_mov hu ha hb hi
  · exact due_in _ _ u
  · intro k hk
    simp only [sides]
    have e1 : red (undo (red (upw u k))) = red (upw u (-k)) := by rw [red_undo (red_red _), undo_upw]
    rw [red_pp (red_pp (red_red _) ha.eq) e1, hb.eq]
    have e2 : k + U + -k = U := by omega
    rw [e2]
    by_cases h : U = V
    · subst h
      by_cases h0 : U = 0 <;> simp [h0, Due.has]
    · rw [if_pos h]
      simp only [Due.has, iff_false]
      exact fun e => h (hu.inj e)
  · simp only [sides]
    by_cases h : U = V
    · subst h
      rw [if_neg (by simp)]
      by_cases h0 : U = 0
      · subst h0
        rw [if_pos rfl]
        simp only [iff_true]
        have := red_mid (oddR u) (undo (oddR u)) (y := a) (by rw [ha.eq]; rfl)
        rw [this, red_undo_self, hb.eq]
        rfl
      · rw [if_neg h0]
        simp only [reduceCtorEq, iff_false]
        intro e
        rw [hb.eq] at e
        rw [hu.odd_eq, undo_app] at e
        have e1 : red (u ++ ([sC] ++ upw u U ++ [inv sC]) ++ undo u) = red (upw u U) := by
          rw [← e]
          have : undo [sC] = [inv sC] := rfl
          rw [this]
          have q : red (u ++ [sC] ++ a ++ ([inv sC] ++ undo u)) = red (u ++ [sC] ++ upw u U ++ ([inv sC] ++ undo u)) := red_right _ (red_left _ ha.eq)
          rw [q]
          simp only [List.append_assoc]
        refine hu.wrap h0 ?_
        have e2 := red_app (red_app (x := undo u) rfl e1) (y := u) rfl
        have e3 : red (undo u ++ (u ++ ([sC] ++ upw u U ++ [inv sC]) ++ undo u) ++ u) = red ([sC] ++ upw u U ++ [inv sC]) := by
          have s1 := red_right (([sC] ++ upw u U ++ [inv sC]) ++ (undo u ++ u)) (x := undo u ++ u) (x' := []) (by rw [red_undo_self', red_nil])
          have s2 := red_left ([sC] ++ upw u U ++ [inv sC]) (y := undo u ++ u) (y' := []) (by rw [red_undo_self', red_nil])
          rw [List.nil_append, s2, List.append_nil] at s1
          rw [← s1]
          simp only [List.append_assoc]
        have e4 : red (undo u ++ upw u U ++ u) = red (upw u U) := by
          have k1 : red (undo u) = red (upw u (-1)) := by rw [← undo_upw, upw_one]
          have k2 : red u = red (upw u 1) := by rw [upw_one]
          rw [red_pp (red_pp k1 rfl) k2]
          congr 2; omega
        rw [e3, e4] at e2
        exact e2
    · rw [if_pos h]
      simp only [reduceCtorEq, iff_false]
      intro e
      have := cnt_eq ⟨#[97]⟩ e
      rw [cnt_app, cnt_app, cnt_undo, cnt_eq _ ha.eq, cnt_eq _ hb.eq, cnt_upw, cnt_upw] at this
      exact h (Int.eq_of_mul_eq_mul_right hu.ca (by omega))
theorem good_goes (hu : Un u) {U : Int} {a : List Sp} (ha : Tld u U a) (hi : U.natAbs ≤ 3 * mostOf u) : Good u (.goes a) (if U = 0 then .all else .line) := by
  have hm := good_mov hu ha ha hi
  rw [if_neg (by simp)] at hm
  constructor
  · exact ha.ok
  · trivial
  · exact hm
  · by_cases h0 : U = 0 <;> simp [h0, Due.in]
  · intro k hk
    simp only [sides]
    rw [red_pp (red_red _) ha.eq, red_pp ha.eq (red_red _)]
    have : k + U = U + k := by omega
    rw [this]
    by_cases h0 : U = 0 <;> simp [h0, Due.has]
  · simp only [sides]
    by_cases h0 : U = 0
    · subst h0
      rw [if_pos rfl]
      simp only [iff_true]
      have e0 : red a = [] := by rw [ha.eq]; rfl
      have e1 := red_left (oddR u) (y := a) (y' := []) (by rw [e0, red_nil])
      have e2 := red_right (oddR u) (x := a) (x' := []) (by rw [e0, red_nil])
      rw [e1, e2]
      simp
    · rw [if_neg h0]
      simp only [reduceCtorEq, iff_false]
      intro e
      rw [hu.odd_eq, red_left (u ++ [sC]) ha.eq, red_right (u ++ [sC]) ha.eq] at e
      refine hu.wrap h0 ?_
      have c1 : red (upw u U ++ u) = red (u ++ upw u U) := by
        have k2 : red u = red (upw u 1) := by rw [upw_one]
        rw [red_pp rfl k2, red_pp k2 rfl]
        congr 2; omega
      have e1 : red (u ++ ([sC] ++ upw u U)) = red (u ++ (upw u U ++ [sC])) := by
        rw [← List.append_assoc, e, ← List.append_assoc, red_right [sC] c1, List.append_assoc]
      have e2 := red_right [inv sC] (red_cancel e1)
      have e3 : red (upw u U ++ [sC] ++ [inv sC]) = red (upw u U) := by
        have := red_left (upw u U) (y := [sC] ++ [inv sC]) (y' := []) (by rw [show [inv sC] = undo [sC] from rfl, red_undo_self, red_nil])
        rwa [← List.append_assoc, List.append_nil] at this
      rw [e3] at e2
      exact e2
end
end K10

set_option Elab.async false
set_option linter.all false
set_option maxRecDepth 100000
set_option maxHeartbeats 2000000
namespace K10
open PySem Dn
open L2 (atI ixN)
local macro_rules | `(tactic| walk_at "dn") => `(tactic| simp only [denSs, denSt, denE, denEs, denT, denTB, denB, denO, denI, denS, dSeqS, dNext, dRet, dRetN, dDrop, dIfS, dAsg, dTup, dLst, dCons, dNil, dOp, dVar, dC, Cn.d, dBin, dCmp, dF, dTB, dAnd, dOr, dNot, dAndV, dOrV, dNotV, dIf, dChain, dSl, dPart, dNoPart, dMt, dSeq, dRev, dLc, dLc2, dFor, dPar, dSetS, dAug, dAugS, dAsgL, dNeg, dIsi, Bi.den, Mt.den, startE, bindP_nm, bindP_tp, bindPs_nil, bindPs_cons,
  List.map_cons, List.map_nil, List.length_cons, List.length_nil, Nat.reduceAdd, Nat.reduceSub, Nat.zero_add, List.replicate, List.replicate_zero, List.cons_append, List.nil_append, List.append_nil, List.getElem?_cons_zero, List.getElem?_cons_succ, List.set_cons_zero, List.set_cons_succ, Dn.wp, if_true, if_false, Bool.false_eq_true, ite_true, ite_false])
local macro_rules | `(tactic| walk_at "st") => `(tactic| simp only [denSt, denE, denEs, denT, denTB, denB, denO, denI, denS, dSeqS, dNext, dRet, dRetN, dDrop, dIfS, dAsg, dTup, dLst, dCons, dNil, dOp, dVar, dC, Cn.d, dBin, dCmp, dF, dTB, dAnd, dOr, dNot, dAndV, dOrV, dNotV, dIf, dChain, dSl, dPart, dNoPart, dMt, dSeq, dRev, dLc, dLc2, dFor, dPar, dSetS, dAug, dAugS, dAsgL, dNeg, dIsi, Bi.den, Mt.den, startE, bindP_nm, bindP_tp, bindPs_nil, bindPs_cons,
  List.map_cons, List.map_nil, List.length_cons, List.length_nil, Nat.reduceAdd, Nat.reduceSub, Nat.zero_add, List.replicate, List.replicate_zero, List.cons_append, List.nil_append, List.append_nil, List.getElem?_cons_zero, List.getElem?_cons_succ, List.set_cons_zero, List.set_cons_succ, Dn.wp, if_true, if_false, Bool.false_eq_true, ite_true, ite_false])
theorem mkSp {d : D} {s : Str} (hs : s ∈ (["a", "b", "c"] : List Str)) {e : D} (he : e ∈ [D.int 1, .int 1, .int (-1)]) (hd : d = .tup [.str s, e]) : ∃ p : Sp, d = spD p ∧ good p := by
  simp only [List.mem_cons, List.not_mem_nil, or_false] at he
  rcases he with rfl | rfl | rfl
  · exact ⟨(s, 1), hd, hs, .inl rfl⟩
  · exact ⟨(s, 1), hd, hs, .inl rfl⟩
  · exact ⟨(s, -1), hd, hs, .inr rfl⟩
theorem mem_cmds {cmds : List Str} (hcm : ∀ x ∈ cmds, x ∈ (["a", "b", "c"] : List Str)) {d : D} (h : d ∈ cmds.map D.str) : ∃ s : Str, d = .str s ∧ s ∈ (["a", "b", "c"] : List Str) := by
  rw [List.mem_map] at h
  obtain ⟨s, h1, h2⟩ := h
  exact ⟨s, h2.symm, hcm s h1⟩
theorem all_sp : ∀ ds : List D, (∀ d ∈ ds, ∃ p : Sp, d = spD p ∧ good p) → ∃ r : List Sp, ds = r.map spD ∧ ∀ p ∈ r, good p
  | [], _ => ⟨[], rfl, fun p hp => by cases hp⟩
  | d :: ds, h => by
    obtain ⟨p, h1, h2⟩ := h d List.mem_cons_self
    obtain ⟨r, h3, h4⟩ := all_sp ds fun y hy => h y (List.mem_cons_of_mem _ hy)
    refine ⟨p :: r, by rw [h1, h3, List.map_cons], fun y hy => ?_⟩
    rcases List.mem_cons.mp hy with rfl | hy
    · exact h2
    · exact h4 y hy
theorem sp_lrow (n : Nat) (b q c : Addr) (cells : List Int) (cmds : List Str) (hcm : ∀ x ∈ cmds, x ∈ (["a", "b", "c"] : List Str)) (hcl : 1 ≤ cmds.length ∧ cmds.length < 1000) (M : MH) (hB : Bag M b q cells) (hc : M c = some (.lst (cmds.map D.str))) (hcb : c ≠ b) (most : Int) (hm : 0 ≤ most ∧ most ≤ 100) (Q : D → MH → Prop)
    (h : ∀ r M', (r.length : Int) ≤ most + 2 → (∀ p ∈ r, good p) → ExtB b M M' → Bag M' b q cells → Q (rowD r) M') : F (n + 3) 47 [.ref b, .ref c, .int most] M Q := by
  rw [F_succ (r := f__law_row) rfl]
  refine ⟨rfl, ?_⟩
  simp only [f__law_row, i__law_row]
  have hcl' : 1 ≤ (cmds.map D.str).length ∧ (cmds.map D.str).length < 1000 := by simpa using hcl
  -- a drawn step
  have step : ∀ (ws : List D) (k : Nat) (hws : 1 ≤ ws.length ∧ ws.length < 1000 ∧ k ≤ 16777216) (M1 : MH) (hB1 : Bag M1 b q cells) (hc1 : M1 c = some (.lst (cmds.map D.str))) (Q1 : D → D → MH → Prop), (∀ s w M2, s ∈ (["a", "b", "c"] : List Str) → w ∈ ws → ExtB b M1 M2 → Bag M2 b q cells → Q1 (.str s) w M2) →
      F (n + 2) 42 [.ref b, .ref c] M1 fun d M2 => k ≤ LN ∧ ∀ p, M2 p = none → F (n + 2) 42 [.ref b, .ref p] (up M2 p (.lst ws)) fun e M3 => Q1 d e M3 := by
    intro ws k hws M1 hB1 hc1 Q1 kk
    refine sp_some_list n b q c cells _ hcl' M1 hB1 hc1 hcb _ fun d M2 hd x2 hB2 => ?_
    obtain ⟨s, rfl, hs⟩ := mem_cmds hcm hd
    refine ⟨hws.2.2, fun p hp => ?_⟩
    have hpb : p ≠ b := by
      rintro rfl
      obtain ⟨_, ⟨_, _, _, _, _, _, _, hb⟩, _⟩ := hB2
      rw [hp] at hb; cases hb
    refine sp_some_list n b q p cells ws ⟨hws.1, hws.2.1⟩ _ (hB2.ext (.up hp)) up_same hpb _ fun w M3 hw x3 hB3 => ?_
    exact kk s w M3 hs hw (x2.trans ((Ext.up hp).b.trans x3)) hB3
  rw [denSs_cons]
  walk_at "st"
  unfold dRng1
  walk_at "st"
  rw [dAdd_ii]
  refine sp_take (n + 1) b q cells (most + 1) (by omega) M hB _ fun r M1 r0 r1 x1 hB1 => ?_
  simp only []
  refine ⟨by omega, ?_⟩
  have hc1 := x1 c _ hcb hc
  obtain ⟨k, rfl⟩ : ∃ k : Nat, r = k := ⟨r.toNat, by omega⟩
  rw [Int.toNat_natCast]
  have hrl : (rgD 0 1 k).length = k := by simp [rgD]
  refine lc_inv (fun D' M2 => ExtB b M1 M2 ∧ Bag M2 b q cells ∧ D' ≠ b) (fun y => ∃ p : Sp, y = spD p ∧ good p) (rgD 0 1 k) (by rw [hrl]; show _ ≤ 16777216; omega) (fun D' M2 ds hD' ii => ?_) (fun D' hD' => ?_) (fun d hd => ?_) (fun D' M2 ds hD' ii e hl hp => ?_)
  · obtain ⟨i1, i2, i3⟩ := ii
    have hq : q ≠ D' := by
      obtain ⟨_, ⟨_, _, _, _, _, _, _, _⟩, hcq, _⟩ := hB1
      exact ne_new hcq hD'
    obtain ⟨e1, ⟨b0, b1, b2, e2, e3, e4, e5, e6⟩, e7, e8, e9⟩ := i2
    refine ⟨fun a o ha h => ?_, ⟨e1, ⟨b0, b1, b2, e2, e3, e4, e5, by rw [up_ne i3.symm]; exact e6⟩, by rw [up_ne hq]; exact e7, e8, e9⟩, i3⟩
    rw [up_ne (ne_new h hD')]
    exact i1 a o ha h
  · have : D' ≠ b := by
      rintro rfl
      obtain ⟨_, ⟨_, _, _, _, _, _, _, hb⟩, _⟩ := hB1
      rw [hD'] at hb; cases hb
    exact ⟨(Ext.up hD').b, hB1.ext (.up hD'), this⟩
  · refine ⟨_, bindP_nm _ _ _, fun D' M2 ds Q2 hD' ii e kk => ?_⟩
    obtain ⟨i1, i2, i3⟩ := ii
    walk_at "st"
    refine step [.int 1, .int 1, .int (-1)] 3 (by simp) M2 i2 (i1 c _ hcb hc1) _ fun s w M3 hs hw x3 hB3 => ⟨ln2, ?_⟩
    obtain ⟨p, hp1, hp2⟩ := mkSp hs hw rfl
    exact kk _ M3 ⟨p, hp1, hp2⟩ ⟨i1.trans x3, hB3, i3⟩ (x3 _ _ i3 e)
  · obtain ⟨x2, hB2, hDb⟩ := ii
    obtain ⟨row, rfl, hg⟩ := all_sp ds hp
    rw [List.length_map, hrl] at hl
    rw [denSs_cons]
    walk_at "st"
    refine sp_take (n + 1) b q cells 3 (by omega) M2 hB2 _ fun t M3 t0 t1 x3 hB3 => ?_
    rw [dEq_ii]
    simp only []
    have e3 := x3 _ _ hDb e
    have hc3 := x3 c _ hcb (x2 c _ hcb hc1)
    by_cases ct : t = 0
    · simp only [decide_eq_true ct, if_true]
      rw [denSs_cons]
      walk_at "st"
      rw [fLen_l e3, dAdd_ii]
      simp only [List.length_map]
      refine sp_take (n + 1) b q cells ((row.length : Int) + 1) (by omega) M3 hB3 _ fun a M4 a0 a1 x4 hB4 => ?_
      refine step [.int 1, .int (-1)] 2 (by simp) M4 hB4 (x4 c _ hcb hc3) _ fun s w M5 hs hw x5 hB5 => ⟨ln2, ?_⟩
      obtain ⟨p, hp1, hp2⟩ := mkSp hs (e := w) (by simp at hw ⊢; rcases hw with h | h <;> simp [h]) rfl
      rw [hp1]
      have e5 := x5 _ _ hDb (x4 _ _ hDb e3)
      refine ⟨trivial, ?_⟩
      simp only [List.zip_cons_cons, List.zip_nil_left, List.foldl_cons, List.foldl_nil, List.set_cons_zero, List.set_cons_succ]
      rw [denSs_cons]
      walk_at "st"
      simp only [rdL_lst e5]
      obtain ⟨j, rfl⟩ : ∃ j : Nat, a = j := ⟨a.toNat, by omega⟩
      intro r1 hr1
      have f1 := rdL_lst e5
      refine sp_lcontrary (n + 1) p _ _ fun M6 x6 => ?_
      refine ⟨ln2, fun p2 hp2' => ?_⟩
      have u1 := x6 r1 _ up_same
      have n12 : r1 ≠ p2 := ne_new u1 hp2'
      rw [dAdd_rr (by rw [up_ne n12]; exact u1) up_same]
      refine ⟨?_, fun r3 hr3 => ?_⟩
      · simp only [List.length_cons, List.length_nil]
        have : (cut (row.map spD) none (some (j : Int))).length ≤ row.length := by
          unfold cut
          rw [List.length_take, List.length_drop, List.length_map]; omega
        show _ ≤ 16777216
        omega
      have e6 : (up (up M6 p2 (.lst [spD p, spD (inv p)])) r3 (.lst (cut (row.map spD) none (some (j : Int)) ++ [spD p, spD (inv p)]))) D' = some (.lst (row.map spD)) := by
        have g1 := (Ext.up (o := .lst (cut (row.map spD) none (some (j : Int)))) hr1) D' _ e5
        have g2 := x6 D' _ g1
        have g3 := (Ext.up (o := .lst [spD p, spD (inv p)]) hp2') D' _ g2
        exact (Ext.up hr3) D' _ g3
      simp only [rdL_lst e6]
      intro r4 hr4
      have n34 : r3 ≠ r4 := by
        rintro rfl
        rw [up_same] at hr4; cases hr4
      rw [dAdd_rr (by rw [up_ne n34]; exact up_same) up_same]
      have hcat : cut (row.map spD) none (some (j : Int)) ++ [spD p, spD (inv p)] ++ cut (row.map spD) (some (j : Int)) none = (row.take j ++ [p, inv p] ++ row.drop j).map spD := by
        rw [cut_map, cut_map, cutA_to, cutA_from]
        simp
      have hlen : (row.take j ++ [p, inv p] ++ row.drop j).length = row.length + 2 := by
        simp only [List.length_append, List.length_take, List.length_drop, List.length_cons, List.length_nil]
        omega
      refine ⟨?_, fun r5 hr5 => ?_⟩
      · rw [← List.length_append, hcat, List.length_map, hlen]
        show _ ≤ 16777216
        omega
      rw [denSs_end, denSs_cons]
      walk_at "st"
      rw [fTuple_l up_same, hcat]
      have X5 : Ext M5 _ := (((((Ext.up (o := .lst (cut (row.map spD) none (some (j : Int)))) hr1).trans x6).trans (.up (o := .lst [spD p, spD (inv p)]) hp2')).trans (.up (o := .lst (cut (row.map spD) none (some (j : Int)) ++ [spD p, spD (inv p)])) hr3)).trans (.up (o := .lst (cut (row.map spD) (some (j : Int)) none)) hr4)).trans (.up (o := .lst (cut (row.map spD) none (some (j : Int)) ++ [spD p, spD (inv p)] ++ cut (row.map spD) (some (j : Int)) none)) hr5)
      rw [hcat] at X5
      refine h _ _ ?_ ?_ (x1.trans (x2.trans (x3.trans (x4.trans (x5.trans X5.b))))) (hB5.ext X5)
      · rw [hlen]; omega
      · intro z hz
        simp only [List.mem_append, List.mem_cons, List.not_mem_nil, or_false] at hz
        rcases hz with (hz | rfl | rfl) | hz
        · exact hg z (List.mem_of_mem_take hz)
        · exact hp2
        · exact good_inv hp2
        · exact hg z (List.mem_of_mem_drop hz)
    · simp only [decide_eq_false ct, Bool.false_eq_true, if_false]
      rw [denSs_end, denSs_cons]
      walk_at "st"
      rw [fTuple_l e3]
      exact h row M3 (by omega) hg (x1.trans (x2.trans x3)) hB3
end K10

set_option Elab.async false
set_option linter.all false
set_option maxRecDepth 100000
set_option maxHeartbeats 2000000
namespace K10
open PySem Dn
open L2 (atI ixN)
local macro_rules | `(tactic| walk_at "dn") => `(tactic| simp only [denSs, denSt, denE, denEs, denT, denTB, denB, denO, denI, denS, dSeqS, dNext, dRet, dRetN, dDrop, dIfS, dAsg, dTup, dLst, dCons, dNil, dOp, dVar, dC, Cn.d, dBin, dCmp, dF, dTB, dAnd, dOr, dNot, dAndV, dOrV, dNotV, dIf, dChain, dSl, dPart, dNoPart, dMt, dSeq, dRev, dLc, dLc2, dFor, dPar, dSetS, dAug, dAugS, dAsgL, dNeg, dIsi, Bi.den, Mt.den, startE, bindP_nm, bindP_tp, bindPs_nil, bindPs_cons,
  List.map_cons, List.map_nil, List.length_cons, List.length_nil, Nat.reduceAdd, Nat.reduceSub, Nat.zero_add, List.replicate, List.replicate_zero, List.cons_append, List.nil_append, List.append_nil, List.getElem?_cons_zero, List.getElem?_cons_succ, List.set_cons_zero, List.set_cons_succ, Dn.wp, if_true, if_false, Bool.false_eq_true, ite_true, ite_false])
local macro_rules | `(tactic| walk_at "st") => `(tactic| simp only [denSt, denE, denEs, denT, denTB, denB, denO, denI, denS, dSeqS, dNext, dRet, dRetN, dDrop, dIfS, dAsg, dTup, dLst, dCons, dNil, dOp, dVar, dC, Cn.d, dBin, dCmp, dF, dTB, dAnd, dOr, dNot, dAndV, dOrV, dNotV, dIf, dChain, dSl, dPart, dNoPart, dMt, dSeq, dRev, dLc, dLc2, dFor, dPar, dSetS, dAug, dAugS, dAsgL, dNeg, dIsi, Bi.den, Mt.den, startE, bindP_nm, bindP_tp, bindPs_nil, bindPs_cons,
  List.map_cons, List.map_nil, List.length_cons, List.length_nil, Nat.reduceAdd, Nat.reduceSub, Nat.zero_add, List.replicate, List.replicate_zero, List.cons_append, List.nil_append, List.append_nil, List.getElem?_cons_zero, List.getElem?_cons_succ, List.set_cons_zero, List.set_cons_succ, Dn.wp, if_true, if_false, Bool.false_eq_true, ite_true, ite_false])

def bw (u : List Sp) (k : Int) : List Sp := if 0 ≤ k then u else undo u
theorem repl_bw (u : List Sp) (k : Int) : repl k.natAbs (bw u k) = upw u k := by
  unfold bw upw
  by_cases h : 0 < k
  · rw [if_pos (by omega), if_pos h]
  · rw [if_neg h]
    by_cases h0 : k = 0
    · subst h0; rfl
    · rw [if_neg (by omega)]
theorem bw_len (u : List Sp) (k : Int) : (bw u k).length = u.length := by
  unfold bw; split <;> simp [undo_len]
theorem okR_upw {u : List Sp} (hu : Un u) (k : Int) (hk : k.natAbs ≤ 3 * mostOf u) : (upw u k).length ≤ 50 ∧ ∀ p ∈ upw u k, good p := by
  refine ⟨?_, good_upw hu.good k⟩
  rw [upw_len]
  have := hu.len
  have h2 : k.natAbs * u.length ≤ 3 * mostOf u * u.length := Nat.mul_le_mul_right _ hk
  omega
theorem tld_put {u : List Sp} (hu : Un u) (k : Int) (more : List Sp) (hm : ∀ p ∈ more, good p) (j : Nat) (hl : (upw u k).length + 2 * more.length ≤ 60) :
    Tld u k ((upw u k).take j ++ more ++ undo more ++ (upw u k).drop j) := by
  refine ⟨⟨?_, fun p hp => ?_⟩, ?_⟩
  · simp only [List.length_append, List.length_take, List.length_drop, undo_len]
    omega
  · have hg := good_upw hu.good k
    simp only [List.mem_append] at hp
    rcases hp with ((hp | hp) | hp) | hp
    · exact hg p (List.mem_of_mem_take hp)
    · exact hm p hp
    · exact good_undo hm p hp
    · exact hg p (List.mem_of_mem_drop hp)
  · have := red_mid ((upw u k).take j) ((upw u k).drop j) (red_undo_self more)
    rw [List.take_append_drop, ← List.append_assoc] at this
    exact this
theorem sp_told (n : Nat) (b q : Addr) (cells : List Int) (u : List Sp) (hu : Un u) (k : Int) (hk : k.natAbs ≤ 3 * mostOf u) (M : MH) (hB : Bag M b q cells) (Q : D → MH → Prop)
    (h : ∀ r M', Tld u k r → ExtB b M M' → Bag M' b q cells → Q (rowD r) M') : F (n + 4) 49 [.ref b, rowD u, .int k] M Q := by
  rw [F_succ (r := f__law_told) rfl]
  refine ⟨rfl, ?_⟩
  simp only [f__law_told, i__law_told]
  have hul := hu.len
  have hok := okR_upw hu k hk
  have hbl := bw_len u k
  have hml : (bw u k).length * k.natAbs ≤ 50 := by
    have := hok.1
    rw [upw_len, Nat.mul_comm] at this
    rwa [hbl]
  -- behind the choice of the way
  have rest : ∀ (M1 : MH), Ext M M1 → dMul (rowD (bw u k)) (.int (if k < 0 then -k else k)) M1 (fun d M2 => denSs (F (n + 3)) T.cs (.cons (.par [4, 5] (.cons (.call 41 (.cons (.var 0) (.cons (.bin .Add (.bi .len (.cons (.var 3) .nil)) (.cst (.int 1))) .nil))) (.cons (.call 47 (.cons (.var 0) (.cons (.lst (.cons (.cst (.str "a")) (.cons (.cst (.str "b")) (.cons (.cst (.str "c")) .nil)))) (.cons (.cst (.int 2)) .nil)))) .nil)))
    (.cons (.ret (.ite (.cmp .LtE (.bin .Add (.bi .len (.cons (.var 3) .nil)) (.bin .Mult (.cst (.int 2)) (.bi .len (.cons (.var 5) .nil)))) (.cst (.int 60))) (.bin .Add (.bin .Add (.bin .Add (.sl (.var 3) .non (.som (.var 4))) (.var 5)) (.call 45 (.cons (.var 5) .nil))) (.sl (.var 3) (.som (.var 4)) .non)) (.var 3)))
    .nil)) { nx := fun _ M' => Q .non M', rt := Q } [some (.ref b), some (rowD u), some (.int k), some d, none, none] M2) := by
    intro M1 x1
    have ha : (if k < 0 then -k else k) = (k.natAbs : Int) := by split <;> omega
    rw [ha, rowD, dMul_ti]
    simp only [List.length_map, Int.toNat_natCast, repl_map]
    refine ⟨by omega, by omega, by show _ ≤ 16777216; omega, ?_⟩
    rw [repl_bw]
    rw [denSs_cons]
    walk_at "st"
    rw [fLen_t, dAdd_ii, List.length_map]
    have hB1 := hB.ext x1
    refine sp_take (n + 2) b q cells (((upw u k).length : Int) + 1) (by omega) M1 hB1 _ fun a M2 a0 a1 x2 hB2 => ?_
    refine ⟨ln2, fun p hp => ?_⟩
    have hpb : p ≠ b := by
      rintro rfl
      obtain ⟨_, ⟨_, _, _, _, _, _, _, hb⟩, _⟩ := hB2
      rw [hp] at hb; cases hb
    refine sp_lrow n b q p cells ["a", "b", "c"] (fun x hx => hx) (by decide) _ (hB2.ext (.up hp)) up_same hpb 2 (by decide) _ fun more M3 hl hm x3 hB3 => ⟨trivial, ?_⟩
    have X : ExtB b M M3 := x1.b.trans (x2.trans ((Ext.up hp).b.trans x3))
    simp only [List.zip_cons_cons, List.zip_nil_left, List.foldl_cons, List.foldl_nil, List.set_cons_zero, List.set_cons_succ]
    rw [denSs_cons]
    walk_at "st"
    simp only [rowD]
    rw [fLen_t, fLen_t, dMul_ii]
    refine ⟨mul2, ?_⟩
    rw [dAdd_ii, dLe_ii]
    simp only [List.length_map]
    by_cases c : ((upw u k).length : Int) + 2 * (more.length : Int) ≤ 60
    · simp only [decide_eq_true c, if_true]
      obtain ⟨j, rfl⟩ : ∃ j : Nat, a = j := ⟨a.toNat, by omega⟩
      have hj : j ≤ (upw u k).length := by omega
      have h1 : cut ((upw u k).map spD) none (some (j : Int)) = ((upw u k).take j).map spD := by rw [cut_map, cutA_to]
      have h2 : cut ((upw u k).map spD) (some (j : Int)) none = ((upw u k).drop j).map spD := by rw [cut_map, cutA_from]
      rw [dAdd_tt, h1]
      refine ⟨by simp only [List.length_map, List.length_take]; show _ ≤ 16777216; omega, ?_⟩
      refine sp_lundoing (n + 1) more (by show _ ≤ 16777216; omega) M3 _ fun M4 x4 => ?_
      simp only [rowD]
      rw [dAdd_tt]
      refine ⟨by simp only [List.length_append, List.length_map, List.length_take, undo_len]; show _ ≤ 16777216; omega, ?_⟩
      rw [dAdd_tt, h2]
      refine ⟨by simp only [List.length_append, List.length_map, List.length_take, List.length_drop, undo_len]; show _ ≤ 16777216; omega, ?_⟩
      have := h _ M4 (tld_put hu k more hm j (by omega)) (X.trans x4.b) (hB3.ext x4)
      simp only [rowD, List.map_append] at this
      exact this
    · simp only [decide_eq_false c, Bool.false_eq_true, if_false]
      exact h _ M3 ⟨⟨by omega, hok.2⟩, rfl⟩ X hB3
  rw [denSs_cons]
  generalize hR : denSs (F (n + 3)) T.cs (Stms.cons _ _) = Rs at rest ⊢
  walk_at "st"
  rw [dGe_ii]
  by_cases c : 0 ≤ k
  · simp only [decide_eq_true c, if_true, fAbs]
    have := rest M .refl
    rw [show bw u k = u from by rw [bw, if_pos c]] at this
    exact this
  · simp only [decide_eq_false c, Bool.false_eq_true, if_false]
    refine sp_lundoing (n + 1) u (by show _ ≤ 16777216; omega) M _ fun M1 x1 => ?_
    simp only [fAbs]
    have := rest M1 x1
    rw [show bw u k = undo u from by rw [bw, if_neg c]] at this
    exact this
end K10

set_option Elab.async false
set_option linter.all false
set_option maxRecDepth 100000
set_option maxHeartbeats 2000000
namespace K10
open PySem Dn
open L2 (atI ixN)
local macro_rules | `(tactic| walk_at "dn") => `(tactic| simp only [denSs, denSt, denE, denEs, denT, denTB, denB, denO, denI, denS, dSeqS, dNext, dRet, dRetN, dDrop, dIfS, dAsg, dTup, dLst, dCons, dNil, dOp, dVar, dC, Cn.d, dBin, dCmp, dF, dTB, dAnd, dOr, dNot, dAndV, dOrV, dNotV, dIf, dChain, dSl, dPart, dNoPart, dMt, dSeq, dRev, dLc, dLc2, dFor, dPar, dSetS, dAug, dAugS, dAsgL, dNeg, dIsi, Bi.den, Mt.den, startE, bindP_nm, bindP_tp, bindPs_nil, bindPs_cons,
  List.map_cons, List.map_nil, List.length_cons, List.length_nil, Nat.reduceAdd, Nat.reduceSub, Nat.zero_add, List.replicate, List.replicate_zero, List.cons_append, List.nil_append, List.append_nil, List.getElem?_cons_zero, List.getElem?_cons_succ, List.set_cons_zero, List.set_cons_succ, Dn.wp, if_true, if_false, Bool.false_eq_true, ite_true, ite_false])
local macro_rules | `(tactic| walk_at "st") => `(tactic| simp only [denSt, denE, denEs, denT, denTB, denB, denO, denI, denS, dSeqS, dNext, dRet, dRetN, dDrop, dIfS, dAsg, dTup, dLst, dCons, dNil, dOp, dVar, dC, Cn.d, dBin, dCmp, dF, dTB, dAnd, dOr, dNot, dAndV, dOrV, dNotV, dIf, dChain, dSl, dPart, dNoPart, dMt, dSeq, dRev, dLc, dLc2, dFor, dPar, dSetS, dAug, dAugS, dAsgL, dNeg, dIsi, Bi.den, Mt.den, startE, bindP_nm, bindP_tp, bindPs_nil, bindPs_cons,
  List.map_cons, List.map_nil, List.length_cons, List.length_nil, Nat.reduceAdd, Nat.reduceSub, Nat.zero_add, List.replicate, List.replicate_zero, List.cons_append, List.nil_append, List.append_nil, List.getElem?_cons_zero, List.getElem?_cons_succ, List.set_cons_zero, List.set_cons_succ, Dn.wp, if_true, if_false, Bool.false_eq_true, ite_true, ite_false])

/-- two lists, item by item -/
inductive Pw (R : D → D → Prop) : List D → List D → Prop where
  | nil : Pw R [] []
  | cons {a b : D} {l m : List D} : R a b → Pw R l m → Pw R (a :: l) (b :: m)
theorem Pw.snoc {R : D → D → Prop} {a b : D} (h : R a b) : ∀ {l m : List D}, Pw R l m → Pw R (l ++ [a]) (m ++ [b])
  | [], [], _ => .cons h .nil
  | _ :: _, _ :: _, .cons h1 h2 => .cons h1 (Pw.snoc h h2)
theorem Pw.len {R : D → D → Prop} : ∀ {l m : List D}, Pw R l m → m.length = l.length
  | _, _, .nil => rfl
  | _, _, .cons _ h => by rw [List.length_cons, List.length_cons, h.len]
theorem Pw.one {R : D → D → Prop} {a : D} {m : List D} (h : Pw R [a] m) : ∃ b, m = [b] ∧ R a b := by
  cases h with
  | cons h1 h2 => cases h2; exact ⟨_, rfl, h1⟩
theorem Pw.uncons {R : D → D → Prop} {a : D} {l m : List D} (h : Pw R (a :: l) m) : ∃ b r, m = b :: r ∧ R a b ∧ Pw R l r := by
  cases h with
  | cons h1 h2 => exact ⟨_, _, rfl, h1, h2⟩
/-- a comprehension whose items draw, item by item -/
theorem lc_inv2 {p : Pat} {te : TD} {env : Ev} {M : MH} {N : Addr → MH → Prop} (I : Addr → MH → Prop) (R : D → D → Prop) (l : List D) (hl : l.length ≤ LN)
    (hpush : ∀ D M1 ds, M D = none → I D M1 → I D (up M1 D (.lst ds)))
    (h0 : ∀ D, M D = none → I D (up M D (.lst [])))
    (he : ∀ d ∈ l, ∃ env2, bindP p d env = some env2 ∧ ∀ D M1 ds (Q : Dn.D → MH → Prop), M D = none → I D M1 → M1 D = some (.lst ds) → (∀ y M2, R d y → I D M2 → M2 D = some (.lst ds) → Q y M2) → te env2 M1 Q)
    (k : ∀ D M' ds, M D = none → I D M' → M' D = some (.lst ds) → Pw R l ds → N D M') (D : Addr) (hD : M D = none) :
    dLcL p dYes te (fun _ => True) env (N D) D l (up M D (.lst [])) := by
  have key : ∀ (l l0 : List Dn.D) (acc : List Dn.D) (M1 : MH), (∀ d ∈ l, ∃ env2, bindP p d env = some env2 ∧ ∀ D M1 ds (Q : Dn.D → MH → Prop), M D = none → I D M1 → M1 D = some (.lst ds) → (∀ y M2, R d y → I D M2 → M2 D = some (.lst ds) → Q y M2) → te env2 M1 Q) → I D M1 → M1 D = some (.lst acc) → acc.length + l.length ≤ LN → Pw R l0 acc →
      (∀ M' ds, I D M' → M' D = some (.lst ds) → Pw R (l0 ++ l) ds → N D M') → dLcL p dYes te (fun _ => True) env (N D) D l M1 := by
    intro l
    induction l with
    | nil => intro l0 acc M1 _ i e _ hp k; exact ⟨trivial, k M1 acc i e (by simpa using hp)⟩
    | cons d l ih =>
      intro l0 acc M1 he i e hl hp k
      obtain ⟨env2, e1, e2⟩ := he d List.mem_cons_self
      refine ⟨trivial, ?_⟩
      rw [e1]
      simp only [dYes, if_true]
      refine e2 D M1 acc _ hD i e fun y M2 py i2 e3 => ?_
      unfold pushD
      rw [e3]
      simp only [List.length_cons] at hl
      refine ⟨by omega, ?_⟩
      refine ih (l0 ++ [d]) (acc ++ [y]) _ (fun z hz => he z (List.mem_cons_of_mem _ hz)) (hpush D M2 _ hD i2) up_same (by rw [List.length_append, List.length_singleton]; omega) (hp.snoc py) fun M' ds i' e' hp' => k M' ds i' e' (by simpa using hp')
  exact key l [] [] _ he (h0 D hD) up_same (by simpa using hl) .nil fun M' ds i e hp => k D M' ds hD i e (by simpa using hp)
/-- a comprehension over a bag -/
theorem lc_bag {p : Pat} {te : TD} {env : Ev} {M : MH} {N : Addr → MH → Prop} {b q : Addr} {cells : List Int} (hB : Bag M b q cells) (R : D → D → Prop) (l : List D) (hl : l.length ≤ 1000000)
    (he : ∀ d ∈ l, ∃ env2, bindP p d env = some env2 ∧ ∀ M1 (Q : Dn.D → MH → Prop), ExtB b M M1 → Bag M1 b q cells → (∀ y M2, R d y → ExtB b M1 M2 → Bag M2 b q cells → Q y M2) → te env2 M1 Q)
    (k : ∀ D M' ds, D ≠ b → ExtB b M M' → Bag M' b q cells → M' D = some (.lst ds) → Pw R l ds → N D M') (D : Addr) (hD : M D = none) :
    dLcL p dYes te (fun _ => True) env (N D) D l (up M D (.lst [])) := by
  have hb := hB
  obtain ⟨_, ⟨_, _, _, _, _, _, _, hb'⟩, hcq, _⟩ := hb
  have ne : ∀ D', M D' = none → D' ≠ b := fun D' h => (ne_new hb' h).symm
  refine lc_inv2 (fun D' M2 => ExtB b M M2 ∧ Bag M2 b q cells) R l (by show _ ≤ 16777216; omega) (fun D' M2 ds hD' ii => ?_) (fun D' hD' => ⟨(Ext.up hD').b, hB.ext (.up hD')⟩) (fun d hd => ?_) (fun D' M2 ds hD' ii e hp => k D' M2 ds (ne D' hD') ii.1 ii.2 e hp) D hD
  · obtain ⟨i1, i2⟩ := ii
    have hq : q ≠ D' := ne_new hcq hD'
    obtain ⟨e1, ⟨b0, b1, b2, e2, e3, e4, e5, e6⟩, e7, e8, e9⟩ := i2
    refine ⟨fun a o ha h => ?_, ⟨e1, ⟨b0, b1, b2, e2, e3, e4, e5, by rw [up_ne (ne D' hD').symm]; exact e6⟩, by rw [up_ne hq]; exact e7, e8, e9⟩⟩
    rw [up_ne (ne_new h hD')]
    exact i1 a o ha h
  · obtain ⟨env2, e1, e2⟩ := he d hd
    refine ⟨env2, e1, fun D' M1 ds Q hD' ii e kk => ?_⟩
    exact e2 M1 Q ii.1 ii.2 fun y M2 r x2 hB2 => kk y M2 r ⟨ii.1.trans x2, hB2⟩ (x2 _ _ (ne D' hD') e)
/-- what is due, as a value -/
def IsDue (b : Addr) (M : MH) : Due → D → Prop
  | .all, x => x = .str "all"
  | .line, x => x = .str "line"
  | .no, x => ∃ a, x = .ref a ∧ a ≠ b ∧ M a = some (.lst [])
  | .at k, x => ∃ a, x = .ref a ∧ a ≠ b ∧ M a = some (.lst [.int k])
theorem IsDue.ext {b : Addr} {M M' : MH} {d : Due} {x : D} (h : IsDue b M d x) (e : ExtB b M M') : IsDue b M' d x := by
  cases d with
  | all => exact h
  | line => exact h
  | no => obtain ⟨a, h1, h2, h3⟩ := h; exact ⟨a, h1, h2, e a _ h2 h3⟩
  | «at» k => obtain ⟨a, h1, h2, h3⟩ := h; exact ⟨a, h1, h2, e a _ h2 h3⟩
theorem Bag.ne' {M : MH} {b q : Addr} {cells : List Int} (hB : Bag M b q cells) {p : Addr} (hp : M p = none) : p ≠ b := by
  obtain ⟨_, ⟨_, _, _, _, _, _, _, hb⟩, _⟩ := hB
  exact (ne_new hb hp).symm
theorem fresh_back {M M4 : MH} {b q : Addr} {cells : List Int} (hB4 : Bag M4 b q cells) (X4 : ExtB b M M4) {p : Addr} (hp : M4 p = none) : M p = none := by
  cases e : M p with
  | none => rfl
  | some o =>
    have := X4 p o (hB4.ne' hp) e
    rw [hp] at this; cases this
theorem s_ne_pa : decide (("ahead" : Str) = "power") = false := by decide +kernel
theorem s_ne_pb : decide (("behind" : Str) = "power") = false := by decide +kernel
theorem s_ne_pt : decide (("between" : Str) = "power") = false := by decide +kernel
theorem s_ne_pm : decide (("moves" : Str) = "power") = false := by decide +kernel
theorem s_ne_pg : decide (("goes" : Str) = "power") = false := by decide +kernel
theorem s_ne_bm : decide (("moves" : Str) = "between") = false := by decide +kernel
theorem s_ne_bg : decide (("goes" : Str) = "between") = false := by decide +kernel
theorem s_ne_mg : decide (("goes" : Str) = "moves") = false := by decide +kernel
theorem in_ab (w : Str) (M : MH) (Q : D → MH → Prop) : dInB false (.str w) (.tup [.str "ahead", .str "behind"]) M Q = Q (.bl (decide (("ahead" : Str) = w) || decide (("behind" : Str) = w))) M := by
  simp only [dInB, py_s, py_t, pys, Option.map_some, List.any_cons, List.any_nil, Bool.or_false, eqv_s, Bool.false_eq_true, if_false]
theorem i_aa : (decide (("ahead" : Str) = "ahead") || decide (("behind" : Str) = "ahead")) = true := by decide +kernel
theorem i_bb : (decide (("ahead" : Str) = "behind") || decide (("behind" : Str) = "behind")) = true := by decide +kernel
theorem i_tt : (decide (("ahead" : Str) = "between") || decide (("behind" : Str) = "between")) = false := by decide +kernel
theorem i_mm : (decide (("ahead" : Str) = "moves") || decide (("behind" : Str) = "moves")) = false := by decide +kernel
theorem i_gg : (decide (("ahead" : Str) = "goes") || decide (("behind" : Str) = "goes")) = false := by decide +kernel
theorem sp_one (n : Nat) (b q : Addr) (cells : List Int) (u : List Sp) (hu : Un u) (M : MH) (hB : Bag M b q cells) (Q : D → MH → Prop)
    (h : ∀ e d x M', Good u e d → IsDue b M' d x → ExtB b M M' → Bag M' b q cells → (∀ a, x = .ref a → M a = none) → Q (.tup [e.d, x]) M') : F (n + 5) 50 [.ref b, rowD u, .int (mostOf u)] M Q := by
  rw [F_succ (r := f__law_one) rfl]
  refine ⟨rfl, ?_⟩
  simp only [f__law_one, i__law_one]
  have hul := hu.len
  rw [denSs_cons]
  walk_at "st"
  refine ⟨ln2, fun p hp => ?_⟩
  have hpb0 := hB.ne' hp
  refine sp_some_list (n + 2) b q p cells _ (by simp) _ (hB.ext (.up hp)) up_same hpb0 _ fun w M1 hw x1 hB1 => ?_
  have X1 : ExtB b M M1 := (Ext.up hp).b.trans x1
  -- three numbers
  rw [denSs_cons]
  walk_at "st"
  unfold dRng1
  walk_at "st"
  refine ⟨by omega, ?_⟩
  refine lc_bag hB1 (fun _ y => ∃ i : Int, y = .int i ∧ i.natAbs ≤ mostOf u) _ (by decide) (fun d hd => ⟨_, bindP_nm _ _ _, fun M2 Q2 x2 hB2 kk => ?_⟩) (fun D M2 ds hDb x2 hB2 e hp2 => ?_)
  · walk_at "st"
    rw [dMul_ii]
    refine ⟨mul2, ?_⟩
    rw [dAdd_ii]
    refine sp_take (n + 3) b q cells _ (by omega) M2 hB2 _ fun r M3 r0 r1 x3 hB3 => ?_
    rw [dSub_ii]
    exact kk _ M3 ⟨_, rfl, by omega⟩ x3 hB3
  have hp2' : Pw _ [.int 0, .int 1, .int 2] ds := hp2
  clear hp2
  obtain ⟨_, _, rfl, ⟨U, rfl, hU⟩, hpa⟩ := hp2'.uncons
  obtain ⟨_, _, rfl, ⟨V, rfl, hV⟩, hpb⟩ := hpa.uncons
  obtain ⟨_, rfl, ⟨W, rfl, hW⟩⟩ := hpb.one
  have X2 := X1.trans x2
  simp only [rdL_lst e]
  walk_at "st"
  -- three rows
  rw [denSs_cons]
  walk_at "st"
  refine ⟨ln2, ?_⟩
  refine lc_bag hB2 (fun d y => ∃ (i : Int) (r : List Sp), d = .int i ∧ y = rowD r ∧ Tld u i r) _ (by simp) (fun d hd => ?_) (fun D3 M3 ds hDb3 x3 hB3 e3 hp3 => ?_)
  · have : ∃ i : Int, d = .int i ∧ i.natAbs ≤ 3 * mostOf u := by
      simp only [List.mem_cons, List.not_mem_nil, or_false] at hd
      rcases hd with rfl | rfl | rfl
      · exact ⟨U, rfl, by omega⟩
      · exact ⟨V, rfl, by omega⟩
      · exact ⟨W, rfl, by omega⟩
    obtain ⟨i, rfl, hi⟩ := this
    refine ⟨_, bindP_nm _ _ _, fun M4 Q4 x4 hB4 kk => ?_⟩
    walk_at "st"
    exact sp_told n b q cells u hu i hi M4 hB4 _ fun r M5 hr x5 hB5 => kk _ M5 ⟨i, r, rfl, rfl, hr⟩ x5 hB5
  obtain ⟨_, _, rfl, ⟨_, rU, e1, rfl, hrU⟩, hpa⟩ := hp3.uncons
  cases e1
  obtain ⟨_, _, rfl, ⟨_, rV, e1, rfl, hrV⟩, hpb⟩ := hpa.uncons
  cases e1
  obtain ⟨_, rfl, ⟨_, rW, e1, rfl, hrW⟩⟩ := hpb.one
  cases e1
  have X3 := X2.trans x3
  have l3 := rdL_lst e3
  have a0 : atI [rowD rU, rowD rV, rowD rW] 0 = some (rowD rU) := rfl
  have a1 : atI [rowD rU, rowD rV, rowD rW] 1 = some (rowD rV) := rfl
  have a2 : atI [rowD rU, rowD rV, rowD rW] 2 = some (rowD rW) := rfl
  rw [denSs_cons]
  -- what is told when it is a list of one number
  have fin1 : ∀ (e : Eqn) (k : Int) (M4 : MH), Good u e (.at k) → ExtB b M M4 → Bag M4 b q cells → ∀ p, M4 p = none → Q (.tup [e.d, .ref p]) (up M4 p (.lst [.int k])) := fun e k M4 hg X4 hB4 p hp4 =>
    h e _ _ _ hg ⟨p, rfl, hB4.ne' hp4, up_same⟩ (X4.trans (Ext.up hp4).b) (hB4.ext (.up hp4)) (fun a ea => by cases ea; exact fresh_back hB4 X4 hp4)
  have fin0 : ∀ (e : Eqn) (M4 : MH), Good u e .no → ExtB b M M4 → Bag M4 b q cells → ∀ p, M4 p = none → Q (.tup [e.d, .ref p]) (up M4 p (.lst [])) := fun e M4 hg X4 hB4 p hp4 =>
    h e _ _ _ hg ⟨p, rfl, hB4.ne' hp4, up_same⟩ (X4.trans (Ext.up hp4).b) (hB4.ext (.up hp4)) (fun a ea => by cases ea; exact fresh_back hB4 X4 hp4)
  simp only [List.mem_cons, List.not_mem_nil, or_false] at hw
  have hx : ∃ x : Str, w = .str x ∧ (x = "ahead" ∨ x = "behind" ∨ x = "between" ∨ x = "power" ∨ x = "moves" ∨ x = "goes") := by
    rcases hw with rfl | rfl | rfl | rfl | rfl | rfl | rfl
    · exact ⟨_, rfl, .inl rfl⟩
    · exact ⟨_, rfl, .inr (.inl rfl)⟩
    · exact ⟨_, rfl, .inr (.inr (.inl rfl))⟩
    · exact ⟨_, rfl, .inr (.inr (.inr (.inl rfl)))⟩
    · exact ⟨_, rfl, .inr (.inr (.inr (.inl rfl)))⟩
    · exact ⟨_, rfl, .inr (.inr (.inr (.inr (.inl rfl))))⟩
    · exact ⟨_, rfl, .inr (.inr (.inr (.inr (.inr rfl))))⟩
  clear hw
  obtain ⟨w, rfl, hx⟩ := hx
  rcases hx with hx | hx | hx | hx | hx | hx
  · -- ahead
    have c1 : decide (w = "power") = false := by rw [hx]; exact s_ne_pa
    have c2 : (decide (("ahead" : Str) = w) || decide (("behind" : Str) = w)) = true := by rw [hx]; exact i_aa
    have fin1 : ∀ (k : Int) (M4 : MH), Good u (.ahead rU rV) (.at k) → ExtB b M M4 → Bag M4 b q cells → ∀ p, M4 p = none → Q (.tup [.tup [.str w, rowD rU, rowD rV], .ref p]) (up M4 p (.lst [.int k])) := fun k M4 hg X4 hB4 p hp4 => by rw [hx]; exact fin1 _ k M4 hg X4 hB4 p hp4
    clear hx
    walk_at "st"
    simp only [dEq_ss, c1, Bool.false_eq_true, if_false]
    rw [denSs_end, denSs_cons]
    walk_at "st"
    refine ⟨ln2, ?_⟩
    simp only [in_ab, c2, if_true]
    rw [denSs_cons]
    walk_at "st"
    rw [dIx_ri _ e3 a0, dIx_ri _ e3 a1]
    refine ⟨ln2, ?_⟩
    rw [dSub_ii]
    exact ⟨ln2, fun p hp => ⟨ln2, fin1 (V - U) M3 (good_ahead hu hrU hrV (by omega)) X3 hB3 p hp⟩⟩
  · -- behind
    have c1 : decide (w = "power") = false := by rw [hx]; exact s_ne_pb
    have c2 : (decide (("ahead" : Str) = w) || decide (("behind" : Str) = w)) = true := by rw [hx]; exact i_bb
    have fin1 : ∀ (k : Int) (M4 : MH), Good u (.behind rU rV) (.at k) → ExtB b M M4 → Bag M4 b q cells → ∀ p, M4 p = none → Q (.tup [.tup [.str w, rowD rU, rowD rV], .ref p]) (up M4 p (.lst [.int k])) := fun k M4 hg X4 hB4 p hp4 => by rw [hx]; exact fin1 _ k M4 hg X4 hB4 p hp4
    clear hx
    walk_at "st"
    simp only [dEq_ss, c1, Bool.false_eq_true, if_false]
    rw [denSs_end, denSs_cons]
    walk_at "st"
    refine ⟨ln2, ?_⟩
    simp only [in_ab, c2, if_true]
    rw [denSs_cons]
    walk_at "st"
    rw [dIx_ri _ e3 a0, dIx_ri _ e3 a1]
    refine ⟨ln2, ?_⟩
    rw [dSub_ii]
    exact ⟨ln2, fun p hp => ⟨ln2, fin1 (V - U) M3 (good_behind hu hrU hrV (by omega)) X3 hB3 p hp⟩⟩
  · -- between
    have c1 : decide (w = "power") = false := by rw [hx]; exact s_ne_pt
    have c2 : (decide (("ahead" : Str) = w) || decide (("behind" : Str) = w)) = false := by rw [hx]; exact i_tt
    have c3 : decide (w = "between") = true := by rw [hx]; exact decide_eq_true rfl
    have fin1 : ∀ (k : Int) (M4 : MH), Good u (.between rU rW rV) (.at k) → ExtB b M M4 → Bag M4 b q cells → ∀ p, M4 p = none → Q (.tup [.tup [.str w, rowD rU, rowD rW, rowD rV], .ref p]) (up M4 p (.lst [.int k])) := fun k M4 hg X4 hB4 p hp4 => by rw [hx]; exact fin1 _ k M4 hg X4 hB4 p hp4
    clear hx
    walk_at "st"
    simp only [dEq_ss, c1, Bool.false_eq_true, if_false]
    rw [denSs_end, denSs_cons]
    walk_at "st"
    refine ⟨ln2, ?_⟩
    simp only [in_ab, c2, Bool.false_eq_true, if_false]
    rw [denSs_end, denSs_cons]
    walk_at "st"
    simp only [dEq_ss, c3, if_true]
    rw [denSs_cons]
    walk_at "st"
    rw [dIx_ri _ e3 a0, dIx_ri _ e3 a2, dIx_ri _ e3 a1]
    refine ⟨ln2, ?_⟩
    rw [dSub_ii, dSub_ii]
    exact ⟨ln2, fun p hp => ⟨ln2, fin1 (V - U - W) M3 (good_between hu hrU hrW hrV (by omega)) X3 hB3 p hp⟩⟩
  · -- power
    have c1 : decide (w = "power") = true := by rw [hx]; exact decide_eq_true rfl
    clear hx
    walk_at "st"
    simp only [dEq_ss, c1, if_true]
    rw [denSs_cons]
    walk_at "st"
    refine ⟨ln2, fun p hp => ?_⟩
    refine sp_some_list (n + 2) b q p cells _ (by simp) _ (hB3.ext (.up hp)) up_same (hB3.ne' hp) _ fun m M4 hm x4 hB4 => ?_
    have hm2 : ∃ i : Int, m = .int i ∧ (1 ≤ i ∧ i ≤ 5 ∨ i = 60) := by
      simp only [List.mem_cons, List.not_mem_nil, or_false] at hm
      rcases hm with rfl | rfl | rfl | rfl | rfl <;> exact ⟨_, rfl, by omega⟩
    obtain ⟨m, rfl, hm2⟩ := hm2
    clear hm
    have X4 : ExtB b M M4 := X3.trans ((Ext.up hp).b.trans x4)
    rw [denSs_cons]
    walk_at "st"
    simp only [rowD]
    rw [fLen_t, dMul_ii, List.length_map]
    refine ⟨.inl (by omega), ?_⟩
    rw [dLe_ii]
    -- the number taken
    have rest : ∀ (w0 : Int) (hw0 : w0 = W ∨ w0 = m ∧ m.natAbs ≤ 3 * mostOf u), 3 ≤ LN ∧ ∀ (p : Addr), M4 p = none → F (n + 4) 42 [.ref b, .ref p] (up M4 p (.lst [.int W, .int 0, .int w0])) fun d M5 => denSs (F (n + 4)) T.cs (.cons (.ret (.tup (.cons (.tup (.cons (.cst (.str "power")) (.cons (.var 8) (.cons (.call 49 (.cons (.var 0) (.cons (.var 1) (.cons (.var 7) .nil)))) .nil)))) (.cons (.ite (.cmp .Eq (.bin .Mod (.var 7) (.var 8)) (.cst (.int 0))) (.lst (.cons (.bin .FloorDiv (.var 7) (.var 8)) .nil)) (.lst .nil)) .nil))))
        .nil) { nx := fun _ M' => Q .non M', rt := Q } [some (.ref b), some (rowD u), some (.int (mostOf u)), some (.str w), some (.ref D3), some (.int U), some (.int V), some d, some (.int m), none] M5 := by
      intro w0 hw0
      refine ⟨ln2, fun p5 hp5 => ?_⟩
      refine sp_some_list (n + 2) b q p5 cells _ (by simp) _ (hB4.ext (.up hp5)) up_same (hB4.ne' hp5) _ fun d M5 hd x5 hB5 => ?_
      have X5 : ExtB b M M5 := X4.trans ((Ext.up hp5).b.trans x5)
      have hd2 : ∃ i : Int, d = .int i ∧ i.natAbs ≤ 3 * mostOf u := by
        simp only [List.mem_cons, List.not_mem_nil, or_false] at hd
        rcases hd with rfl | rfl | rfl
        · exact ⟨_, rfl, by omega⟩
        · exact ⟨_, rfl, by omega⟩
        · exact ⟨_, rfl, by omega⟩
      obtain ⟨i, rfl, hi⟩ := hd2
      clear hd
      rw [denSs_cons]
      walk_at "st"
      refine sp_told n b q cells u hu i hi M5 hB5 _ fun r M6 hr x6 hB6 => ⟨ln2, ?_⟩
      have X6 := X5.trans x6
      have hg := good_power hu (n := m) (by omega) hr hi
      rw [dMod_ii]
      refine ⟨by omega, ?_⟩
      rw [dEq_ii]
      by_cases c : i.fmod m = 0
      · simp only [decide_eq_true c, if_true]
        rw [if_pos c] at hg
        rw [dFdiv_ii]
        exact ⟨⟨by omega, by omega⟩, ln2, fun p hp => ⟨ln2, fin1 _ _ M6 hg X6 hB6 p hp⟩⟩
      · simp only [decide_eq_false c, Bool.false_eq_true, if_false]
        rw [if_neg c] at hg
        exact ⟨ln2, fun p hp => ⟨ln2, fin0 _ M6 hg X6 hB6 p hp⟩⟩
    by_cases c : m * (u.length : Int) ≤ 50
    · simp only [decide_eq_true c, if_true]
      refine rest m (.inr ⟨rfl, ?_⟩)
      have h1 : m ≤ m * (u.length : Int) := by
        have : m * 1 ≤ m * (u.length : Int) := Int.mul_le_mul_of_nonneg_left (by omega) (by omega)
        omega
      omega
    · simp only [decide_eq_false c, Bool.false_eq_true, if_false]
      exact rest W (.inl rfl)
  · -- moves
    have c1 : decide (w = "power") = false := by rw [hx]; exact s_ne_pm
    have c2 : (decide (("ahead" : Str) = w) || decide (("behind" : Str) = w)) = false := by rw [hx]; exact i_mm
    have c3 : decide (w = "between") = false := by rw [hx]; exact s_ne_bm
    have c4 : decide (w = "moves") = true := by rw [hx]; exact decide_eq_true rfl
    have fin0 : ∀ (r : List Sp) (M4 : MH), Good u (.moves rU r) .no → ExtB b M M4 → Bag M4 b q cells → ∀ p, M4 p = none → Q (.tup [.tup [.str w, rowD rU, rowD r], .ref p]) (up M4 p (.lst [])) := fun r M4 hg X4 hB4 p hp4 => by rw [hx]; exact fin0 _ M4 hg X4 hB4 p hp4
    have finw : ∀ (r : List Sp) (d : Due) (x : Dn.D) (M4 : MH), Good u (.moves rU r) d → IsDue b M4 d x → ExtB b M M4 → Bag M4 b q cells → (∀ a, x = .ref a → M a = none) → Q (.tup [.tup [.str w, rowD rU, rowD r], x]) M4 := fun r d x M4 hg hi X4 hB4 hf => by rw [hx]; exact h _ d x M4 hg hi X4 hB4 hf
    clear hx
    walk_at "st"
    simp only [dEq_ss, c1, Bool.false_eq_true, if_false]
    rw [denSs_end, denSs_cons]
    walk_at "st"
    refine ⟨ln2, ?_⟩
    simp only [in_ab, c2, Bool.false_eq_true, if_false]
    rw [denSs_end, denSs_cons]
    walk_at "st"
    simp only [dEq_ss, c3, Bool.false_eq_true, if_false]
    rw [denSs_end, denSs_cons]
    walk_at "st"
    simp only [dEq_ss, c4, if_true]
    rw [denSs_cons]
    walk_at "st"
    refine ⟨ln2, fun p hp => ?_⟩
    refine sp_some_list (n + 2) b q p cells _ (by simp) _ (hB3.ext (.up hp)) up_same (hB3.ne' hp) _ fun v M4 hv x4 hB4 => ?_
    have X4 : ExtB b M M4 := X3.trans ((Ext.up hp).b.trans x4)
    have e4 := ((Ext.up (o := .lst [.int U, .int V]) hp).b.trans x4) D3 _ hDb3 e3
    have : ∃ i : Int, v = .int i ∧ i.natAbs ≤ 3 * mostOf u := by
      simp only [List.mem_cons, List.not_mem_nil, or_false] at hv
      rcases hv with rfl | rfl
      · exact ⟨U, rfl, by omega⟩
      · exact ⟨V, rfl, by omega⟩
    obtain ⟨v, rfl, hv2⟩ := this
    rw [denSs_cons]
    walk_at "st"
    rw [dIx_ri _ e4 a0]
    refine sp_told n b q cells u hu v hv2 M4 hB4 _ fun r M5 hr x5 hB5 => ⟨ln2, ?_⟩
    have hg := good_moves hu hrU hr (by omega)
    have X5 := X4.trans x5
    rw [dNe_ii]
    by_cases c : U = v
    · rw [decide_eq_true c]
      rw [if_neg (fun q => q c)] at hg
      simp only [Bool.not_true, Bool.false_eq_true, if_false, dEq_ii]
      by_cases c0 : U = 0
      · simp only [decide_eq_true c0, if_true]
        rw [if_pos c0] at hg
        exact ⟨ln2, finw _ _ _ M5 hg rfl X5 hB5 (fun a ea => by cases ea)⟩
      · simp only [decide_eq_false c0, Bool.false_eq_true, if_false]
        rw [if_neg c0] at hg
        exact ⟨ln2, finw _ _ _ M5 hg rfl X5 hB5 (fun a ea => by cases ea)⟩
    · rw [decide_eq_false c]
      rw [if_pos c] at hg
      simp only [Bool.not_false, if_true]
      exact ⟨ln2, fun p hp => ⟨ln2, fin0 _ M5 hg X5 hB5 p hp⟩⟩
  · -- goes
    have c1 : decide (w = "power") = false := by rw [hx]; exact s_ne_pg
    have c2 : (decide (("ahead" : Str) = w) || decide (("behind" : Str) = w)) = false := by rw [hx]; exact i_gg
    have c3 : decide (w = "between") = false := by rw [hx]; exact s_ne_bg
    have c4 : decide (w = "moves") = false := by rw [hx]; exact s_ne_mg
    have finw : ∀ (d : Due) (x : Dn.D) (M4 : MH), Good u (.goes rU) d → IsDue b M4 d x → ExtB b M M4 → Bag M4 b q cells → (∀ a, x = .ref a → M a = none) → Q (.tup [.tup [.str w, rowD rU], x]) M4 := fun d x M4 hg hi X4 hB4 hf => by rw [hx]; exact h _ d x M4 hg hi X4 hB4 hf
    clear hx
    walk_at "st"
    simp only [dEq_ss, c1, Bool.false_eq_true, if_false]
    rw [denSs_end, denSs_cons]
    walk_at "st"
    refine ⟨ln2, ?_⟩
    simp only [in_ab, c2, Bool.false_eq_true, if_false]
    rw [denSs_end, denSs_cons]
    walk_at "st"
    simp only [dEq_ss, c3, Bool.false_eq_true, if_false]
    rw [denSs_end, denSs_cons]
    walk_at "st"
    simp only [dEq_ss, c4, Bool.false_eq_true, if_false]
    rw [denSs_end, denSs_cons]
    walk_at "st"
    rw [dIx_ri _ e3 a0]
    refine ⟨ln2, ?_⟩
    rw [dEq_ii]
    have hg := good_goes hu hrU (by omega)
    by_cases c0 : U = 0
    · simp only [decide_eq_true c0, if_true]
      rw [if_pos c0] at hg
      exact ⟨ln2, finw _ _ M3 hg rfl X3 hB3 (fun a ea => by cases ea)⟩
    · simp only [decide_eq_false c0, Bool.false_eq_true, if_false]
      rw [if_neg c0] at hg
      exact ⟨ln2, finw _ _ M3 hg rfl X3 hB3 (fun a ea => by cases ea)⟩
end K10

set_option Elab.async false
set_option linter.all false
set_option maxRecDepth 100000
set_option maxHeartbeats 2000000
namespace K10
open PySem Dn
open L2 (atI ixN)
local macro_rules | `(tactic| walk_at "dn") => `(tactic| simp only [denSs, denSt, denE, denEs, denT, denTB, denB, denO, denI, denS, dSeqS, dNext, dRet, dRetN, dDrop, dIfS, dAsg, dTup, dLst, dCons, dNil, dOp, dVar, dC, Cn.d, dBin, dCmp, dF, dTB, dAnd, dOr, dNot, dAndV, dOrV, dNotV, dIf, dChain, dSl, dPart, dNoPart, dMt, dSeq, dRev, dLc, dLc2, dFor, dPar, dSetS, dAug, dAugS, dAsgL, dNeg, dIsi, Bi.den, Mt.den, startE, bindP_nm, bindP_tp, bindPs_nil, bindPs_cons,
  List.map_cons, List.map_nil, List.length_cons, List.length_nil, Nat.reduceAdd, Nat.reduceSub, Nat.zero_add, List.replicate, List.replicate_zero, List.cons_append, List.nil_append, List.append_nil, List.getElem?_cons_zero, List.getElem?_cons_succ, List.set_cons_zero, List.set_cons_succ, Dn.wp, if_true, if_false, Bool.false_eq_true, ite_true, ite_false])
local macro_rules | `(tactic| walk_at "st") => `(tactic| simp only [denSt, denE, denEs, denT, denTB, denB, denO, denI, denS, dSeqS, dNext, dRet, dRetN, dDrop, dIfS, dAsg, dTup, dLst, dCons, dNil, dOp, dVar, dC, Cn.d, dBin, dCmp, dF, dTB, dAnd, dOr, dNot, dAndV, dOrV, dNotV, dIf, dChain, dSl, dPart, dNoPart, dMt, dSeq, dRev, dLc, dLc2, dFor, dPar, dSetS, dAug, dAugS, dAsgL, dNeg, dIsi, Bi.den, Mt.den, startE, bindP_nm, bindP_tp, bindPs_nil, bindPs_cons,
  List.map_cons, List.map_nil, List.length_cons, List.length_nil, Nat.reduceAdd, Nat.reduceSub, Nat.zero_add, List.replicate, List.replicate_zero, List.cons_append, List.nil_append, List.append_nil, List.getElem?_cons_zero, List.getElem?_cons_succ, List.set_cons_zero, List.set_cons_succ, Dn.wp, if_true, if_false, Bool.false_eq_true, ite_true, ite_false])

def pyDue : Due → PyData
  | .all => .str "all"
  | .line => .str "line"
  | .no => .list []
  | .at k => .list [.int k]
theorem py_due {b : Addr} {M : MH} {d : Due} {x : D} (h : IsDue b M d x) : py M 12 x = some (pyDue d) := by
  cases d with
  | all => rw [show x = .str "all" from h, py_s]; rfl
  | line => rw [show x = .str "line" from h, py_s]; rfl
  | no =>
    obtain ⟨a, rfl, _, e⟩ := h
    simp only [py, rdL_lst e, pys, Option.map_some]; rfl
  | «at» k =>
    obtain ⟨a, rfl, _, e⟩ := h
    simp only [py, rdL_lst e, pys, Option.map_some]; rfl
theorem due_all (d : Due) : PyData.eqv (pyDue d) (.str "all") = decide (d = .all) := by
  cases d with
  | all => exact w_all_all
  | line => exact w_line_all
  | no => simp [pyDue, PyData.eqv]
  | «at» k => simp [pyDue, PyData.eqv]
theorem due_line (d : Due) : PyData.eqv (pyDue d) (.str "line") = decide (d = .line) := by
  cases d with
  | all => exact w_all_line
  | line => exact w_line_line
  | no => simp [pyDue, PyData.eqv]
  | «at» k => simp [pyDue, PyData.eqv]
theorem due_eq (d d' : Due) : PyData.eqv (pyDue d) (pyDue d') = decide (d = d') := by
  cases d with
  | all =>
    cases d' with
    | all => exact w_all_all
    | line => exact w_all_line
    | no => simp [pyDue, PyData.eqv]
    | «at» k => simp [pyDue, PyData.eqv]
  | line =>
    cases d' with
    | all => exact w_line_all
    | line => exact w_line_line
    | no => simp [pyDue, PyData.eqv]
    | «at» k => simp [pyDue, PyData.eqv]
  | no => cases d' <;> simp [pyDue, PyData.eqv, PyData.eqvAll]
  | «at» j =>
    cases d' with
    | all => simp [pyDue, PyData.eqv]
    | line => simp [pyDue, PyData.eqv]
    | no => simp [pyDue, PyData.eqv, PyData.eqvAll]
    | «at» k =>
      simp only [pyDue, PyData.eqv, PyData.eqvAll, Bool.and_true]
      by_cases h : j = k <;> simp [h]
theorem sp_met (n : Nat) (b q : Addr) (cells : List Int) (d1 d2 : Due) (x y : D) (M : MH) (hB : Bag M b q cells) (h1 : IsDue b M d1 x) (h2 : IsDue b M d2 y) (Q : D → MH → Prop)
    (h : ∀ z M', IsDue b M' (d1.met d2) z → Ext M M' → Q z M') : F (n + 1) 51 [x, y] M Q := by
  rw [F_succ (r := f__law_met) rfl]
  refine ⟨rfl, ?_⟩
  simp only [f__law_met, i__law_met]
  have p1 := py_due h1
  have p2 := py_due h2
  rw [denSs_cons]
  walk_at "st"
  simp only [dEq, p1, py_s, due_all]
  by_cases c1 : d1 = .all
  · simp only [decide_eq_true c1, if_true]
    rw [denSs_cons]
    walk_at "st"
    refine h y M ?_ .refl
    subst c1
    exact h2
  simp only [decide_eq_false c1, Bool.false_eq_true, if_false]
  rw [denSs_end, denSs_cons]
  walk_at "st"
  simp only [dEq, p1, p2, py_s, due_all, due_eq]
  by_cases c2 : d2 = .all ∨ d1 = d2
  · have e1 : d1.met d2 = d1 := by
      rcases c2 with rfl | rfl
      · cases d1 <;> rfl
      · cases d1 <;> simp [Due.met]
    have g : ∀ f : Ev → MH → Prop, denSs (F n) T.cs (.cons (.ret (.var 0)) .nil) { nx := f, rt := Q } [some x, some y, none] M := by
      intro f
      rw [denSs_cons]
      walk_at "st"
      exact h x M (by rw [e1]; exact h1) .refl
    by_cases c3 : d2 = .all
    · simp only [decide_eq_true c3, if_true]
      exact g _
    · have c4 : d1 = d2 := by rcases c2 with c | c; exact absurd c c3; exact c
      simp only [decide_eq_false c3, decide_eq_true c4, Bool.false_eq_true, if_false, if_true]
      exact g _
  have c3 : ¬ d2 = .all := fun e => c2 (.inl e)
  have c4 : ¬ d1 = d2 := fun e => c2 (.inr e)
  simp only [decide_eq_false c3, decide_eq_false c4, Bool.false_eq_true, if_false]
  rw [denSs_end, denSs_cons]
  walk_at "st"
  refine ⟨ln2, ?_⟩
  have p1' : py M 11 x = some (pyDue d1) := by
    cases d1 with
    | all => rw [show x = .str "all" from h1, py_s]; rfl
    | line => rw [show x = .str "line" from h1, py_s]; rfl
    | no =>
      obtain ⟨a, rfl, _, e⟩ := h1
      simp only [py, rdL_lst e, pys, Option.map_some]; rfl
    | «at» k =>
      obtain ⟨a, rfl, _, e⟩ := h1
      simp only [py, rdL_lst e, pys, Option.map_some]; rfl
  have p2' : py M 11 y = some (pyDue d2) := by
    cases d2 with
    | all => rw [show y = .str "all" from h2, py_s]; rfl
    | line => rw [show y = .str "line" from h2, py_s]; rfl
    | no =>
      obtain ⟨a, rfl, _, e⟩ := h2
      simp only [py, rdL_lst e, pys, Option.map_some]; rfl
    | «at» k =>
      obtain ⟨a, rfl, _, e⟩ := h2
      simp only [py, rdL_lst e, pys, Option.map_some]; rfl
  simp only [dInB, py_s, py_t, pys, p1', p2', Option.map_some, List.any_cons, List.any_nil, Bool.or_false, due_line, Bool.false_eq_true, if_false]
  by_cases c5 : d1 = .line
  · subst c5
    simp only [decide_true, Bool.true_or, if_true]
    rw [denSs_cons]
    walk_at "st"
    simp only [dEq, p1, py_s, due_line, decide_true, if_true]
    refine h y M ?_ .refl
    cases d2 with
    | all => exact absurd rfl c3
    | line => exact absurd rfl c4
    | no => exact h2
    | «at» k => exact h2
  by_cases c6 : d2 = .line
  · subst c6
    simp only [decide_eq_false c5, decide_true, Bool.or_true, if_true]
    rw [denSs_cons]
    walk_at "st"
    simp only [dEq, p1, py_s, due_line, decide_eq_false c5, Bool.false_eq_true, if_false]
    refine h x M ?_ .refl
    cases d1 with
    | all => exact absurd rfl c1
    | line => exact absurd rfl c4
    | no => exact h1
    | «at» k => exact h1
  simp only [decide_eq_false c5, decide_eq_false c6, Bool.or_false, Bool.false_eq_true, if_false]
  rw [denSs_end, denSs_cons]
  walk_at "st"
  have hno : d1.met d2 = .no := by
    cases d1 with
    | all => exact absurd rfl c1
    | line => exact absurd rfl c5
    | no => cases d2 <;> first | rfl | exact absurd rfl c3 | exact absurd rfl c6
    | «at» j =>
      cases d2 with
      | all => exact absurd rfl c3
      | line => exact absurd rfl c6
      | no => rfl
      | «at» k => exact if_neg fun e => c4 (by rw [e])
  rw [hno] at h
  cases d1 with
  | all => exact absurd rfl c1
  | line => exact absurd rfl c5
  | no =>
    obtain ⟨a, rfl, hab, e⟩ := h1
    simp only [rdL_lst e]
    intro D hD
    refine ⟨?_, h _ _ ⟨D, rfl, hB.ne' hD, up_same⟩ (.up hD)⟩
    exact rdL_lst ((Ext.up hD) a _ e)
  | «at» j =>
    obtain ⟨a, rfl, hab, e⟩ := h1
    simp only [rdL_lst e]
    intro D hD
    have e' := (Ext.up (o := .lst []) hD) a _ e
    refine ⟨rdL_lst e', ?_⟩
    simp only [bindP_nm]
    walk_at "st"
    have p2D : py (up M D (.lst [])) 12 y = some (pyDue d2) := py_due (h2.ext (Ext.up hD).b)
    cases d2 with
    | all => exact absurd rfl c3
    | line => exact absurd rfl c6
    | no =>
      obtain ⟨a2, rfl, hab2, e2⟩ := h2
      simp only [dInB, p2D, py_i, pyDue, List.any_nil, Bool.false_eq_true, if_false]
      exact ⟨rdL_lst e', h _ _ ⟨D, rfl, hB.ne' hD, up_same⟩ (.up hD)⟩
    | «at» k =>
      obtain ⟨a2, rfl, hab2, e2⟩ := h2
      have hk : decide (k = j) = false := decide_eq_false fun q => c4 (by rw [q])
      simp only [dInB, p2D, py_i, pyDue, List.any_cons, List.any_nil, eqv_i, hk, Bool.or_false, Bool.false_eq_true, if_false]
      exact ⟨rdL_lst e', h _ _ ⟨D, rfl, hB.ne' hD, up_same⟩ (.up hD)⟩
end K10

set_option Elab.async false
set_option linter.all false
set_option maxRecDepth 100000
set_option maxHeartbeats 2000000
namespace K10
open PySem Dn
open L2 (atI ixN)
local macro_rules | `(tactic| walk_at "dn") => `(tactic| simp only [denSs, denSt, denE, denEs, denT, denTB, denB, denO, denI, denS, dSeqS, dNext, dRet, dRetN, dDrop, dIfS, dAsg, dTup, dLst, dCons, dNil, dOp, dVar, dC, Cn.d, dBin, dCmp, dF, dTB, dAnd, dOr, dNot, dAndV, dOrV, dNotV, dIf, dChain, dSl, dPart, dNoPart, dMt, dSeq, dRev, dLc, dLc2, dFor, dPar, dSetS, dAug, dAugS, dAsgL, dNeg, dIsi, Bi.den, Mt.den, startE, bindP_nm, bindP_tp, bindPs_nil, bindPs_cons,
  List.map_cons, List.map_nil, List.length_cons, List.length_nil, Nat.reduceAdd, Nat.reduceSub, Nat.zero_add, List.replicate, List.replicate_zero, List.cons_append, List.nil_append, List.append_nil, List.getElem?_cons_zero, List.getElem?_cons_succ, List.set_cons_zero, List.set_cons_succ, Dn.wp, if_true, if_false, Bool.false_eq_true, ite_true, ite_false])
local macro_rules | `(tactic| walk_at "st") => `(tactic| simp only [denSt, denE, denEs, denT, denTB, denB, denO, denI, denS, dSeqS, dNext, dRet, dRetN, dDrop, dIfS, dAsg, dTup, dLst, dCons, dNil, dOp, dVar, dC, Cn.d, dBin, dCmp, dF, dTB, dAnd, dOr, dNot, dAndV, dOrV, dNotV, dIf, dChain, dSl, dPart, dNoPart, dMt, dSeq, dRev, dLc, dLc2, dFor, dPar, dSetS, dAug, dAugS, dAsgL, dNeg, dIsi, Bi.den, Mt.den, startE, bindP_nm, bindP_tp, bindPs_nil, bindPs_cons,
  List.map_cons, List.map_nil, List.length_cons, List.length_nil, Nat.reduceAdd, Nat.reduceSub, Nat.zero_add, List.replicate, List.replicate_zero, List.cons_append, List.nil_append, List.append_nil, List.getElem?_cons_zero, List.getElem?_cons_succ, List.set_cons_zero, List.set_cons_succ, Dn.wp, if_true, if_false, Bool.false_eq_true, ite_true, ite_false])

theorem due_nil (d : Due) : PyData.eqv (pyDue d) (.list []) = decide (d = .no) := due_eq d .no
theorem sp_lot (n : Nat) (b q : Addr) (cells : List Int) (u : List Sp) (hu : Un u) (d : Due) (hd : d.in u) (x : D) (M : MH) (hB : Bag M b q cells) (h1 : IsDue b M d x) (Q : D → MH → Prop)
    (h : ∀ M', Ext M M' → Q (d.lot u).d M') : F (n + 4) 52 [rowD u, x] M Q := by
  rw [F_succ (r := f__law_lot) rfl]
  refine ⟨rfl, ?_⟩
  simp only [f__law_lot, i__law_lot]
  have hul := hu.len
  have p1 := py_due h1
  rw [denSs_cons]
  walk_at "st"
  simp only [dEq, p1, py_s, due_all]
  by_cases c1 : d = .all
  · simp only [decide_eq_true c1, if_true]
    rw [denSs_cons]
    walk_at "st"
    simp only [dEq, p1, py_s, due_all, decide_eq_true c1, if_true]
    subst c1
    exact ⟨ln2, h M .refl⟩
  simp only [decide_eq_false c1, Bool.false_eq_true, if_false]
  refine ⟨ln2, fun p hp => ?_⟩
  have x2 : Ext M (up M p (.lst [])) := .up hp
  have p2 := py_due (h1.ext x2.b)
  have e2 : py (up M p (.lst [])) 12 (.ref p) = some (.list []) := py_nil (rdL_lst up_same)
  have h2 := h1.ext x2.b
  generalize up M p (.lst []) = M2 at x2 p2 e2 h2 ⊢
  simp only [dEq, p2, e2, due_nil]
  by_cases c2 : d = .no
  · simp only [decide_eq_true c2, if_true]
    rw [denSs_cons]
    walk_at "st"
    simp only [dEq, p2, py_s, due_all, decide_eq_false c1, Bool.false_eq_true, if_false]
    subst c2
    exact ⟨ln2, h M2 x2⟩
  simp only [decide_eq_false c2, Bool.false_eq_true, if_false]
  rw [denSs_end, denSs_cons]
  walk_at "st"
  simp only [dEq, p2, py_s, due_line]
  cases d with
  | all => exact absurd rfl c1
  | no => exact absurd rfl c2
  | line =>
    simp only [decide_true, if_true]
    exact ⟨ln2, ln2, h M2 x2⟩
  | «at» k =>
    rw [decide_eq_false (by simp)]
    simp only [Bool.false_eq_true, if_false]
    obtain ⟨a, rfl, _, e⟩ := h2
    rw [dIx_ri (d := .int k) _ e rfl]
    have hk : k.natAbs ≤ 3 * mostOf u := hd
    refine sp_lpower n u k (by omega) (by omega) M2 _ fun M3 x3 => ⟨ln2, h M3 (x2.trans x3)⟩
theorem shows2 (a c : Bool) : (PyData.list [.bool a, .bool c]).showable = true ∧ (PyData.list [.bool a, .bool c]).shown.length ≤ LN := by
  cases a <;> cases c <;> decide +kernel
theorem sp_alike (n : Nat) (p p2 : Addr) (a c : Bool) (M : MH) (e1 : M p = some (.lst [.bl a, .bl c])) (e2 : M p2 = some (.lst [.bl a, .bl c])) (Q : D → MH → Prop) (h : Q (.bl true) M) : F (n + 1) 43 [.ref p, .ref p2] M Q := by
  rw [F_succ (r := f__law_alike) rfl]
  refine ⟨rfl, ?_⟩
  simp only [f__law_alike, i__law_alike]
  have q1 : py M 12 (.ref p) = some (.list [.bool a, .bool c]) := by simp [py, rdL_lst e1, pys]
  have q2 : py M 12 (.ref p2) = some (.list [.bool a, .bool c]) := by simp [py, rdL_lst e2, pys]
  rw [denSs_cons]
  walk_at "st"
  simp only [fRepr, q1, q2]
  refine ⟨shows2 a c, shows2 a c, ?_⟩
  rw [dEq_ss]
  simp only [decide_true]
  simp only [dEq, q1, q2]
  have : PyData.eqv (.list [.bool a, .bool c]) (.list [.bool a, .bool c]) = true := by cases a <;> cases c <;> rfl
  rw [this]
  exact h
end K10

set_option Elab.async false
set_option linter.all false
set_option maxRecDepth 100000
set_option maxHeartbeats 2000000
namespace K10
open PySem Dn
open L2 (atI ixN)
local macro_rules | `(tactic| walk_at "dn") => `(tactic| simp only [denSs, denSt, denE, denEs, denT, denTB, denB, denO, denI, denS, dSeqS, dNext, dRet, dRetN, dDrop, dIfS, dAsg, dTup, dLst, dCons, dNil, dOp, dVar, dC, Cn.d, dBin, dCmp, dF, dTB, dAnd, dOr, dNot, dAndV, dOrV, dNotV, dIf, dChain, dSl, dPart, dNoPart, dMt, dSeq, dRev, dLc, dLc2, dFor, dPar, dSetS, dAug, dAugS, dAsgL, dNeg, dIsi, Bi.den, Mt.den, startE, bindP_nm, bindP_tp, bindPs_nil, bindPs_cons,
  List.map_cons, List.map_nil, List.length_cons, List.length_nil, Nat.reduceAdd, Nat.reduceSub, Nat.zero_add, List.replicate, List.replicate_zero, List.cons_append, List.nil_append, List.append_nil, List.getElem?_cons_zero, List.getElem?_cons_succ, List.set_cons_zero, List.set_cons_succ, Dn.wp, if_true, if_false, Bool.false_eq_true, ite_true, ite_false])
local macro_rules | `(tactic| walk_at "st") => `(tactic| simp only [denSt, denE, denEs, denT, denTB, denB, denO, denI, denS, dSeqS, dNext, dRet, dRetN, dDrop, dIfS, dAsg, dTup, dLst, dCons, dNil, dOp, dVar, dC, Cn.d, dBin, dCmp, dF, dTB, dAnd, dOr, dNot, dAndV, dOrV, dNotV, dIf, dChain, dSl, dPart, dNoPart, dMt, dSeq, dRev, dLc, dLc2, dFor, dPar, dSetS, dAug, dAugS, dAsgL, dNeg, dIsi, Bi.den, Mt.den, startE, bindP_nm, bindP_tp, bindPs_nil, bindPs_cons,
  List.map_cons, List.map_nil, List.length_cons, List.length_nil, Nat.reduceAdd, Nat.reduceSub, Nat.zero_add, List.replicate, List.replicate_zero, List.cons_append, List.nil_append, List.append_nil, List.getElem?_cons_zero, List.getElem?_cons_succ, List.set_cons_zero, List.set_cons_succ, Dn.wp, if_true, if_false, Bool.false_eq_true, ite_true, ite_false])

/-! ### some equations together -/
theorem met_has (d1 d2 : Due) (k : Int) : (d1.met d2).has k ↔ d1.has k ∧ d2.has k := by
  cases d1 <;> cases d2 <;> simp [Due.met, Due.has]
  rename_i i j
  by_cases h : i = j
  · subst h; simp [Due.has]
  · rw [if_neg h]; simp only [Due.has, false_iff]; omega
theorem met_all (d1 d2 : Due) : d1.met d2 = .all ↔ d1 = .all ∧ d2 = .all := by
  cases d1 <;> cases d2 <;> simp [Due.met]
  rename_i i j
  by_cases h : i = j <;> simp [h]
structure Eq1 where
  e : Eqn
  d : Due
  x : D
def Eq1.it (t : Eq1) : D := .tup [t.e.d, t.x]
def duesOf (d : Due) (ts : List Eq1) : Due := ts.foldl (fun d t => d.met t.d) d
theorem solve_good {u : List Sp} (hu : Un u) : ∀ (ts : List Eq1) (d0 : Due) (l0 : Lot), IsLot u d0 l0 → d0.in u → (∀ t ∈ ts, Good u t.e t.d) →
    Clear l0 (ts.map (·.e)) ∧ IsLot u (duesOf d0 ts) (solveFrom l0 (ts.map (·.e))) ∧ (duesOf d0 ts).in u
  | [], d0, l0, h, hi, _ => ⟨trivial, h, hi⟩
  | t :: ts, d0, l0, h, hi, hg => by
    have g := hg t List.mem_cons_self
    obtain ⟨b1, b2, b3⟩ := isLot_both hu h g.lot hi g.inn
    obtain ⟨i1, i2, i3⟩ := solve_good hu ts (d0.met t.d) (l0.both (single t.e)) b1 b3 fun t' ht => hg t' (List.mem_cons_of_mem _ ht)
    exact ⟨⟨g.ok, g.clear, (isLot_ok hu h hi).1, (isLot_ok hu g.lot g.inn).1, b2, i1⟩, i2, i3⟩
theorem dues_has (k : Int) : ∀ (ts : List Eq1) (d0 : Due), (duesOf d0 ts).has k ↔ d0.has k ∧ ∀ t ∈ ts, t.d.has k
  | [], d0 => by simp [duesOf]
  | t :: ts, d0 => by
    have ih := dues_has k ts (d0.met t.d)
    rw [show duesOf d0 (t :: ts) = duesOf (d0.met t.d) ts from rfl, ih, met_has]
    simp only [List.mem_cons, forall_eq_or_imp]
    exact and_assoc
theorem dues_all : ∀ (ts : List Eq1) (d0 : Due), duesOf d0 ts = .all ↔ d0 = .all ∧ ∀ t ∈ ts, t.d = .all
  | [], d0 => by simp [duesOf]
  | t :: ts, d0 => by
    have ih := dues_all ts (d0.met t.d)
    rw [show duesOf d0 (t :: ts) = duesOf (d0.met t.d) ts from rfl, ih, met_all]
    simp only [List.mem_cons, forall_eq_or_imp]
    exact and_assoc
theorem solves_pow {u : List Sp} (hu : Un u) (ts : List Eq1) (hg : ∀ t ∈ ts, Good u t.e t.d) (k : Int) (hk : k.natAbs ≤ 3 * mostOf u) : solves (ts.map (·.e)) (red (upw u k)) = decide ((duesOf .all ts).has k) := by
  unfold solves
  rw [List.all_map]
  by_cases h : (duesOf .all ts).has k
  · rw [decide_eq_true h, List.all_eq_true]
    intro t ht
    exact decide_eq_true (((hg t ht).sol k hk).mpr (((dues_has k ts .all).mp h).2 t ht))
  · rw [decide_eq_false h, ← Bool.not_eq_true, List.all_eq_true]
    intro q
    exact h ((dues_has k ts .all).mpr ⟨trivial, fun t ht => ((hg t ht).sol k hk).mp (of_decide_eq_true (q t ht))⟩)
theorem solves_odd {u : List Sp} (hu : Un u) (ts : List Eq1) (hg : ∀ t ∈ ts, Good u t.e t.d) : solves (ts.map (·.e)) (oddR u) = decide (duesOf .all ts = .all) := by
  unfold solves
  rw [List.all_map]
  by_cases h : duesOf .all ts = .all
  · rw [decide_eq_true h, List.all_eq_true]
    intro t ht
    exact decide_eq_true (((hg t ht).odd).mpr (((dues_all ts .all).mp h).2 t ht))
  · rw [decide_eq_false h, ← Bool.not_eq_true, List.all_eq_true]
    intro q
    exact h ((dues_all ts .all).mpr ⟨rfl, fun t ht => ((hg t ht).odd).mp (of_decide_eq_true (q t ht))⟩)
/-! ### values alike -/
theorem eqv_rowself (r : List Sp) : PyData.eqv (.tuple (r.map spP)) (.tuple (r.map spP)) = true := by rw [eqv_row]; exact decide_eq_true rfl
theorem eqv_sself (s : Str) : PyData.eqv (.str s) (.str s) = true := by rw [eqv_s]; exact decide_eq_true rfl
theorem eqv_iself (s : Int) : PyData.eqv (.int s) (.int s) = true := by rw [eqv_i]; exact decide_eq_true rfl
theorem eqn_self (e : Eqn) : PyData.eqv e.p e.p = true := by
  cases e <;> simp only [Eqn.p] <;> rw [PyData.eqv] <;> simp only [PyData.eqvAll, eqv_rowself, eqv_sself, eqv_iself, Bool.and_true]
theorem eqns_self : ∀ es : List Eqn, PyData.eqvAll (es.map Eqn.p) (es.map Eqn.p) = true
  | [] => rfl
  | e :: es => by rw [List.map_cons, PyData.eqvAll, eqn_self, eqns_self es]; rfl
theorem whole_ne (es : List Eqn) (M : MH) (Q : D → MH → Prop) (h : Q (.bl false) M) : dNe (wholeD es) (wholeD es) M Q := by
  unfold dNe
  by_cases h1 : ∃ e, es = [e]
  · obtain ⟨e, rfl⟩ := h1
    have : py M 12 (wholeD [e]) = some e.p := py_eqn M 8 e
    simp only [this, eqn_self]
    exact h
  · have hw : wholeD es = .tup (.str "both" :: es.map Eqn.d) := by
      cases es with
      | nil => rfl
      | cons e es => cases es with
        | nil => exact absurd ⟨e, rfl⟩ h1
        | cons e2 es => rfl
    have : py M 12 (wholeD es) = some (.tuple (.str "both" :: es.map Eqn.p)) := by rw [hw]; exact py_both M es
    simp only [this]
    rw [PyData.eqv, PyData.eqvAll, eqv_sself, eqns_self]
    exact h
def Lot.wd : Lot → Str
  | .all => "all"
  | .none => "none"
  | .one _ => "one"
  | .line _ _ => "line"
def Lot.tl : Lot → List D
  | .all => []
  | .none => []
  | .one r => [rowD r]
  | .line s t => [rowD s, rowD t]
theorem Lot.d_eq (l : Lot) : l.d = .tup (.str l.wd :: l.tl) := by cases l <;> rfl
theorem isLot_wd {u : List Sp} {d : Due} {l : Lot} (hl : IsLot u d l) : l.wd = (d.lot u).wd := by
  cases d <;> simp only [IsLot] at hl
  · subst hl; rfl
  · rcases hl with rfl | rfl <;> rfl
  · subst hl; rfl
  · subst hl; rfl
theorem all_due (d : Due) : PyData.eqv (.str "all") (pyDue d) = decide (d = .all) := by
  cases d with
  | all => exact w_all_all
  | line => exact w_all_line
  | no => simp [pyDue, PyData.eqv]
  | «at» k => simp [pyDue, PyData.eqv]
theorem line_due (d : Due) : PyData.eqv (.str "line") (pyDue d) = decide (d = .line) := by
  cases d with
  | all => exact w_line_all
  | line => exact w_line_line
  | no => simp [pyDue, PyData.eqv]
  | «at» k => simp [pyDue, PyData.eqv]
theorem isTrue_t (M : MH) (Q : D → MH → Prop) : dIs true (.bl true) (.bl true) M Q = Q (.bl false) M := by
  simp [dIs]
end K10

set_option Elab.async false
set_option linter.all false
set_option maxRecDepth 100000
set_option maxHeartbeats 2000000
namespace K10
open PySem Dn
open L2 (atI ixN)
local macro_rules | `(tactic| walk_at "dn") => `(tactic| simp only [denSs, denSt, denE, denEs, denT, denTB, denB, denO, denI, denS, dSeqS, dNext, dRet, dRetN, dDrop, dIfS, dAsg, dTup, dLst, dCons, dNil, dOp, dVar, dC, Cn.d, dBin, dCmp, dF, dTB, dAnd, dOr, dNot, dAndV, dOrV, dNotV, dIf, dChain, dSl, dPart, dNoPart, dMt, dSeq, dRev, dLc, dLc2, dFor, dPar, dSetS, dAug, dAugS, dAsgL, dNeg, dIsi, Bi.den, Mt.den, startE, bindP_nm, bindP_tp, bindPs_nil, bindPs_cons,
  List.map_cons, List.map_nil, List.length_cons, List.length_nil, Nat.reduceAdd, Nat.reduceSub, Nat.zero_add, List.replicate, List.replicate_zero, List.cons_append, List.nil_append, List.append_nil, List.getElem?_cons_zero, List.getElem?_cons_succ, List.set_cons_zero, List.set_cons_succ, Dn.wp, if_true, if_false, Bool.false_eq_true, ite_true, ite_false])
local macro_rules | `(tactic| walk_at "st") => `(tactic| simp only [denSt, denE, denEs, denT, denTB, denB, denO, denI, denS, dSeqS, dNext, dRet, dRetN, dDrop, dIfS, dAsg, dTup, dLst, dCons, dNil, dOp, dVar, dC, Cn.d, dBin, dCmp, dF, dTB, dAnd, dOr, dNot, dAndV, dOrV, dNotV, dIf, dChain, dSl, dPart, dNoPart, dMt, dSeq, dRev, dLc, dLc2, dFor, dPar, dSetS, dAug, dAugS, dAsgL, dNeg, dIsi, Bi.den, Mt.den, startE, bindP_nm, bindP_tp, bindPs_nil, bindPs_cons,
  List.map_cons, List.map_nil, List.length_cons, List.length_nil, Nat.reduceAdd, Nat.reduceSub, Nat.zero_add, List.replicate, List.replicate_zero, List.cons_append, List.nil_append, List.append_nil, List.getElem?_cons_zero, List.getElem?_cons_succ, List.set_cons_zero, List.set_cons_succ, Dn.wp, if_true, if_false, Bool.false_eq_true, ite_true, ite_false])

def b_eq : Stms := (.cons (.asg (.nm 8) (.call 51 (.cons (.var 8) (.cons (.var 14) .nil))))
  (.cons (.asg (.nm 10) (.call 39 (.cons (.var 13) .nil)))
  (.cons (.ite (.bop false (.cons (.cmp .NotEq (.call 33 (.cons (.var 13) .nil)) (.var 13)) (.cons (.cmp .IsNot (.call 21 (.cons (.var 10) .nil)) (.cst (.bl true))) (.cons (.cmp .IsNot (.call 25 (.cons (.var 10) (.cons (.call 52 (.cons (.var 5) (.cons (.var 14) .nil))) .nil))) (.cst (.bl true))) (.cons (.cmp .NotEq (.ix (.var 10) (.cst (.int 0))) (.ix (.call 52 (.cons (.var 5) (.cons (.var 14) .nil))) (.cst (.int 0)))) .nil))))) (.cons (.ret (.cst (.bl false))) .nil) .nil)
  .nil)))
def b_k : Stms := (.cons (.asg (.nm 16) (.call 48 (.cons (.var 5) (.cons (.var 11) .nil))))
  (.cons (.asg (.nm 17) (.bop false (.cons (.cmp .In (.var 8) (.tup (.cons (.cst (.str "all")) (.cons (.cst (.str "line")) .nil)))) (.cons (.cmp .In (.var 11) (.var 8)) .nil))))
  (.cons (.ite (.not_ (.call 43 (.cons (.lst (.cons (.call 35 (.cons (.var 9) (.cons (.var 16) .nil))) (.cons (.call 23 (.cons (.var 10) (.cons (.bin .Add (.var 16) (.tup (.cons (.var 3) (.cons (.tup (.cons (.cst (.str "a")) (.cons (.neg (.cst (.int 1))) .nil))) .nil)))) .nil))) .nil))) (.cons (.lst (.cons (.var 17) (.cons (.var 17) .nil))) .nil)))) (.cons (.ret (.cst (.bl false))) .nil) .nil)
  .nil)))
def st0 : Stm := (.asg (.nm 5) (.call 42 (.cons (.var 1) (.cons (.lst (.cons (.tup (.cons (.var 3) .nil)) (.cons (.tup (.cons (.tup (.cons (.cst (.str "a")) (.cons (.neg (.cst (.int 1))) .nil))) .nil)) (.cons (.tup (.cons (.var 3) (.cons (.var 4) .nil))) (.cons (.tup (.cons (.var 3) (.cons (.var 4) (.cons (.var 3) (.cons (.tup (.cons (.cst (.str "b")) (.cons (.neg (.cst (.int 1))) .nil))) .nil))))) (.cons (.tup (.cons (.var 4) (.cons (.var 3) (.cons (.tup (.cons (.cst (.str "b")) (.cons (.neg (.cst (.int 1))) .nil))) .nil)))) (.cons (.tup (.cons (.var 3) (.cons (.var 3) (.cons (.var 4) .nil)))) .nil))))))) .nil))))
def st1 : Stm := (.asg (.nm 6) (.bin .FloorDiv (.cst (.int 50)) (.bin .Mult (.cst (.int 3)) (.bi .len (.cons (.var 5) .nil)))))
def st2 : Stm := (.ite (.cmp .NotEq (.call 18 (.cons (.call 48 (.cons (.var 5) (.cons (.cst (.int 3)) .nil))) .nil)) (.tup (.cons (.var 5) (.cons (.cst (.int 3)) .nil)))) (.cons (.ret (.cst (.bl false))) .nil) .nil)
def st3 : Stm := (.asg (.nm 7) (.lc (.rng1 (.bin .Add (.cst (.int 1)) (.call 41 (.cons (.var 1) (.cons (.cst (.int 3)) .nil))))) (.nm 11) .non (.call 50 (.cons (.var 1) (.cons (.var 5) (.cons (.var 6) .nil)))) [("k", 11)]))
def st4 : Stm := (.asg (.nm 8) (.cst (.str "all")))
def st5 : Stm := (.for_ (.seq (.var 7)) (.tp (.cons (.nm 13) (.cons (.nm 14) .nil))) b_eq)
def st6 : Stm := (.asg (.nm 9) (.ite (.cmp .Eq (.bi .len (.cons (.var 7) .nil)) (.cst (.int 1))) (.ix (.ix (.var 7) (.cst (.int 0))) (.cst (.int 0))) (.bin .Add (.tup (.cons (.cst (.str "both")) .nil)) (.bi .tuple (.cons (.lc (.seq (.var 7)) (.tp (.cons (.nm 13) (.cons (.nm 14) .nil))) .non (.var 13) [("equation", 13), ("its", 14)]) .nil)))))
def st7 : Stm := (.asg (.nm 10) (.call 39 (.cons (.var 9) .nil)))
def st8 : Stm := (.ite (.bop false (.cons (.cmp .NotEq (.call 33 (.cons (.var 9) .nil)) (.var 9)) (.cons (.cmp .NotEq (.ix (.var 10) (.cst (.int 0))) (.ix (.call 52 (.cons (.var 5) (.cons (.var 8) .nil))) (.cst (.int 0)))) (.cons (.cmp .IsNot (.call 25 (.cons (.var 10) (.cons (.call 52 (.cons (.var 5) (.cons (.var 8) .nil))) .nil))) (.cst (.bl true))) .nil)))) (.cons (.ret (.cst (.bl false))) .nil) .nil)
def st9 : Stm := (.ite (.cmp .Gt (.bi .len (.cons (.var 7) .nil)) (.cst (.int 1))) (.cons (.asg (.nm 15) (.call 27 (.cons (.call 39 (.cons (.ix (.ix (.var 7) (.cst (.int 0))) (.cst (.int 0))) .nil)) (.cons (.call 39 (.cons (.ix (.ix (.var 7) (.cst (.int 1))) (.cst (.int 0))) .nil)) .nil)))) (.cons (.ite (.cmp .IsNot (.call 25 (.cons (.var 15) (.cons (.call 52 (.cons (.var 5) (.cons (.call 51 (.cons (.ix (.ix (.var 7) (.cst (.int 0))) (.cst (.int 1))) (.cons (.ix (.ix (.var 7) (.cst (.int 1))) (.cst (.int 1))) .nil))) .nil))) .nil))) (.cst (.bl true))) (.cons (.ret (.cst (.bl false))) .nil) .nil) .nil)) .nil)
def st10 : Stm := (.for_ (.seq (.bin .Add (.tup (.cons (.cst (.int 0)) (.cons (.cst (.int 1)) (.cons (.neg (.cst (.int 1))) (.cons (.bin .Sub (.call 41 (.cons (.var 1) (.cons (.bin .Add (.bin .Mult (.cst (.int 2)) (.var 6)) (.cst (.int 1))) .nil))) (.var 6)) .nil))))) (.bi .tuple (.cons (.ite (.isi "list" (.var 8)) (.sl (.var 8) .non (.som (.cst (.int 1)))) (.lst .nil)) .nil)))) (.nm 11) b_k)
def st11 : Stm := (.asg (.nm 12) (.bin .Add (.call 48 (.cons (.var 5) (.cons (.cst (.int 1)) .nil))) (.tup (.cons (.tup (.cons (.cst (.str "c")) (.cons (.cst (.int 1)) .nil))) .nil))))
def st12 : Stm := (.ite (.not_ (.call 43 (.cons (.lst (.cons (.call 35 (.cons (.var 9) (.cons (.var 12) .nil))) (.cons (.call 23 (.cons (.var 10) (.cons (.var 12) .nil))) .nil))) (.cons (.bin .Mult (.lst (.cons (.cmp .Eq (.var 8) (.cst (.str "all"))) .nil)) (.cst (.int 2))) .nil)))) (.cons (.ret (.cst (.bl false))) .nil) .nil)
def st13 : Stm := (.ite (.bop true (.cons (.cmp .Eq (.ix (.var 10) (.cst (.int 0))) (.cst (.str "line"))) (.cons (.cmp .NotEq (.lc (.seq (.tup (.cons (.neg (.cst (.int 3))) (.cons (.cst (.int 0)) (.cons (.cst (.int 4)) .nil))))) (.nm 18) (.som (.cmp .IsNot (.call 35 (.cons (.var 9) (.cons (.call 24 (.cons (.var 10) (.cons (.var 18) .nil))) .nil))) (.cst (.bl true)))) (.var 18) [("n", 18)]) (.lst .nil)) .nil))) (.cons (.ret (.cst (.bl false))) .nil) .nil)
def b_lap : Stms := (.cons st0 (.cons st1 (.cons st2 (.cons st3 (.cons st4 (.cons st5 (.cons st6 (.cons st7 (.cons st8 (.cons st9 (.cons st10 (.cons st11 (.cons st12 (.cons st13 .nil))))))))))))))
theorem i_law_eq : i_law = (.cons (.asg (.nm 1) (.call 40 (.cons (.var 0) .nil)))
  (.cons (.asg (.tp (.cons (.nm 3) (.cons (.nm 4) .nil))) (.tup (.cons (.tup (.cons (.cst (.str "a")) (.cons (.cst (.int 1)) .nil))) (.cons (.tup (.cons (.cst (.str "b")) (.cons (.cst (.int 1)) .nil))) .nil))))
  (.cons (.for_ (.rng1 (.cst (.int 4))) (.nm 2) b_lap)
  (.cons (.ret (.cst (.bl true)))
  .nil)))) := rfl
abbrev e19 (s lap : D) (b : Addr) (u : List Sp) (sm : Addr) (w8 w9 w10 w11 w12 w13 w14 w15 w16 w17 w18 : Option D) : Ev := [some s, some (.ref b), some lap, some (spD ("a", 1)), some (spD ("b", 1)), some (rowD u), some (.int (mostOf u)), some (.ref sm), w8, w9, w10, w11, w12, w13, w14, w15, w16, w17, w18]
theorem lot_ix (l : Lot) (M : MH) (Q : D → MH → Prop) : dIx l.d (.int 0) M Q = Q (.str l.wd) M := by
  rw [l.d_eq]
  exact dIx_ti _ _ (at0c _ _)
theorem dNe_sself (s : Str) (M : MH) (Q : D → MH → Prop) : dNe (.str s) (.str s) M Q = Q (.bl false) M := by
  simp only [dNe, py_s, eqv_sself]
  rfl
theorem solve_one (e : Eqn) : solveFrom .all [e] = single e := by
  simp only [solveFrom]
  cases single e <;> rfl
/-- the loop over the equations -/
theorem loop_eq {G : MH → Prop} {u : List Sp} (hu : Un u) (b q : Addr) (cells : List Int) (E : En) (s lap : D) (sm : Addr) (w9 w11 w12 w15 w16 w17 w18 : Option D) : ∀ (ts : List Eq1) (d0 : Due) (x0 : D) (w10 w13 w14 : Option D) (M : MH), Bag M b q cells → (∀ t ∈ ts, Good u t.e t.d ∧ IsDue b M t.d t.x) → IsDue b M d0 x0 → d0.in u → (∀ M', Ext M M' → G M') →
    (∀ w10 w13 w14 x M', IsDue b M' (duesOf d0 ts) x → Ext M M' → E.nx (e19 s lap b u sm (some x) w9 w10 w11 w12 w13 w14 w15 w16 w17 w18) M') →
    dLoop (.tp (.cons (.nm 13) (.cons (.nm 14) .nil))) (denSs (F 19) T.cs b_eq) G E (ts.map Eq1.it) (e19 s lap b u sm (some x0) w9 w10 w11 w12 w13 w14 w15 w16 w17 w18) M
  | [], d0, x0, w10, w13, w14, M, hB, hts, hx, hi, hG, k => ⟨hG M .refl, k w10 w13 w14 x0 M hx .refl⟩
  | t :: ts, d0, x0, w10, w13, w14, M, hB, hts, hx, hi, hG, k => by
    have ih := loop_eq (G := G) hu b q cells E s lap sm w9 w11 w12 w15 w16 w17 w18 ts
    obtain ⟨hg, ht⟩ := hts t List.mem_cons_self
    rw [List.map_cons]
    refine ⟨hG M .refl, ?_⟩
    simp only [Eq1.it, bindP_tp, bindPs_cons, bindPs_nil, bindP_nm, List.set_cons_zero, List.set_cons_succ]
    generalize hL : dLoop _ (denSs (F 19) T.cs b_eq) G E (List.map _ ts) = L at ih ⊢
    rw [b_eq, denSs_cons]
    walk_at "st"
    refine sp_met 18 b q cells d0 t.d x0 t.x M hB hx ht _ fun z M1 hz x1 => ?_
    rw [denSs_cons]
    walk_at "st"
    have hs := solve_good hu [t] .all .all rfl trivial fun t' h' => by rw [List.mem_singleton] at h'; rw [h']; exact hg
    have he : solveFrom .all (List.map (·.e) [t]) = single t.e := solve_one t.e
    refine sp_solutions 10 [t.e] (by simp) hs.1 M1 _ fun M2 x2 => ?_
    rw [show solveFrom .all [t.e] = single t.e from solve_one t.e]
    have hB2 := (hB.ext x1).ext x2
    have hok := isLot_ok hu hg.lot hg.inn
    have ht2 := ht.ext (x1.trans x2).b
    rw [denSs_cons]
    walk_at "st"
    refine sp_checked 13 [t.e] (by simp) (fun e he => by rw [List.mem_singleton] at he; rw [he]; exact hg.ok) M2 _ fun M3 x3 => ?_
    refine whole_ne [t.e] M3 _ ?_
    simp only [Bool.false_eq_true, if_false]
    refine sp_is_lot 13 _ hok.2 M3 _ fun M4 x4 => ?_
    rw [isTrue_t]
    simp only [Bool.false_eq_true, if_false]
    have x24 := x3.trans x4
    refine sp_lot 15 b q cells u hu t.d hg.inn t.x M4 (hB2.ext x24) (ht2.ext x24.b) _ fun M5 x5 => ?_
    have hlo := isLot_ok hu (isLot_lot u t.d) hg.inn
    refine sp_are_same 12 (single t.e) (t.d.lot u) hok.1 hlo.1 M5 _ fun M6 x6 => ?_
    rw [isLot_same hu hg.lot, isTrue_t]
    simp only [Bool.false_eq_true, if_false]
    rw [lot_ix]
    have x26 := (x24.trans x5).trans x6
    refine sp_lot 15 b q cells u hu t.d hg.inn t.x M6 (hB2.ext x26) (ht2.ext x26.b) _ fun M7 x7 => ?_
    rw [lot_ix, isLot_wd hg.lot, dNe_sself]
    simp only [Bool.false_eq_true, if_false]
    rw [denSs_end, denSs_end]
    have X : Ext M M7 := x1.trans (x2.trans (x26.trans x7))
    have hmi : (d0.met t.d).in u := (isLot_both hu (isLot_lot u d0) (isLot_lot u t.d) hi hg.inn).2.2
    refine ih (d0.met t.d) z _ _ _ M7 (hB.ext X) (fun t' h' => ?_) (hz.ext ((x2.trans x26).trans x7).b) hmi (fun M' x' => hG M' (X.trans x')) fun w10 w13 w14 x M' hx' x' => k w10 w13 w14 x M' hx' (X.trans x')
    obtain ⟨g1, g2⟩ := hts t' (List.mem_cons_of_mem _ h')
    exact ⟨g1, g2.ext X.b⟩
end K10

set_option Elab.async false
set_option linter.all false
set_option maxRecDepth 100000
set_option maxHeartbeats 2000000
namespace K10
open PySem Dn
open L2 (atI ixN)
local macro_rules | `(tactic| walk_at "dn") => `(tactic| simp only [denSs, denSt, denE, denEs, denT, denTB, denB, denO, denI, denS, dSeqS, dNext, dRet, dRetN, dDrop, dIfS, dAsg, dTup, dLst, dCons, dNil, dOp, dVar, dC, Cn.d, dBin, dCmp, dF, dTB, dAnd, dOr, dNot, dAndV, dOrV, dNotV, dIf, dChain, dSl, dPart, dNoPart, dMt, dSeq, dRev, dLc, dLc2, dFor, dPar, dSetS, dAug, dAugS, dAsgL, dNeg, dIsi, Bi.den, Mt.den, startE, bindP_nm, bindP_tp, bindPs_nil, bindPs_cons,
  List.map_cons, List.map_nil, List.length_cons, List.length_nil, Nat.reduceAdd, Nat.reduceSub, Nat.zero_add, List.replicate, List.replicate_zero, List.cons_append, List.nil_append, List.append_nil, List.getElem?_cons_zero, List.getElem?_cons_succ, List.set_cons_zero, List.set_cons_succ, Dn.wp, if_true, if_false, Bool.false_eq_true, ite_true, ite_false])
local macro_rules | `(tactic| walk_at "st") => `(tactic| simp only [denSt, denE, denEs, denT, denTB, denB, denO, denI, denS, dSeqS, dNext, dRet, dRetN, dDrop, dIfS, dAsg, dTup, dLst, dCons, dNil, dOp, dVar, dC, Cn.d, dBin, dCmp, dF, dTB, dAnd, dOr, dNot, dAndV, dOrV, dNotV, dIf, dChain, dSl, dPart, dNoPart, dMt, dSeq, dRev, dLc, dLc2, dFor, dPar, dSetS, dAug, dAugS, dAsgL, dNeg, dIsi, Bi.den, Mt.den, startE, bindP_nm, bindP_tp, bindPs_nil, bindPs_cons,
  List.map_cons, List.map_nil, List.length_cons, List.length_nil, Nat.reduceAdd, Nat.reduceSub, Nat.zero_add, List.replicate, List.replicate_zero, List.cons_append, List.nil_append, List.append_nil, List.getElem?_cons_zero, List.getElem?_cons_succ, List.set_cons_zero, List.set_cons_succ, Dn.wp, if_true, if_false, Bool.false_eq_true, ite_true, ite_false])

theorem str_a : ("a" : Str) = ⟨#[97]⟩ := by decide +kernel
theorem str_b : ("b" : Str) = ⟨#[98]⟩ := by decide +kernel
theorem str_c : ("c" : Str) = ⟨#[99]⟩ := by decide +kernel
/-- x is one of the numbers due -/
theorem due_in_all (b : Addr) (M : MH) (d : Due) (x : D) (h : IsDue b M d x) (Q : D → MH → Prop) : dInB false x (.tup [.str "all", .str "line"]) M Q = Q (.bl (decide (d = .all) || decide (d = .line))) M := by
  have e : py M 12 (D.tup [.str "all", .str "line"]) = some (.tuple [.str "all", .str "line"]) := by
    simp only [py_t, pys, py_s, Option.map_some]
  simp only [dInB, py_due h, e, List.any_cons, List.any_nil, Bool.or_false, all_due, line_due, Bool.false_eq_true, if_false]
theorem due_in_lst (b : Addr) (M : MH) (d : Due) (x : D) (h : IsDue b M d x) (k : Int) (h1 : d ≠ .all) (h2 : d ≠ .line) (Q : D → MH → Prop) : dInB false (.int k) x M Q = Q (.bl (decide (d.has k))) M := by
  have hp := py_due h
  cases d with
  | all => exact absurd rfl h1
  | line => exact absurd rfl h2
  | no =>
    obtain ⟨a, rfl, _, e⟩ := h
    have e2 : decide (Due.no.has k) = false := decide_eq_false fun h => h
    rw [e2]
    simp only [dInB, py_i, hp, pyDue, List.any_nil, Bool.false_eq_true, if_false]
  | «at» j =>
    obtain ⟨a, rfl, _, e⟩ := h
    have e2 : decide ((Due.at j).has k) = decide (j = k) := decide_eq_decide.mpr ⟨fun h => Eq.symm h, fun h => Eq.symm h⟩
    rw [e2]
    simp only [dInB, py_i, hp, pyDue, List.any_cons, List.any_nil, eqv_i, Bool.or_false, Bool.false_eq_true, if_false]
theorem red_tail (x : List Sp) (y : List Sp) (h : red y = []) : red (x ++ y) = red x := by
  have := red_left x (y := y) (y' := []) (by rw [h]; rfl)
  simpa using this
theorem red_aa : red [(("a" : Str), 1), (("a" : Str), -1)] = [] := by
  have : [(("a" : Str), (1 : Int)), (("a" : Str), -1)] = [(("a" : Str), 1)] ++ undo [(("a" : Str), 1)] := rfl
  rw [this, red_undo_self]
/-- the loop over the numbers -/
theorem loop_k {G : MH → Prop} {u : List Sp} (hu : Un u) (b q : Addr) (cells : List Int) (E : En) (s lap : D) (sm : Addr) (ts : List Eq1) (hl : 1 ≤ ts.length ∧ ts.length ≤ 3) (hg : ∀ t ∈ ts, Good u t.e t.d) (l : Lot) (hlot : IsLot u (duesOf .all ts) l) (hin : (duesOf .all ts).in u) (x : D) (w12 w13 w14 w15 w18 : Option D) :
    ∀ (ks : List Int) (w11 w16 w17 : Option D) (M : MH), (∀ k ∈ ks, k.natAbs ≤ 3 * mostOf u) → Bag M b q cells → IsDue b M (duesOf .all ts) x → (∀ M', Ext M M' → G M') →
    (∀ w11 w16 w17 M', Ext M M' → E.nx (e19 s lap b u sm (some x) (some (wholeD (ts.map (·.e)))) (some l.d) w11 w12 w13 w14 w15 w16 w17 w18) M') →
    dLoop (.nm 11) (denSs (F 19) T.cs b_k) G E (ks.map D.int) (e19 s lap b u sm (some x) (some (wholeD (ts.map (·.e)))) (some l.d) w11 w12 w13 w14 w15 w16 w17 w18) M
  | [], w11, w16, w17, M, hks, hB, hx, hG, k => ⟨hG M .refl, k w11 w16 w17 M .refl⟩
  | k :: ks, w11, w16, w17, M, hks, hB, hx, hG, kk => by
    have ih := loop_k (G := G) hu b q cells E s lap sm ts hl hg l hlot hin x w12 w13 w14 w15 w18 ks
    have hk := hks k List.mem_cons_self
    have hul := hu.len
    rw [List.map_cons]
    refine ⟨hG M .refl, ?_⟩
    simp only [bindP_nm, List.set_cons_zero, List.set_cons_succ]
    generalize hL : dLoop _ (denSs (F 19) T.cs b_k) G E (List.map _ ks) = L at ih ⊢
    rw [b_k, denSs_cons]
    walk_at "st"
    refine sp_lpower 16 u k (by omega) (by omega) M _ fun M1 x1 => ?_
    have hx1 := hx.ext x1.b
    rw [denSs_cons]
    walk_at "st"
    refine ⟨ln2, ?_⟩
    rw [due_in_all b M1 _ x hx1]
    have hrl := hu.red_len k hk
    -- behind the second statement
    have rest : ∀ (M2 : MH), Ext M M2 → denSs (F 19) T.cs (.cons (.ite (.not_ (.call 43 (.cons (.lst (.cons (.call 35 (.cons (.var 9) (.cons (.var 16) .nil))) (.cons (.call 23 (.cons (.var 10) (.cons (.bin .Add (.var 16) (.tup (.cons (.var 3) (.cons (.tup (.cons (.cst (.str "a")) (.cons (.neg (.cst (.int 1))) .nil))) .nil)))) .nil))) .nil))) (.cons (.lst (.cons (.var 17) (.cons (.var 17) .nil))) .nil)))) (.cons (.ret (.cst (.bl false))) .nil) .nil)
  .nil) { nx := L, rt := E.rt, bk := E.nx, ct := L } (e19 s lap b u sm (some x) (some (wholeD (ts.map (·.e)))) (some l.d) (some (.int k)) w12 w13 w14 w15 (some (rowD (red (upw u k)))) (some (.bl (decide ((duesOf .all ts).has k)))) w18) M2 := by
      intro M2 x2
      rw [denSs_cons]
      walk_at "st"
      refine sp_is_solution 13 (ts.map (·.e)) (red (upw u k)) (by simpa using hl) (fun e he => ?_) (by omega) M2 _ fun M3 x3 => ?_
      · rw [List.mem_map] at he
        obtain ⟨t, ht, rfl⟩ := he
        exact (hg t ht).ok
      refine ⟨ln2, ln2, ?_⟩
      simp only [rowD]
      rw [dAdd_tt]
      refine ⟨by simp only [List.length_map, List.length_cons, List.length_nil]; show _ ≤ 16777216; omega, ?_⟩
      have e1 : D.tup (List.map spD (red (upw u k)) ++ [spD ("a", 1), .tup [.str "a", .int (-1)]]) = rowD (red (upw u k) ++ ([(("a" : Str), 1), (("a" : Str), -1)] : List Sp)) := by
        simp [rowD, spD]
      rw [e1]
      have hok := isLot_ok hu hlot hin
      refine sp_has_row 13 l _ hok.1 (by rw [List.length_append]; simp only [List.length_cons, List.length_nil]; omega) M3 _ fun M4 x4 => ?_
      have e2 : hasL l (red (upw u k) ++ ([(("a" : Str), 1), (("a" : Str), -1)] : List Sp)) = decide ((duesOf .all ts).has k) := hasL_pow hu hlot k hk (by rw [red_tail _ _ red_aa, red_red])
      rw [e2, solves_pow hu ts hg k hk]
      refine ⟨ln2, fun p hp => ⟨ln2, fun p2 hp2 => ?_⟩⟩
      have hne : p ≠ p2 := by
        rintro rfl
        rw [up_same] at hp2
        cases hp2
      refine sp_alike 18 p p2 (decide ((duesOf .all ts).has k)) (decide ((duesOf .all ts).has k)) _ (by rw [up_ne hne]; exact up_same) up_same _ ?_
      simp only [Bool.not_true, Bool.false_eq_true, if_false]
      rw [denSs_end, denSs_end]
      have X : Ext M (up (up M4 p (.lst [.bl (decide ((duesOf .all ts).has k)), .bl (decide ((duesOf .all ts).has k))])) p2 (.lst [.bl (decide ((duesOf .all ts).has k)), .bl (decide ((duesOf .all ts).has k))])) := (x2.trans (x3.trans x4)).trans ((Ext.up hp).trans (.up hp2))
      exact ih _ _ _ _ (fun j hj => hks j (List.mem_cons_of_mem _ hj)) (hB.ext X) (hx.ext X.b) (fun M' x' => hG M' (X.trans x')) fun w11 w16 w17 M' x' => kk w11 w16 w17 M' (X.trans x')
    generalize hR : denSs (F 19) T.cs (Stms.cons _ _) = Rs at rest ⊢
    by_cases c1 : duesOf .all ts = .all
    · simp only [decide_eq_true c1, Bool.true_or, if_true]
      have := rest M1 x1
      rw [decide_eq_true (by rw [c1]; trivial)] at this
      exact this
    by_cases c2 : duesOf .all ts = .line
    · simp only [decide_eq_true c2, Bool.or_true, if_true]
      have := rest M1 x1
      rw [decide_eq_true (by rw [c2]; trivial)] at this
      exact this
    simp only [decide_eq_false c1, decide_eq_false c2, Bool.or_false, Bool.false_eq_true, if_false]
    rw [due_in_lst b M1 _ x hx1 k c1 c2]
    exact rest M1 x1
end K10

set_option Elab.async false
set_option linter.all false
set_option maxRecDepth 100000
set_option maxHeartbeats 2000000
namespace K10
open PySem Dn
open L2 (atI ixN)
local macro_rules | `(tactic| walk_at "dn") => `(tactic| simp only [denSs, denSt, denE, denEs, denT, denTB, denB, denO, denI, denS, dSeqS, dNext, dRet, dRetN, dDrop, dIfS, dAsg, dTup, dLst, dCons, dNil, dOp, dVar, dC, Cn.d, dBin, dCmp, dF, dTB, dAnd, dOr, dNot, dAndV, dOrV, dNotV, dIf, dChain, dSl, dPart, dNoPart, dMt, dSeq, dRev, dLc, dLc2, dFor, dPar, dSetS, dAug, dAugS, dAsgL, dNeg, dIsi, Bi.den, Mt.den, startE, bindP_nm, bindP_tp, bindPs_nil, bindPs_cons,
  List.map_cons, List.map_nil, List.length_cons, List.length_nil, Nat.reduceAdd, Nat.reduceSub, Nat.zero_add, List.replicate, List.replicate_zero, List.cons_append, List.nil_append, List.append_nil, List.getElem?_cons_zero, List.getElem?_cons_succ, List.set_cons_zero, List.set_cons_succ, Dn.wp, if_true, if_false, Bool.false_eq_true, ite_true, ite_false])
local macro_rules | `(tactic| walk_at "st") => `(tactic| simp only [denSt, denE, denEs, denT, denTB, denB, denO, denI, denS, dSeqS, dNext, dRet, dRetN, dDrop, dIfS, dAsg, dTup, dLst, dCons, dNil, dOp, dVar, dC, Cn.d, dBin, dCmp, dF, dTB, dAnd, dOr, dNot, dAndV, dOrV, dNotV, dIf, dChain, dSl, dPart, dNoPart, dMt, dSeq, dRev, dLc, dLc2, dFor, dPar, dSetS, dAug, dAugS, dAsgL, dNeg, dIsi, Bi.den, Mt.den, startE, bindP_nm, bindP_tp, bindPs_nil, bindPs_cons,
  List.map_cons, List.map_nil, List.length_cons, List.length_nil, Nat.reduceAdd, Nat.reduceSub, Nat.zero_add, List.replicate, List.replicate_zero, List.cons_append, List.nil_append, List.append_nil, List.getElem?_cons_zero, List.getElem?_cons_succ, List.set_cons_zero, List.set_cons_succ, Dn.wp, if_true, if_false, Bool.false_eq_true, ite_true, ite_false])

/-- a comprehension over a bag whose items stand in the heap -/
theorem lc_bagH {p : Pat} {te : TD} {env : Ev} {M : MH} {N : Addr → MH → Prop} {b q : Addr} {cells : List Int} (hB : Bag M b q cells) (R : Addr → MH → D → Prop) (l : List D) (hl : l.length ≤ 1000000)
    (hmono : ∀ D M1 M2 y, R D M1 y → D ≠ b → ExtB b M1 M2 → R D M2 y) (hpush : ∀ D M1 o y, R D M1 y → R D (up M1 D o) y)
    (he : ∀ d ∈ l, ∃ env2, bindP p d env = some env2 ∧ ∀ D M1 (Q : Dn.D → MH → Prop), D ≠ b → M1 D ≠ none → ExtB b M M1 → Bag M1 b q cells → (∀ y M2, R D M2 y → ExtB b M1 M2 → Bag M2 b q cells → Q y M2) → te env2 M1 Q)
    (k : ∀ D M' ds, D ≠ b → ExtB b M M' → Bag M' b q cells → M' D = some (.lst ds) → ds.length = l.length → (∀ d ∈ ds, R D M' d) → N D M') (D : Addr) (hD : M D = none) :
    dLcL p dYes te (fun _ => True) env (N D) D l (up M D (.lst [])) := by
  have hb := hB
  obtain ⟨_, ⟨_, _, _, _, _, _, _, hb'⟩, hcq, _⟩ := hb
  have neb : D ≠ b := (ne_new hb' hD).symm
  have neq : q ≠ D := ne_new hcq hD
  have bagpush : ∀ (M2 : MH) (o : MO), Bag M2 b q cells → Bag (up M2 D o) b q cells := by
    intro M2 o ⟨e1, ⟨b0, b1, b2, e2, e3, e4, e5, e6⟩, e7, e8, e9⟩
    exact ⟨e1, ⟨b0, b1, b2, e2, e3, e4, e5, by rw [up_ne neb.symm]; exact e6⟩, by rw [up_ne neq]; exact e7, e8, e9⟩
  have key : ∀ (l : List Dn.D) (acc : List Dn.D) (M1 : MH), (∀ d ∈ l, ∃ env2, bindP p d env = some env2 ∧ ∀ D M1 (Q : Dn.D → MH → Prop), D ≠ b → M1 D ≠ none → ExtB b M M1 → Bag M1 b q cells → (∀ y M2, R D M2 y → ExtB b M1 M2 → Bag M2 b q cells → Q y M2) → te env2 M1 Q) →
      ExtB b M M1 → Bag M1 b q cells → M1 D = some (.lst acc) → acc.length + l.length ≤ 1000000 → (∀ d ∈ acc, R D M1 d) →
      (∀ M' ds, ExtB b M M' → Bag M' b q cells → M' D = some (.lst ds) → ds.length = acc.length + l.length → (∀ d ∈ ds, R D M' d) → N D M') → dLcL p dYes te (fun _ => True) env (N D) D l M1 := by
    intro l
    induction l with
    | nil => intro acc M1 _ x1 hB1 e _ hp k; exact ⟨trivial, k M1 acc x1 hB1 e (by simp) hp⟩
    | cons d l ih =>
      intro acc M1 he x1 hB1 e hl hp k
      obtain ⟨env2, e1, e2⟩ := he d List.mem_cons_self
      refine ⟨trivial, ?_⟩
      rw [e1]
      simp only [dYes, if_true]
      refine e2 D M1 _ neb (by rw [e]; simp) x1 hB1 fun y M2 ry x2 hB2 => ?_
      have e3 := x2 D _ neb e
      unfold pushD
      rw [e3]
      simp only [List.length_cons] at hl
      refine ⟨by show _ < 16777216; omega, ?_⟩
      refine ih (acc ++ [y]) _ (fun z hz => he z (List.mem_cons_of_mem _ hz)) (fun a o ha h => ?_) (bagpush M2 _ hB2) up_same (by rw [List.length_append, List.length_singleton]; omega) (fun z hz => ?_) fun M' ds x' hB' e' hl' hp' => k M' ds x' hB' e' (by rw [hl', List.length_append, List.length_singleton, List.length_cons]; omega) hp'
      · rw [up_ne (ne_new h hD)]
        exact x2 a o ha (x1 a o ha h)
      · rw [List.mem_append, List.mem_singleton] at hz
        rcases hz with hz | rfl
        · exact hpush D M2 _ z (hmono D M1 M2 z (hp z hz) neb x2)
        · exact hpush D M2 _ z ry
  exact key l [] _ he (Ext.up hD).b (bagpush M _ hB) up_same (by simpa using hl) (fun d hd => by cases hd) fun M' ds x' hB' e hl hp => k D M' ds neb x' hB' e (by simpa using hl) hp
/-- what is in the list of drawn equations -/
def IsEq1 (u : List Sp) (b D : Addr) (M : MH) (y : Dn.D) : Prop := ∃ e d x, y = .tup [Eqn.d e, x] ∧ Good u e d ∧ IsDue b M d x ∧ ∀ a, x = .ref a → a ≠ D
theorem IsDue.up {b D : Addr} {M : MH} {d : Due} {x : Dn.D} (h : IsDue b M d x) (ne : ∀ a, x = .ref a → a ≠ D) (o : MO) : IsDue b (up M D o) d x := by
  cases d with
  | all => exact h
  | line => exact h
  | no => obtain ⟨a, h1, h2, h3⟩ := h; exact ⟨a, h1, h2, by rw [up_ne (ne a h1)]; exact h3⟩
  | «at» k => obtain ⟨a, h1, h2, h3⟩ := h; exact ⟨a, h1, h2, by rw [up_ne (ne a h1)]; exact h3⟩
theorem all_eq1 {u : List Sp} {b D : Addr} {M : MH} : ∀ ds : List Dn.D, (∀ d ∈ ds, IsEq1 u b D M d) → ∃ ts : List Eq1, ds = ts.map Eq1.it ∧ ∀ t ∈ ts, Good u t.e t.d ∧ IsDue b M t.d t.x
  | [], _ => ⟨[], rfl, fun t ht => by cases ht⟩
  | y :: ds, h => by
    obtain ⟨e, d, x, h1, h2, h3, _⟩ := h y List.mem_cons_self
    obtain ⟨ts, h4, h5⟩ := all_eq1 ds fun z hz => h z (List.mem_cons_of_mem _ hz)
    refine ⟨⟨e, d, x⟩ :: ts, by rw [h1, h4, List.map_cons]; rfl, fun t ht => ?_⟩
    rcases List.mem_cons.mp ht with rfl | ht
    · exact ⟨h2, h3⟩
    · exact h5 t ht
def unitsD : List D := [.tup [spD ("a", 1)], .tup [.tup [.str "a", .int (-1)]], .tup [spD ("a", 1), spD ("b", 1)], .tup [spD ("a", 1), spD ("b", 1), spD ("a", 1), .tup [.str "b", .int (-1)]], .tup [spD ("b", 1), spD ("a", 1), .tup [.str "b", .int (-1)]], .tup [spD ("a", 1), spD ("a", 1), spD ("b", 1)]]
theorem unitsD_eq : unitsD = units.map rowD := by
  simp only [unitsD, units, List.map_cons, List.map_nil, rowD, spD, sA, sB, tA, tB, str_a, str_b]
theorem mem_units {d : D} (h : d ∈ unitsD) : ∃ u, Un u ∧ d = rowD u := by
  rw [unitsD_eq, List.mem_map] at h
  obtain ⟨u, h1, h2⟩ := h
  exact ⟨u, ⟨h1⟩, h2.symm⟩
theorem most_eq (u : List Sp) : (50 : Int).fdiv (3 * (u.length : Int)) = (mostOf u : Int) := by
  have : (3 * (u.length : Int)) = ((3 * u.length : Nat) : Int) := by omega
  rw [this]
  exact fdiv_nat 50 _
theorem unit_root {u : List Sp} (hu : Un u) : rootL (red (upw u 3)) = (u, 3) := by
  have := hu.len
  rw [root_red, hu.root 3 (by omega) (by decide)]
  rfl
theorem ne_rowint (u : List Sp) (k : Int) (M : MH) (Q : D → MH → Prop) : dNe (.tup [rowD u, .int k]) (.tup [rowD u, .int k]) M Q = Q (.bl false) M := by
  have : py M 12 (D.tup [rowD u, .int k]) = some (.tuple [.tuple (u.map spP), .int k]) := by
    simp only [py_t, pys, py_i, py_row M 8, Option.map_some]
  simp only [dNe, this, PyData.eqv, PyData.eqvAll]
  rw [show PyData.eqvAll (u.map spP) (u.map spP) = true by have := eqv_rowself u; rwa [PyData.eqv] at this]
  simp
theorem whole_app : ∀ ts : List Eq1, ts.length ≠ 1 → D.tup ([.str "both"] ++ ts.map (fun t => t.e.d)) = wholeD (ts.map (·.e))
  | [], _ => rfl
  | [t], h => absurd rfl h
  | t :: t2 :: ts, _ => by
    simp only [List.map_cons, wholeD, List.map_map, List.singleton_append]
    rfl
end K10

set_option Elab.async false
set_option linter.all false
set_option maxRecDepth 100000
set_option maxHeartbeats 2000000
namespace K10
open PySem Dn
open L2 (atI ixN)
local macro_rules | `(tactic| walk_at "dn") => `(tactic| simp only [denSs, denSt, denE, denEs, denT, denTB, denB, denO, denI, denS, dSeqS, dNext, dRet, dRetN, dDrop, dIfS, dAsg, dTup, dLst, dCons, dNil, dOp, dVar, dC, Cn.d, dBin, dCmp, dF, dTB, dAnd, dOr, dNot, dAndV, dOrV, dNotV, dIf, dChain, dSl, dPart, dNoPart, dMt, dSeq, dRev, dLc, dLc2, dFor, dPar, dSetS, dAug, dAugS, dAsgL, dNeg, dIsi, Bi.den, Mt.den, startE, bindP_nm, bindP_tp, bindPs_nil, bindPs_cons,
  List.map_cons, List.map_nil, List.length_cons, List.length_nil, Nat.reduceAdd, Nat.reduceSub, Nat.zero_add, List.replicate, List.replicate_zero, List.cons_append, List.nil_append, List.append_nil, List.getElem?_cons_zero, List.getElem?_cons_succ, List.set_cons_zero, List.set_cons_succ, Dn.wp, if_true, if_false, Bool.false_eq_true, ite_true, ite_false])
local macro_rules | `(tactic| walk_at "st") => `(tactic| simp only [denSt, denE, denEs, denT, denTB, denB, denO, denI, denS, dSeqS, dNext, dRet, dRetN, dDrop, dIfS, dAsg, dTup, dLst, dCons, dNil, dOp, dVar, dC, Cn.d, dBin, dCmp, dF, dTB, dAnd, dOr, dNot, dAndV, dOrV, dNotV, dIf, dChain, dSl, dPart, dNoPart, dMt, dSeq, dRev, dLc, dLc2, dFor, dPar, dSetS, dAug, dAugS, dAsgL, dNeg, dIsi, Bi.den, Mt.den, startE, bindP_nm, bindP_tp, bindPs_nil, bindPs_cons,
  List.map_cons, List.map_nil, List.length_cons, List.length_nil, Nat.reduceAdd, Nat.reduceSub, Nat.zero_add, List.replicate, List.replicate_zero, List.cons_append, List.nil_append, List.append_nil, List.getElem?_cons_zero, List.getElem?_cons_succ, List.set_cons_zero, List.set_cons_succ, Dn.wp, if_true, if_false, Bool.false_eq_true, ite_true, ite_false])

abbrev lapEnd (b q : Addr) (cells : List Int) (s lap : D) (E : En) : Prop := ∀ w5 w6 w7 w8 w9 w10 w11 w12 w13 w14 w15 w16 w17 w18 M', Bag M' b q cells → E.nx [some s, some (.ref b), some lap, some (spD ("a", 1)), some (spD ("b", 1)), w5, w6, w7, w8, w9, w10, w11, w12, w13, w14, w15, w16, w17, w18] M'
theorem due_ty {b : Addr} {M : MH} {d : Due} {x : D} (h : IsDue b M d x) : tyD M x = some (if d = .all ∨ d = .line then "str" else "list") := by
  cases d with
  | all => rw [show x = .str "all" from h, if_pos (.inl rfl)]; rfl
  | line => rw [show x = .str "line" from h, if_pos (.inr rfl)]; rfl
  | no =>
    obtain ⟨a, rfl, _, e⟩ := h
    rw [if_neg (by simp)]
    simp only [tyD, rdL_lst e]
  | «at» k =>
    obtain ⟨a, rfl, _, e⟩ := h
    rw [if_neg (by simp)]
    simp only [tyD, rdL_lst e]
/-- a line's rows at numbers are powers -/
theorem line_at {u : List Sp} (hu : Un u) {t : List Sp} (ht : t = u ∨ t = undo u) (k : Int) (hk : -4 ≤ k ∧ k ≤ 4) : ∃ j : Int, j.natAbs ≤ 3 * mostOf u ∧ red ([] ++ pw t k) = red (upw u j) ∧ t.length ≤ 4 := by
  have := hu.len
  rw [List.nil_append, pw_upw]
  rcases ht with rfl | rfl
  · exact ⟨k, by omega, rfl, by omega⟩
  · exact ⟨-k, by omega, by rw [upw_undo], by rw [undo_len]; omega⟩
theorem lap13 {u : List Sp} (hu : Un u) (b q : Addr) (cells : List Int) (E : En) (s lap : D) (sm : Addr) (ts : List Eq1) (hl : 1 ≤ ts.length ∧ ts.length ≤ 3) (hg : ∀ t ∈ ts, Good u t.e t.d) (l : Lot) (hlot : IsLot u (duesOf .all ts) l) (hin : (duesOf .all ts).in u) (x : D) (w11 w12 w13 w14 w15 w16 w17 w18 : Option D) (M5 : MH) (hB : Bag M5 b q cells) (hx5 : IsDue b M5 (duesOf .all ts) x) (hE : lapEnd b q cells s lap E) :
    denSs (F 19) T.cs (.cons st13 .nil) E (e19 s lap b u sm (some x) (some (wholeD (ts.map (·.e)))) (some l.d) w11 w12 w13 w14 w15 w16 w17 w18) M5 := by
  have hul := hu.len
  have hok := isLot_ok hu hlot hin
  have hes : ∀ e ∈ ts.map (·.e), e.ok := fun e he => by
    rw [List.mem_map] at he
    obtain ⟨t, ht, rfl⟩ := he
    exact (hg t ht).ok
  have hll : 1 ≤ (ts.map (·.e)).length ∧ (ts.map (·.e)).length ≤ 3 := by simpa using hl
  rw [st13, denSs_cons]
  walk_at "st"
  rw [lot_ix, dEq_ss]
  have fin : ∀ w M6, Ext M5 M6 → denSs (F 19) T.cs .nil { nx := denSs (F 19) T.cs .nil E, rt := E.rt, bk := E.bk, ct := E.ct } (e19 s lap b u sm (some x) (some (wholeD (ts.map (·.e)))) (some w) w11 w12 w13 w14 w15 w16 w17 w18) M6 := fun w M6 x6 => by
    rw [denSs_end, denSs_nil]
    exact hE _ _ _ _ _ _ _ _ _ _ _ _ _ _ M6 (hB.ext x6)
  by_cases c : duesOf .all ts = .line
  · rw [c] at hlot
    obtain ⟨t, ht, rfl⟩ : ∃ t, (t = u ∨ t = undo u) ∧ l = .line [] t := by
      rcases hlot with rfl | rfl
      · exact ⟨_, .inl rfl, rfl⟩
      · exact ⟨_, .inr rfl, rfl⟩
    have ew : decide ((Lot.line [] t).wd = "line") = true := decide_eq_true rfl
    simp only [ew, if_true]
    refine ⟨ln2, ?_⟩
    intro D hD
    -- one number
    have one : ∀ (k : Int) (hk : -4 ≤ k ∧ k ≤ 4) (M6 : MH) (K : Bool → MH → Prop), (∀ M7, Ext M6 M7 → K false M7) → F 19 24 [(Lot.line [] t).d, .int k] M6 fun d M7 => F 19 35 [wholeD (ts.map (·.e)), d] M7 fun d M8 => dIs true d (.bl true) M8 fun d M9 => match d with
        | .bl b => K b M9
        | _ => False := by
      intro k hk M6 K hN
      obtain ⟨j, hj, e, hlt⟩ := line_at hu ht k hk
      have hpl := pw_len t k (by omega) (by omega)
      refine sp_row_at 14 [] t k (by omega) (by decide) (by omega) (by omega) M6 _ fun M7 x7 => ?_
      rw [e]
      have hrl := hu.red_len j hj
      refine sp_is_solution 13 (ts.map (·.e)) (red (upw u j)) hll hes (by omega) M7 _ fun M8 x8 => ?_
      rw [solves_pow hu ts hg j hj, decide_eq_true (by rw [c]; trivial), isTrue_t]
      exact hN M8 (x7.trans x8)
    have eD : (up M5 D (.lst [])) D = some (.lst []) := up_same
    have xD : Ext M5 (up M5 D (.lst [])) := .up hD
    generalize up M5 D (.lst []) = M6 at eD xD ⊢
    refine ⟨trivial, ?_⟩
    simp only [bindP_nm, List.set_cons_zero, List.set_cons_succ]
    walk_at "st"
    refine one (-3) (by decide) M6 _ fun M7 x7 => ?_
    simp only [Bool.false_eq_true, if_false]
    refine ⟨trivial, ?_⟩
    simp only [bindP_nm, List.set_cons_zero, List.set_cons_succ]
    walk_at "st"
    refine one 0 (by decide) M7 _ fun M8 x8 => ?_
    simp only [Bool.false_eq_true, if_false]
    refine ⟨trivial, ?_⟩
    simp only [bindP_nm, List.set_cons_zero, List.set_cons_succ]
    walk_at "st"
    refine one 4 (by decide) M8 _ fun M9 x9 => ?_
    simp only [Bool.false_eq_true, if_false]
    refine ⟨trivial, ?_⟩
    refine ⟨ln2, fun r hr => ?_⟩
    have e9 := (Ext.up (o := .lst []) hr) D _ (x9 D _ (x8 D _ (x7 D _ eD)))
    have q1 : py (up M9 r (.lst [])) 12 (.ref D) = some (.list []) := py_nil (rdL_lst e9)
    have q2 : py (up M9 r (.lst [])) 12 (.ref r) = some (.list []) := py_nil (rdL_lst up_same)
    simp only [dNe, q1, q2, ne_nil, List.isEmpty_nil, Bool.not_true, Bool.false_eq_true, if_false]
    exact fin _ _ (xD.trans (x7.trans (x8.trans (x9.trans (.up hr)))))
  · have ew : decide (l.wd = "line") = false := by
      cases h : duesOf .all ts with
      | line => exact absurd h c
      | all => rw [h] at hlot; rw [show l = .all from hlot]; decide +kernel
      | no => rw [h] at hlot; rw [show l = .none from hlot]; decide +kernel
      | «at» k => rw [h] at hlot; rw [show l = .one _ from hlot]; show decide (("one" : Str) = "line") = false; decide +kernel
    simp only [ew, Bool.false_eq_true, if_false]
    exact fin _ M5 .refl
theorem lap3 {u : List Sp} (hu : Un u) (b q : Addr) (cells : List Int) (E : En) (s lap : D) (sm : Addr) (ts : List Eq1) (hl : 1 ≤ ts.length ∧ ts.length ≤ 3) (hg : ∀ t ∈ ts, Good u t.e t.d) (l : Lot) (hlot : IsLot u (duesOf .all ts) l) (hin : (duesOf .all ts).in u) (x : D) (w11 w12 w13 w14 w15 w16 w17 w18 : Option D) (M : MH) (hB : Bag M b q cells) (hx : IsDue b M (duesOf .all ts) x) (hE : lapEnd b q cells s lap E) :
    denSs (F 19) T.cs (.cons st11 (.cons st12 (.cons st13 .nil))) E (e19 s lap b u sm (some x) (some (wholeD (ts.map (·.e)))) (some l.d) w11 w12 w13 w14 w15 w16 w17 w18) M := by
  have hul := hu.len
  have hok := isLot_ok hu hlot hin
  have hes : ∀ e ∈ ts.map (·.e), e.ok := fun e he => by
    rw [List.mem_map] at he
    obtain ⟨t, ht, rfl⟩ := he
    exact (hg t ht).ok
  have hll : 1 ≤ (ts.map (·.e)).length ∧ (ts.map (·.e)).length ≤ 3 := by simpa using hl
  rw [st11, denSs_cons]
  walk_at "st"
  refine sp_lpower 16 u 1 (by decide) (by omega) M _ fun M1 x1 => ⟨ln2, ln2, ?_⟩
  have hrl := hu.red_len 1 (by omega)
  simp only [rowD]
  rw [dAdd_tt]
  refine ⟨by simp only [List.length_map, List.length_cons, List.length_nil]; show _ ≤ 16777216; omega, ?_⟩
  have e1 : D.tup (List.map spD (red (upw u 1)) ++ [.tup [.str "c", .int 1]]) = rowD (oddR u) := by
    simp [rowD, spD, oddR, str_c]
  rw [e1]
  have hol : (oddR u).length ≤ 60 := by
    unfold oddR
    rw [List.length_append, List.length_singleton]; omega
  rw [st12, denSs_cons]
  walk_at "st"
  refine sp_is_solution 13 (ts.map (·.e)) (oddR u) hll hes (by omega) M1 _ fun M2 x2 => ?_
  refine sp_has_row 13 l _ hok.1 (by omega) M2 _ fun M3 x3 => ?_
  rw [hasL_odd hu hlot, solves_odd hu ts hg]
  refine ⟨ln2, fun p hp => ?_⟩
  have X3 := x1.trans (x2.trans (x3.trans (Ext.up (o := .lst [.bl (decide (duesOf .all ts = .all)), .bl (decide (duesOf .all ts = .all))]) hp)))
  have e3 : (up M3 p (.lst [.bl (decide (duesOf .all ts = .all)), .bl (decide (duesOf .all ts = .all))])) p = some (.lst [.bl (decide (duesOf .all ts = .all)), .bl (decide (duesOf .all ts = .all))]) := up_same
  generalize up M3 p (.lst [.bl (decide (duesOf .all ts = .all)), .bl (decide (duesOf .all ts = .all))]) = M4 at X3 e3 ⊢
  have hx4 := hx.ext X3.b
  simp only [dEq, py_due hx4, py_s, due_all]
  refine ⟨ln2, fun p2 hp2 => ?_⟩
  rw [dMul_ri up_same]
  refine ⟨by decide, by decide, by show 1 * 2 ≤ 16777216; decide, fun p3 hp3 => ?_⟩
  have n2 : p ≠ p2 := ne_new e3 hp2
  have n3 : p ≠ p3 := ne_new (by rw [up_ne n2]; exact e3) hp3
  refine sp_alike 18 p p3 (decide (duesOf .all ts = .all)) (decide (duesOf .all ts = .all)) _ (by rw [up_ne n3, up_ne n2]; exact e3) up_same _ ?_
  simp only [Bool.not_true, Bool.false_eq_true, if_false]
  have X5 : Ext M _ := X3.trans ((Ext.up (o := .lst [.bl (decide (duesOf .all ts = .all))]) hp2).trans (Ext.up (o := .lst [.bl (decide (duesOf .all ts = .all)), .bl (decide (duesOf .all ts = .all))]) hp3))
  rw [denSs_end]
  exact lap13 hu b q cells E s lap sm ts hl hg l hlot hin x w11 (some (rowD (oddR u))) w13 w14 w15 w16 w17 w18 _ (hB.ext X5) (hx.ext X5.b) hE
end K10

set_option Elab.async false
set_option linter.all false
set_option maxRecDepth 100000
set_option maxHeartbeats 2000000
namespace K10
open PySem Dn
open L2 (atI ixN)
local macro_rules | `(tactic| walk_at "dn") => `(tactic| simp only [denSs, denSt, denE, denEs, denT, denTB, denB, denO, denI, denS, dSeqS, dNext, dRet, dRetN, dDrop, dIfS, dAsg, dTup, dLst, dCons, dNil, dOp, dVar, dC, Cn.d, dBin, dCmp, dF, dTB, dAnd, dOr, dNot, dAndV, dOrV, dNotV, dIf, dChain, dSl, dPart, dNoPart, dMt, dSeq, dRev, dLc, dLc2, dFor, dPar, dSetS, dAug, dAugS, dAsgL, dNeg, dIsi, Bi.den, Mt.den, startE, bindP_nm, bindP_tp, bindPs_nil, bindPs_cons,
  List.map_cons, List.map_nil, List.length_cons, List.length_nil, Nat.reduceAdd, Nat.reduceSub, Nat.zero_add, List.replicate, List.replicate_zero, List.cons_append, List.nil_append, List.append_nil, List.getElem?_cons_zero, List.getElem?_cons_succ, List.set_cons_zero, List.set_cons_succ, Dn.wp, if_true, if_false, Bool.false_eq_true, ite_true, ite_false])
local macro_rules | `(tactic| walk_at "st") => `(tactic| simp only [denSt, denE, denEs, denT, denTB, denB, denO, denI, denS, dSeqS, dNext, dRet, dRetN, dDrop, dIfS, dAsg, dTup, dLst, dCons, dNil, dOp, dVar, dC, Cn.d, dBin, dCmp, dF, dTB, dAnd, dOr, dNot, dAndV, dOrV, dNotV, dIf, dChain, dSl, dPart, dNoPart, dMt, dSeq, dRev, dLc, dLc2, dFor, dPar, dSetS, dAug, dAugS, dAsgL, dNeg, dIsi, Bi.den, Mt.den, startE, bindP_nm, bindP_tp, bindPs_nil, bindPs_cons,
  List.map_cons, List.map_nil, List.length_cons, List.length_nil, Nat.reduceAdd, Nat.reduceSub, Nat.zero_add, List.replicate, List.replicate_zero, List.cons_append, List.nil_append, List.append_nil, List.getElem?_cons_zero, List.getElem?_cons_succ, List.set_cons_zero, List.set_cons_succ, Dn.wp, if_true, if_false, Bool.false_eq_true, ite_true, ite_false])

/-- the numbers due, as a list -/
def dueNs : Due → List Int
  | .at k => [k]
  | _ => []
theorem lap10 {u : List Sp} (hu : Un u) (b q : Addr) (cells : List Int) (E : En) (s lap : D) (sm : Addr) (ts : List Eq1) (hl : 1 ≤ ts.length ∧ ts.length ≤ 3) (hg : ∀ t ∈ ts, Good u t.e t.d) (l : Lot) (hlot : IsLot u (duesOf .all ts) l) (hin : (duesOf .all ts).in u) (x : D) (w11 w12 w13 w14 w15 w16 w17 w18 : Option D) (M : MH) (hB : Bag M b q cells) (hx : IsDue b M (duesOf .all ts) x) (hE : lapEnd b q cells s lap E) :
    denSs (F 19) T.cs (.cons st10 (.cons st11 (.cons st12 (.cons st13 .nil)))) E (e19 s lap b u sm (some x) (some (wholeD (ts.map (·.e)))) (some l.d) w11 w12 w13 w14 w15 w16 w17 w18) M := by
  have hul := hu.len
  rw [st10, denSs_cons]
  walk_at "st"
  rw [dMul_ii]
  refine ⟨mul2, ?_⟩
  rw [dAdd_ii]
  refine sp_take 18 b q cells _ (by omega) M hB _ fun r M1 r0 r1 x1 hB1 => ?_
  rw [dSub_ii]
  refine ⟨ln2, ?_⟩
  have hx1 := hx.ext x1
  simp only [due_ty hx1]
  -- the loop, whatever list stands behind
  have loop : ∀ (M2 : MH), ExtB b M1 M2 → Bag M2 b q cells → dLoop (.nm 11) (denSs (F 19) T.cs b_k) (fun _ => True) { nx := denSs (F 19) T.cs (.cons st11 (.cons st12 (.cons st13 .nil))) E, rt := E.rt, bk := E.bk, ct := E.ct } (([0, 1, -1, r - mostOf u] ++ dueNs (duesOf .all ts)).map D.int)
      (e19 s lap b u sm (some x) (some (wholeD (ts.map (·.e)))) (some l.d) w11 w12 w13 w14 w15 w16 w17 w18) M2 := by
    intro M2 x2 hB2
    refine loop_k hu b q cells _ s lap sm ts hl hg l hlot hin x w12 w13 w14 w15 w18 _ w11 w16 w17 M2 (fun k hk => ?_) hB2 (hx1.ext x2) (fun _ _ => trivial) fun w11 w16 w17 M' x' => ?_
    · simp only [List.cons_append, List.nil_append, List.mem_cons] at hk
      rcases hk with rfl | rfl | rfl | rfl | hk
      · omega
      · omega
      · omega
      · omega
      · cases hd : duesOf .all ts with
        | «at» j =>
          rw [hd] at hk hin
          simp only [dueNs, List.mem_singleton] at hk
          subst hk
          exact hin
        | all => rw [hd] at hk; cases hk
        | line => rw [hd] at hk; cases hk
        | no => rw [hd] at hk; cases hk
    · exact lap3 hu b q cells E s lap sm ts hl hg l hlot hin x w11 w12 w13 w14 w15 w16 w17 w18 M' (hB2.ext x') ((hx1.ext x2).ext x'.b) hE
  generalize hL : dLoop (.nm 11) (denSs (F 19) T.cs b_k) (fun _ => True) _ = L at loop ⊢
  by_cases c : duesOf .all ts = .all ∨ duesOf .all ts = .line
  · have e0 : dueNs (duesOf .all ts) = [] := by rcases c with c | c <;> rw [c] <;> rfl
    rw [e0] at loop
    have es : ("str" == "list" || ("str" == "bool" && "list" == "int")) = false := by decide
    simp only [if_pos c, es, Bool.false_eq_true, if_false]
    refine ⟨ln2, fun p hp => ?_⟩
    rw [fTuple_l up_same, dAdd_tt]
    refine ⟨by show 4 + 0 ≤ 16777216; decide, ?_⟩
    exact loop _ (Ext.up hp).b (hB1.ext (.up hp))
  · have es : ("list" == "list" || ("list" == "bool" && "list" == "int")) = true := by decide
    simp only [if_neg c, es, if_true]
    cases hd : duesOf .all ts with
    | all => exact absurd (.inl hd) c
    | line => exact absurd (.inr hd) c
    | no =>
      rw [hd] at hx1 loop
      obtain ⟨a, rfl, hab, e⟩ := hx1
      simp only [rdL_lst e]
      intro p hp
      rw [fTuple_l up_same, dAdd_tt]
      refine ⟨by show 4 + 0 ≤ 16777216; decide, ?_⟩
      exact loop _ (Ext.up hp).b (hB1.ext (.up hp))
    | «at» k =>
      rw [hd] at hx1 loop
      obtain ⟨a, rfl, hab, e⟩ := hx1
      simp only [rdL_lst e]
      intro p hp
      rw [fTuple_l up_same, dAdd_tt]
      refine ⟨by show 4 + 1 ≤ 16777216; decide, ?_⟩
      exact loop _ (Ext.up hp).b (hB1.ext (.up hp))
theorem two_of (ts : List Eq1) (c : (1 : Int) < (ts.length : Int)) : ∃ t1 t2 rest, ts = t1 :: t2 :: rest := by
  rcases ts with _ | ⟨t1, _ | ⟨t2, rest⟩⟩
  · simp at c
  · simp at c
  · exact ⟨_, _, _, rfl⟩
/-- from the list of equations on -/
theorem lap7 {u : List Sp} (hu : Un u) (b q : Addr) (cells : List Int) (E : En) (s lap : D) (sm : Addr) (ts : List Eq1) (hl : 1 ≤ ts.length ∧ ts.length ≤ 3) (x : D) (w10 w11 w12 w13 w14 w15 w16 w17 w18 : Option D) (M : MH) (hsm : M sm = some (.lst (ts.map Eq1.it))) (hB : Bag M b q cells) (hts : ∀ t ∈ ts, Good u t.e t.d ∧ IsDue b M t.d t.x) (hx : IsDue b M (duesOf .all ts) x) (hE : lapEnd b q cells s lap E) :
    denSs (F 19) T.cs (.cons st7 (.cons st8 (.cons st9 (.cons st10 (.cons st11 (.cons st12 (.cons st13 .nil))))))) E (e19 s lap b u sm (some x) (some (wholeD (ts.map (·.e)))) w10 w11 w12 w13 w14 w15 w16 w17 w18) M := by
  have hg : ∀ t ∈ ts, Good u t.e t.d := fun t ht => (hts t ht).1
  have hll : 1 ≤ (ts.map (·.e)).length ∧ (ts.map (·.e)).length ≤ 3 := by simpa using hl
  have hes : ∀ e ∈ ts.map (·.e), e.ok := fun e he => by
    rw [List.mem_map] at he
    obtain ⟨t, ht, rfl⟩ := he
    exact (hg t ht).ok
  obtain ⟨hc, hlot, hin⟩ := solve_good hu ts .all .all rfl trivial hg
  have hok := isLot_ok hu hlot hin
  have hlo := isLot_ok hu (isLot_lot u (duesOf .all ts)) hin
  rw [st7, denSs_cons]
  walk_at "st"
  have h1 := sp_solutions 10 (ts.map (·.e)) hll hc
  refine h1 M _ fun M1 x1 => ?_
  rw [st8, denSs_cons]
  walk_at "st"
  have h2 := sp_checked 13 (ts.map (·.e)) hll hes
  refine h2 M1 _ fun M2 x2 => ?_
  refine whole_ne (ts.map (·.e)) M2 _ ?_
  simp only [Bool.false_eq_true, if_false]
  rw [lot_ix]
  have X2 := x1.trans x2
  refine sp_lot 15 b q cells u hu _ hin x M2 (hB.ext X2) (hx.ext X2.b) _ fun M3 x3 => ?_
  rw [lot_ix, isLot_wd hlot, dNe_sself]
  simp only [Bool.false_eq_true, if_false]
  have X3 := X2.trans x3
  refine sp_lot 15 b q cells u hu _ hin x M3 (hB.ext X3) (hx.ext X3.b) _ fun M4 x4 => ?_
  refine sp_are_same 12 _ _ hok.1 hlo.1 M4 _ fun M5 x5 => ?_
  rw [isLot_same hu hlot, isTrue_t]
  simp only [Bool.false_eq_true, if_false]
  have X5 := X3.trans (x4.trans x5)
  have hsm5 := X5 sm _ hsm
  have hB5 := hB.ext X5
  have hx5 := hx.ext X5.b
  have hts5 : ∀ t ∈ ts, Good u t.e t.d ∧ IsDue b M5 t.d t.x := fun t ht => ⟨(hts t ht).1, (hts t ht).2.ext X5.b⟩
  rw [denSs_end, st9, denSs_cons]
  walk_at "st"
  rw [fLen_l hsm5, dGt_ii, List.length_map]
  have next : ∀ w15 M6, Ext M5 M6 → denSs (F 19) T.cs (.cons st10 (.cons st11 (.cons st12 (.cons st13 .nil)))) E (e19 s lap b u sm (some x) (some (wholeD (ts.map (·.e)))) (some (solveFrom .all (ts.map (·.e))).d) w11 w12 w13 w14 w15 w16 w17 w18) M6 := fun w15 M6 x6 =>
    lap10 hu b q cells E s lap sm ts hl hg _ hlot hin x w11 w12 w13 w14 w15 w16 w17 w18 M6 (hB5.ext x6) (hx5.ext x6.b) hE
  by_cases c : (1 : Int) < (ts.length : Int)
  · simp only [decide_eq_true c, if_true]
    obtain ⟨t1, t2, rest, rfl⟩ := two_of ts c
    have g1 := hts5 t1 (by simp)
    have g2 := hts5 t2 (by simp)
    have a0 : atI (List.map Eq1.it (t1 :: t2 :: rest)) 0 = some t1.it := by rw [List.map_cons, at0c]
    have a1 : atI (List.map Eq1.it (t1 :: t2 :: rest)) 1 = some t2.it := by
      have := atI_cast (List.map Eq1.it (t1 :: t2 :: rest)) 1 (by simp)
      simpa using this
    rw [denSs_cons]
    walk_at "st"
    have i1 : ∀ (t : Eq1) (M' : MH) (Q : D → MH → Prop), dIx t.it (.int 0) M' Q = Q t.e.d M' := fun t M' Q => dIx_ti _ _ (at0c _ _)
    have i2 : ∀ (t : Eq1) (M' : MH) (Q : D → MH → Prop), dIx t.it (.int 1) M' Q = Q t.x M' := fun t M' Q => dIx_ti _ _ (at21 _ _)
    have s1 := solve_good hu [t1] .all .all rfl trivial fun t' h' => by rw [List.mem_singleton] at h'; rw [h']; exact g1.1
    have s2 := solve_good hu [t2] .all .all rfl trivial fun t' h' => by rw [List.mem_singleton] at h'; rw [h']; exact g2.1
    rw [dIx_ri _ hsm5 a0, i1]
    refine sp_solutions 10 [t1.e] (by simp) s1.1 M5 _ fun M6 x6 => ?_
    rw [show solveFrom .all [t1.e] = single t1.e from solve_one t1.e]
    rw [dIx_ri _ (x6 sm _ hsm5) a1, i1]
    refine sp_solutions 10 [t2.e] (by simp) s2.1 M6 _ fun M7 x7 => ?_
    rw [show solveFrom .all [t2.e] = single t2.e from solve_one t2.e]
    obtain ⟨b1, b2, b3⟩ := isLot_both hu g1.1.lot g2.1.lot g1.1.inn g2.1.inn
    have ok1 := isLot_ok hu g1.1.lot g1.1.inn
    have ok2 := isLot_ok hu g2.1.lot g2.1.inn
    refine sp_both_lots 12 (single t1.e) (single t2.e) ok1.1 ok2.1 b2 M7 _ fun M8 x8 => ?_
    have X8 := x6.trans (x7.trans x8)
    rw [denSs_cons]
    walk_at "st"
    rw [dIx_ri _ (X8 sm _ hsm5) a0, i2, dIx_ri _ (X8 sm _ hsm5) a1, i2]
    refine sp_met 18 b q cells t1.d t2.d t1.x t2.x M8 (hB5.ext X8) (g1.2.ext X8.b) (g2.2.ext X8.b) _ fun z M9 hz x9 => ?_
    have X9 := X8.trans x9
    refine sp_lot 15 b q cells u hu _ b3 z M9 (hB5.ext X9) hz _ fun M10 x10 => ?_
    refine sp_are_same 12 _ _ (isLot_ok hu b1 b3).1 (isLot_ok hu (isLot_lot u _) b3).1 M10 _ fun M11 x11 => ?_
    rw [isLot_same hu b1, isTrue_t]
    simp only [Bool.false_eq_true, if_false]
    rw [denSs_end, denSs_end]
    exact next _ M11 (X9.trans (x10.trans x11))
  · simp only [decide_eq_false c, Bool.false_eq_true, if_false]
    rw [denSs_end]
    exact next _ M5 .refl
end K10

set_option Elab.async false
set_option linter.all false
set_option maxRecDepth 100000
set_option maxHeartbeats 2000000
namespace K10
open PySem Dn
open L2 (atI ixN)
local macro_rules | `(tactic| walk_at "dn") => `(tactic| simp only [denSs, denSt, denE, denEs, denT, denTB, denB, denO, denI, denS, dSeqS, dNext, dRet, dRetN, dDrop, dIfS, dAsg, dTup, dLst, dCons, dNil, dOp, dVar, dC, Cn.d, dBin, dCmp, dF, dTB, dAnd, dOr, dNot, dAndV, dOrV, dNotV, dIf, dChain, dSl, dPart, dNoPart, dMt, dSeq, dRev, dLc, dLc2, dFor, dPar, dSetS, dAug, dAugS, dAsgL, dNeg, dIsi, Bi.den, Mt.den, startE, bindP_nm, bindP_tp, bindPs_nil, bindPs_cons,
  List.map_cons, List.map_nil, List.length_cons, List.length_nil, Nat.reduceAdd, Nat.reduceSub, Nat.zero_add, List.replicate, List.replicate_zero, List.cons_append, List.nil_append, List.append_nil, List.getElem?_cons_zero, List.getElem?_cons_succ, List.set_cons_zero, List.set_cons_succ, Dn.wp, if_true, if_false, Bool.false_eq_true, ite_true, ite_false])
local macro_rules | `(tactic| walk_at "st") => `(tactic| simp only [denSt, denE, denEs, denT, denTB, denB, denO, denI, denS, dSeqS, dNext, dRet, dRetN, dDrop, dIfS, dAsg, dTup, dLst, dCons, dNil, dOp, dVar, dC, Cn.d, dBin, dCmp, dF, dTB, dAnd, dOr, dNot, dAndV, dOrV, dNotV, dIf, dChain, dSl, dPart, dNoPart, dMt, dSeq, dRev, dLc, dLc2, dFor, dPar, dSetS, dAug, dAugS, dAsgL, dNeg, dIsi, Bi.den, Mt.den, startE, bindP_nm, bindP_tp, bindPs_nil, bindPs_cons,
  List.map_cons, List.map_nil, List.length_cons, List.length_nil, Nat.reduceAdd, Nat.reduceSub, Nat.zero_add, List.replicate, List.replicate_zero, List.cons_append, List.nil_append, List.append_nil, List.getElem?_cons_zero, List.getElem?_cons_succ, List.set_cons_zero, List.set_cons_succ, Dn.wp, if_true, if_false, Bool.false_eq_true, ite_true, ite_false])

theorem bind2 (i j : Nat) (d1 d2 : D) (env : Ev) : bindP (.tp (.cons (.nm i) (.cons (.nm j) .nil))) (.tup [d1, d2]) env = some ((env.set i (some d1)).set j (some d2)) := by
  rw [bindP_tp, bindPs_cons, bindP_nm]
  simp only []
  rw [bindPs_cons, bindP_nm]
  simp only []
  rw [bindPs_nil]
theorem lap6 {u : List Sp} (hu : Un u) (b q : Addr) (cells : List Int) (E : En) (s lap : D) (sm : Addr) (ts : List Eq1) (hl : 1 ≤ ts.length ∧ ts.length ≤ 3) (x : D) (w9 w10 w11 w12 w13 w14 w15 w16 w17 w18 : Option D) (M : MH) (hsm : M sm = some (.lst (ts.map Eq1.it))) (hB : Bag M b q cells) (hts : ∀ t ∈ ts, Good u t.e t.d ∧ IsDue b M t.d t.x) (hx : IsDue b M (duesOf .all ts) x) (hE : lapEnd b q cells s lap E) :
    denSs (F 19) T.cs (.cons st6 (.cons st7 (.cons st8 (.cons st9 (.cons st10 (.cons st11 (.cons st12 (.cons st13 .nil)))))))) E (e19 s lap b u sm (some x) w9 w10 w11 w12 w13 w14 w15 w16 w17 w18) M := by
  have next : ∀ M6, Ext M M6 → denSs (F 19) T.cs (.cons st7 (.cons st8 (.cons st9 (.cons st10 (.cons st11 (.cons st12 (.cons st13 .nil))))))) E (e19 s lap b u sm (some x) (some (wholeD (ts.map (·.e)))) w10 w11 w12 w13 w14 w15 w16 w17 w18) M6 := fun M6 x6 =>
    lap7 hu b q cells E s lap sm ts hl x w10 w11 w12 w13 w14 w15 w16 w17 w18 M6 (x6 sm _ hsm) (hB.ext x6) (fun t ht => ⟨(hts t ht).1, (hts t ht).2.ext x6.b⟩) (hx.ext x6.b) hE
  rw [st6, denSs_cons]
  walk_at "st"
  rw [fLen_l hsm, dEq_ii, List.length_map]
  by_cases c : (ts.length : Int) = 1
  · simp only [decide_eq_true c, if_true]
    obtain ⟨t, rfl⟩ : ∃ t, ts = [t] := by
      rcases ts with _ | ⟨t, _ | ⟨t2, rest⟩⟩
      · simp at c
      · exact ⟨t, rfl⟩
      · simp at c; omega
    rw [dIx_ri (d := t.it) _ hsm (by rw [List.map_cons, at0c]), show dIx t.it (.int 0) M = fun Q => Q t.e.d M from funext fun Q => dIx_ti _ _ (at0c _ _)]
    exact next M .refl
  · simp only [decide_eq_false c, Bool.false_eq_true, if_false]
    refine ⟨ln2, ?_⟩
    simp only [rdL_lst hsm]
    refine lc_A ts Eq1.it (fun t => t.e.d) (fun D M2 hD x2 => rdL_lst (x2 sm _ (ne_new hsm hD) hsm)) (by show _ ≤ 16777216; omega) (fun t ht => ⟨_, bind2 _ _ _ _ _, fun M' Q' x' k => ?_⟩) (fun D M' hD x' e => ?_)
    · walk_at "st"
      exact k M' .refl
    · rw [fTuple_l e, dAdd_tt]
      refine ⟨by simp only [List.length_map, List.length_cons, List.length_nil]; show _ ≤ 16777216; omega, ?_⟩
      rw [whole_app ts (by omega)]
      exact next M' x'
/-- one lap -/
theorem lap_ok (b q : Addr) (cells : List Int) (E : En) (s lap : D) (w5 w6 w7 w8 w9 w10 w11 w12 w13 w14 w15 w16 w17 w18 : Option D) (M : MH) (hB : Bag M b q cells) (hE : lapEnd b q cells s lap E) :
    denSs (F 19) T.cs b_lap E [some s, some (.ref b), some lap, some (spD ("a", 1)), some (spD ("b", 1)), w5, w6, w7, w8, w9, w10, w11, w12, w13, w14, w15, w16, w17, w18] M := by
  rw [b_lap, st0, denSs_cons]
  walk_at "st"
  refine ⟨ln2, ln2, ln2, ln2, ln2, ln2, ln2, ln2, ln2, ln2, fun p hp => ?_⟩
  have hpb := hB.ne' hp
  refine sp_some_list 17 b q p cells unitsD (by decide) _ (hB.ext (.up hp)) up_same hpb _ fun d M1 hd x1 hB1 => ?_
  obtain ⟨u, hu, rfl⟩ := mem_units hd
  have hul := hu.len
  rw [st1, denSs_cons]
  walk_at "st"
  simp only [rowD]
  rw [fLen_t, dMul_ii, List.length_map]
  refine ⟨.inl (by decide), ?_⟩
  rw [dFdiv_ii, most_eq]
  refine ⟨⟨by omega, by omega⟩, ?_⟩
  rw [st2, denSs_cons]
  walk_at "st"
  refine sp_lpower 16 u 3 (by decide) (by omega) M1 _ fun M2 x2 => ?_
  have hrl := hu.red_len 3 (by omega)
  refine sp_root 15 (red (upw u 3)) (by omega) M2 _ fun M3 x3 => ?_
  rw [unit_root hu]
  refine ⟨ln2, ?_⟩
  have e3 : dNe (.tup [rowD u, .int ((3 : Nat) : Int)]) (.tup [rowD u, .int 3]) M3 = fun Q => Q (.bl false) M3 := funext fun Q => ne_rowint u 3 M3 Q
  rw [show D.tup (List.map spD u) = rowD u from rfl]
  simp only [e3, Bool.false_eq_true, if_false]
  have X3 : Ext M1 M3 := x2.trans x3
  have hB3 := hB1.ext X3
  rw [denSs_end, st3, denSs_cons]
  walk_at "st"
  unfold dRng1
  walk_at "st"
  refine sp_take 18 b q cells 3 (by omega) M3 hB3 _ fun r M4 r0 r1 x4 hB4 => ?_
  rw [dAdd_ii]
  simp only []
  refine ⟨by omega, ?_⟩
  obtain ⟨k, rfl⟩ : ∃ k : Nat, r = k := ⟨r.toNat, by omega⟩
  have hrl2 : (rgD 0 1 (1 + (k : Int)).toNat).length = k + 1 := by simp [rgD]; omega
  refine lc_bagH hB4 (IsEq1 u b) _ (by rw [hrl2]; omega) (fun D M1 M2 y h neb x => ?_) (fun D M1 o y h => ?_) (fun d hd => ⟨_, bindP_nm _ _ _, fun D M5 Q neb hD5 x5 hB5 kk => ?_⟩) (fun D M' ds neb x5 hB5 e hl hp => ?_)
  · obtain ⟨e, d, x', h1, h2, h3, h4⟩ := h
    exact ⟨e, d, x', h1, h2, h3.ext x, h4⟩
  · obtain ⟨e, d, x', h1, h2, h3, h4⟩ := h
    exact ⟨e, d, x', h1, h2, h3.up h4 o, h4⟩
  · walk_at "st"
    refine sp_one 14 b q cells u hu M5 hB5 _ fun e d x M6 h1 h2 h3 h4 h5 => kk _ M6 ⟨e, d, x, rfl, h1, h2, fun a ea => ?_⟩ h3 h4
    rintro rfl
    exact hD5 (h5 a ea)
  obtain ⟨ts, rfl, hts⟩ := all_eq1 ds hp
  rw [List.length_map, hrl2] at hl
  rw [st4, denSs_cons]
  walk_at "st"
  rw [st5, denSs_cons]
  walk_at "st"
  simp only [rdL_lst e]
  have hll : 1 ≤ ts.length ∧ ts.length ≤ 3 := by omega
  refine loop_eq hu b q cells _ s lap D w9 w11 w12 w15 w16 w17 w18 ts .all (.str "all") w10 w13 w14 M' hB5 hts rfl trivial (fun M2 x2 => rdL_lst (x2 D _ e)) fun w10 w13 w14 x M6 hx x6 => ?_
  exact lap6 hu b q cells E s lap D ts hll x w9 w10 w11 w12 w13 w14 w15 w16 w17 w18 M6 (x6 D _ e) (hB5.ext x6) (fun t ht => ⟨(hts t ht).1, (hts t ht).2.ext x6.b⟩) hx hE
theorem law_ok (ns : List Int) (hl : ns.length ≤ 63) : runF T.cs tab 20 53 [.kls (ns.map D.int)] (fun _ => none) fun d _ => d = .bl true := by
  show F (19 + 1) 53 _ _ _
  rw [F_succ (r := f_law) rfl]
  refine ⟨rfl, ?_⟩
  simp only [f_law, i_law_eq]
  rw [denSs_cons]
  walk_at "st"
  refine sp_bag 18 ns hl _ _ fun b q cells M1 hB => ?_
  rw [denSs_cons]
  walk_at "st"
  refine ⟨ln2, ln2, ln2, ?_⟩
  rw [denSs_cons]
  walk_at "st"
  unfold dRng1
  walk_at "st"
  refine ⟨by decide, ?_⟩
  have key : ∀ (l : List D) (w2 w5 w6 w7 w8 w9 w10 w11 w12 w13 w14 w15 w16 w17 w18 : Option D) (M : MH), Bag M b q cells → dLoop (.nm 2) (denSs (F 19) T.cs b_lap) (fun _ => True) { nx := denSs (F 19) T.cs (.cons (.ret (.cst (.bl true))) .nil) { nx := fun _ M' => D.non = .bl true, rt := fun d _ => d = .bl true }, rt := fun d _ => d = .bl true } l [some (.kls (ns.map D.int)), some (.ref b), w2, some (spD ("a", 1)), some (spD ("b", 1)), w5, w6, w7, w8, w9, w10, w11, w12, w13, w14, w15, w16, w17, w18] M := by
    intro l
    induction l with
    | nil =>
      intro w2 w5 w6 w7 w8 w9 w10 w11 w12 w13 w14 w15 w16 w17 w18 M hB
      refine ⟨trivial, ?_⟩
      show denSs (F 19) T.cs (.cons (.ret (.cst (.bl true))) .nil) { nx := fun _ M' => D.non = .bl true, rt := fun d _ => d = .bl true } [some (.kls (ns.map D.int)), some (.ref b), w2, some (spD ("a", 1)), some (spD ("b", 1)), w5, w6, w7, w8, w9, w10, w11, w12, w13, w14, w15, w16, w17, w18] M
      rw [denSs_cons]
      walk_at "st"
    | cons d l ih =>
      intro w2 w5 w6 w7 w8 w9 w10 w11 w12 w13 w14 w15 w16 w17 w18 M hB
      refine ⟨trivial, ?_⟩
      simp only [bindP_nm, List.set_cons_zero, List.set_cons_succ]
      exact lap_ok b q cells _ _ _ w5 w6 w7 w8 w9 w10 w11 w12 w13 w14 w15 w16 w17 w18 M hB fun w5 w6 w7 w8 w9 w10 w11 w12 w13 w14 w15 w16 w17 w18 M' hB' => ih _ w5 w6 w7 w8 w9 w10 w11 w12 w13 w14 w15 w16 w17 w18 M' hB'
  exact key _ none none none none none none none none none none none none none none none M1 hB
end K10

set_option maxHeartbeats 0
open PySem PySem.W PySem.Calls PyProof.Rows Dn
theorem PySem.Challenge.cw_undomacros_k10_whole_unknown_rows_by_num_holds : PySem.Challenge.rw_undomacros_k10_whole_unknown_rows_by_num.Holds := by
  w_on; o_law
  refine HandSHeadRun.head_any (r := OpenLaw.row PySem.Challenge.rw_undomacros_k10_whole_unknown_rows_by_num) (q := view (OpenLaw.row PySem.Challenge.rw_undomacros_k10_whole_unknown_rows_by_num).prog [78]) (H := K10.hk) (ob := K10.ob) (M := 6000) (loose := K10.loose)
    (d := HandSHeadRun.topDef (OpenLaw.row PySem.Challenge.rw_undomacros_k10_whole_unknown_rows_by_num).prog 78) (kwd := []) K10.ob_eq
    (by kernel_rfl) (fun s => by kernel_rfl) K10.run (by kernel_rfl) (by kernel_rfl) (by kernel_rfl) (by rfl) (by first | assumption | decide +kernel) (by decide +kernel) ⟨rfl, rfl, rfl, rfl, rfl, by decide +kernel⟩ ?hw ?hc
  case hw => w_witness2
  case hc =>
    refine Dn.walkG (l := PySem.Challenge.rw_undomacros_k10_whole_unknown_rows_by_num) (n := 63) (k := 20) (x := "script") (g := runF K10.T.cs K10.tab 20 53) rfl (by decide) (by kernel_rfl) ⟨rfl, by decide, by decide⟩ ?F K10.law_ok
    intro w mg fa h Y G hmg0
    obtain ⟨K, KX, c, ex⟩ := Y
    have hmg : mg ("law" : PySem.Str) = some (.ref fa) := by
      have e : (HandSHeadRun.topDef (OpenLaw.row PySem.Challenge.rw_undomacros_k10_whole_unknown_rows_by_num).prog 78).name = ("law" : PySem.Str) := by kernel_rfl
      rw [← e]
      exact hmg0
    exact Dn.facts_of (r := K10.f_law) (n := 20) (i := 53) KX G rfl K10.chk K10.args c ex rfl rfl hmg

