import PyProof.Rows.All
import Wide.All
import OpenK.AllK
import Wide.FinOn
import HandS.ForMost
import HandS.ForExc
import KE.KeyNested
import HandS.TupAny
import HandS.IsInst
import HandS.Wide
import HandS.StrMore
import KE.DataEq
import KE.DataCmp
import KE.DataMinMax
import KE.DataFind
import PyProof.StrOps2
import HandS.Ends
import HandS.TupLe
import PyProof.Rows.StrFirst
import PyProof.DictRoadsH
import PyProof.DictMoreH
import KE.KDictWalk
import KE.KDictCopyH
import KE.SortData
import HandS.DictTup
import PyProof.TupleOfSeq
import KE.KDictPairs
import HandS.Zip
import HandS.Rev
import HandS.SetFor
import PyProof.Draws
import HandS.Style
import PySem.Challenge.RW_talkmarks_k03_who_is_named
set_option Elab.async false
set_option linter.all false
set_option maxRecDepth 100000
namespace T3
open PySem PySem.Spec PyProof.Rows L2

/-- data as trees: tuples, lists and dicts that nobody changes any more; ref: an object that others hold, too; ml, md: a list, a dict that one slot alone holds -/
inductive D where
  | non | bl (b : Bool) | int (i : Int) | str (x : Str)
  | tup (xs : List D) | lst (xs : List D) | dct (kvs : List (D × D))
  | ref (a : Addr) | ml (xs : List D) | md (kvs : List (D × D))
  deriving Inhabited

namespace D
mutual
def beq : D → D → Bool
  | .non, .non => true
  | .bl a, .bl b => decide (a = b)
  | .int a, .int b => decide (a = b)
  | .str a, .str b => decide (a = b)
  | .tup a, .tup b => beqs a b
  | .lst a, .lst b => beqs a b
  | .ml a, .ml b => beqs a b
  | .dct a, .dct b => beqk a b
  | .md a, .md b => beqk a b
  | .ref a, .ref b => decide (a = b)
  | _, _ => false
def beqs : List D → List D → Bool
  | [], [] => true
  | a :: as, b :: bs => beq a b && beqs as bs
  | _, _ => false
def beqk : List (D × D) → List (D × D) → Bool
  | [], [] => true
  | (a, b) :: as, (c, d) :: bs => beq a c && beq b d && beqk as bs
  | _, _ => false
end
mutual
theorem beq_self : ∀ a : D, beq a a = true
  | .non => rfl
  | .bl a => by simp [beq]
  | .int a => by simp [beq]
  | .str a => by simp [beq]
  | .tup a => by rw [beq]; exact beqs_self a
  | .lst a => by rw [beq]; exact beqs_self a
  | .ml a => by rw [beq]; exact beqs_self a
  | .dct a => by rw [beq]; exact beqk_self a
  | .md a => by rw [beq]; exact beqk_self a
  | .ref a => by simp [beq]
theorem beqs_self : ∀ a : List D, beqs a a = true
  | [] => rfl
  | a :: as => by rw [beqs, beq_self a, beqs_self as]; rfl
theorem beqk_self : ∀ a : List (D × D), beqk a a = true
  | [] => rfl
  | (a, b) :: as => by rw [beqk, beq_self a, beq_self b, beqk_self as]; rfl
end
mutual
theorem eq_of_beq : ∀ a b : D, beq a b = true → a = b
  | .non, b, h => by cases b <;> simp_all [beq]
  | .bl a, b, h => by cases b <;> simp_all [beq]
  | .int a, b, h => by cases b <;> simp_all [beq]
  | .str a, b, h => by cases b <;> simp_all [beq]
  | .ref a, b, h => by cases b <;> simp_all [beq]
  | .tup a, b, h => by
    cases b with
    | tup b => rw [beq] at h; rw [eq_of_beqs a b h]
    | _ => simp [beq] at h
  | .lst a, b, h => by
    cases b with
    | lst b => rw [beq] at h; rw [eq_of_beqs a b h]
    | _ => simp [beq] at h
  | .ml a, b, h => by
    cases b with
    | ml b => rw [beq] at h; rw [eq_of_beqs a b h]
    | _ => simp [beq] at h
  | .dct a, b, h => by
    cases b with
    | dct b => rw [beq] at h; rw [eq_of_beqk a b h]
    | _ => simp [beq] at h
  | .md a, b, h => by
    cases b with
    | md b => rw [beq] at h; rw [eq_of_beqk a b h]
    | _ => simp [beq] at h
theorem eq_of_beqs : ∀ a b : List D, beqs a b = true → a = b
  | [], [], _ => rfl
  | [], _ :: _, h => nomatch h
  | _ :: _, [], h => nomatch h
  | a :: as, b :: bs, h => by
    simp only [beqs, Bool.and_eq_true] at h
    rw [eq_of_beq a b h.1, eq_of_beqs as bs h.2]
theorem eq_of_beqk : ∀ a b : List (D × D), beqk a b = true → a = b
  | [], [], _ => rfl
  | [], _ :: _, h => nomatch h
  | _ :: _, [], h => nomatch h
  | (a, b) :: as, (c, d) :: bs, h => by
    simp only [beqk, Bool.and_eq_true] at h
    rw [eq_of_beq a c h.1.1, eq_of_beq b d h.1.2, eq_of_beqk as bs h.2]
end
end D
instance : DecidableEq D := fun a b => if h : D.beq a b = true then .isTrue (D.eq_of_beq a b h) else .isFalse fun e => h (e ▸ D.beq_self a)
end T3
namespace T3
open PySem PySem.Spec PyProof.Rows L2

/-! ### keys -/
mutual
/-- what may be a key: no truths, no lists -/
def kok : D → Bool
  | .non => true | .int _ => true | .str _ => true | .tup xs => koks xs | _ => false
def koks : List D → Bool
  | [] => true
  | x :: xs => kok x && koks xs
end
mutual
def dk : D → NestedKey
  | .int i => .num i | .str x => .text x | .tup xs => .tup (dks xs) | _ => .none
def dks : List D → List NestedKey
  | [] => []
  | x :: xs => dk x :: dks xs
end
mutual
theorem dk_inj : ∀ a b : D, kok a = true → kok b = true → dk a = dk b → a = b
  | .non, b, _, hb, h => by cases b <;> simp_all [kok, dk]
  | .int i, b, _, hb, h => by cases b <;> simp_all [kok, dk]
  | .str i, b, _, hb, h => by cases b <;> simp_all [kok, dk]
  | .tup xs, b, ha, hb, h => by
    cases b with
    | tup ys =>
      rw [kok] at ha hb
      rw [dk, dk, NestedKey.tup.injEq] at h
      rw [dks_inj xs ys ha hb h]
    | _ => simp_all [kok, dk]
  | .bl _, _, ha, _, _ => by simp [kok] at ha
  | .lst _, _, ha, _, _ => by simp [kok] at ha
  | .dct _, _, ha, _, _ => by simp [kok] at ha
  | .ref _, _, ha, _, _ => by simp [kok] at ha
  | .ml _, _, ha, _, _ => by simp [kok] at ha
  | .md _, _, ha, _, _ => by simp [kok] at ha
theorem dks_inj : ∀ a b : List D, koks a = true → koks b = true → dks a = dks b → a = b
  | [], [], _, _, _ => rfl
  | [], _ :: _, _, _, h => by simp [dks] at h
  | _ :: _, [], _, _, h => by simp [dks] at h
  | x :: xs, y :: ys, ha, hb, h => by
    simp only [koks, Bool.and_eq_true] at ha hb
    simp only [dks, List.cons.injEq] at h
    rw [dk_inj x y ha.1 hb.1 h.1, dks_inj xs ys ha.2 hb.2 h.2]
end
/-- the depth that a look-up of a key allows -/
def kfit (d : D) : Bool := kok d && decide ((dk d).depth ≤ 8)

/-! ### dicts in the abstract heap -/
inductive EntsAre : List (Int × V × V) → List DictEntry → Prop
  | nil : EntsAre [] []
  | cons {n x y e es ens} : e.hash = n → RelV x e.key → RelV y e.val → EntsAre es ens → EntsAre ((n, x, y) :: es) (e :: ens)
theorem EntsAre.length {es : List (Int × V × V)} {ens : List DictEntry} (r : EntsAre es ens) : es.length = ens.length := by
  induction r with
  | nil => rfl
  | cons _ _ _ _ ih => simp [ih]
/-- the dict at a has these entries: hash, key, value -/
def DE (a : Addr) (es : List (Int × V × V)) (h : Heap) : Prop :=
  es.length ≤ sizeLine ∧ (a == sysModules) = false ∧ ∃ o arr ep, h.get? a = some o ∧ o.ExactDict ∧ o.data = .dict arr ep ∧ EntsAre es arr.toList
def dh (a : Addr) (es : List (Int × V × V)) : HO := .ext (DE a es)

/-! ### data and values -/
def SqF (K : PySem.W.Frag) (H : Hp) (a : Addr) (xs : List V) : Prop :=
  (∃ o, H a = some (.frz o (.lst xs))) ∨
    ∃ (o : Obj) (its : Array Value) (n : Nat), K.lookup a = some o ∧ o.cls = .type "list" ∧ o.dict = none ∧ o.data = .seq its n ∧ its.size ≤ sizeLine ∧ Vals xs its.toList
theorem SqF.sql {K : PySem.W.Frag} {H : Hp} {a : Addr} {xs : List V} (h : SqF K H a xs) : SqL K H a xs := by
  rcases h with ⟨o, h⟩ | h
  · exact .inl (.inr ⟨o, h⟩)
  · exact .inr h
/-- a tuple of which nothing hangs beside its items -/
def SqS (K : PySem.W.Frag) (H : Hp) (a : Addr) (xs : List V) : Prop :=
  (∃ o, H a = some (.frz o (.tup xs)) ∧ o.dict = none) ∨
    ∃ (o : Obj) (its : Array Value) (n : Nat), K.lookup a = some o ∧ o.cls = .type "tuple" ∧ o.dict = none ∧ o.data = .seq its n ∧ its.size ≤ sizeLine ∧ Vals xs its.toList
theorem SqS.sqt {K : PySem.W.Frag} {H : Hp} {a : Addr} {xs : List V} (h : SqS K H a xs) : SqT K H a xs := by
  rcases h with ⟨o, h, _⟩ | ⟨o, its, n, h1, h2, _, h3, h4, h5⟩
  · exact .inl (.inr ⟨o, h⟩)
  · exact .inr ⟨o, its, n, h1, h2, h3, h4, h5⟩
/-- keys apart, each of them fit -/
def DOk (kvs : List (D × D)) : Prop := (∀ p ∈ kvs, kfit p.1 = true) ∧ (kvs.map (·.1)).Nodup

section
variable (K : PySem.W.Frag) (w : World) (H : Hp)
mutual
def Rp : D → V → Prop
  | .non, v => v = .non
  | .bl b, v => v = .bl b
  | .int i, v => v = .int i
  | .str x, v => v = .str x
  | .ref a, v => v = .ref a
  | .tup ds, v => ∃ a xs, v = .ref a ∧ SqS K H a xs ∧ Rps ds xs
  | .lst ds, v => ∃ a xs, v = .ref a ∧ SqF K H a xs ∧ Rps ds xs
  | .dct kvs, v => ∃ a es, v = .ref a ∧ (∃ o, H a = some (.frz o (dh a es))) ∧ DOk kvs ∧ Rpk kvs es
  | .ml _, _ => False
  | .md _, _ => False
def Rps : List D → List V → Prop
  | [], xs => xs = []
  | d :: ds, xs => ∃ x r, xs = x :: r ∧ Rp d x ∧ Rps ds r
def Rpk : List (D × D) → List (Int × V × V) → Prop
  | [], es => es = []
  | (k, d) :: kvs, es => ∃ x y r, es = ((dk k).hash w, x, y) :: r ∧ Rp k x ∧ Rp d y ∧ Rpk kvs r
end
end

/-- tuples and what nobody changes any more stay -/
def Pers (H H' : Hp) : Prop := (∀ b xs, H b = some (.tup xs) → H' b = some (.tup xs)) ∧ ∀ b o u, H b = some (.frz o u) → H' b = some (.frz o u)
theorem Pers.refl (H : Hp) : Pers H H := ⟨fun _ _ h => h, fun _ _ _ h => h⟩
theorem Pers.trans {H H1 H2 : Hp} (a : Pers H H1) (b : Pers H1 H2) : Pers H H2 := ⟨fun _ _ h => b.1 _ _ (a.1 _ _ h), fun _ _ _ h => b.2 _ _ _ (a.2 _ _ _ h)⟩
/-- all that was tracked is as it was -/
abbrev Ext (H H' : Hp) : Prop := ∀ b o, H b = some o → H' b = some o
theorem Pers.of_ext {H H' : Hp} (e : Ext H H') : Pers H H' := ⟨fun _ _ h => e _ _ h, fun _ _ _ h => e _ _ h⟩
theorem ext_upd {H : Hp} {p : Addr} {o : HO} (h : H p = none) : Ext H (upd H p o) := fun b u e => by
  rw [upd_ne (ne_of_none e h)]; exact e
/-- a thing that may change is replaced -/
def Chg (o : HO) : Prop := (∀ xs, o ≠ .tup xs) ∧ ∀ b u, o ≠ .frz b u
theorem pers_upd {H : Hp} {p : Addr} {o u : HO} (h : H p = some o) (c : Chg o) : Pers H (upd H p u) := by
  refine ⟨fun b xs e => ?_, fun b v z e => ?_⟩
  · have : b ≠ p := fun q => by rw [q, h] at e; cases e; exact c.1 _ rfl
    rw [upd_ne this]; exact e
  · have : b ≠ p := fun q => by rw [q, h] at e; cases e; exact c.2 _ _ rfl
    rw [upd_ne this]; exact e
theorem chg_lst {xs : List V} : Chg (.lst xs) := ⟨(fun _ h => nomatch h), (fun _ _ h => nomatch h)⟩
theorem chg_dh {a : Addr} {es : List (Int × V × V)} : Chg (dh a es) := ⟨fun _ (h : HO.ext _ = _) => (nomatch h), fun _ _ (h : HO.ext _ = _) => (nomatch h)⟩
theorem chg_ins {C dx : Addr} {fs : List (Str × V)} : Chg (.ins C dx fs) := ⟨(fun _ h => nomatch h), (fun _ _ h => nomatch h)⟩

section
variable {K : PySem.W.Frag} {w : World} {H H' : Hp}
theorem SqT.pers {a : Addr} {xs : List V} (p : Pers H H') (h : SqT K H a xs) : SqT K H' a xs := by
  rcases h with (h | ⟨o, h⟩) | h
  · exact .inl (.inl (p.1 _ _ h))
  · exact .inl (.inr ⟨o, p.2 _ _ _ h⟩)
  · exact .inr h
theorem SqS.pers {a : Addr} {xs : List V} (p : Pers H H') (h : SqS K H a xs) : SqS K H' a xs := by
  rcases h with ⟨o, h, d⟩ | h
  · exact .inl ⟨o, p.2 _ _ _ h, d⟩
  · exact .inr h
theorem SqF.pers {a : Addr} {xs : List V} (p : Pers H H') (h : SqF K H a xs) : SqF K H' a xs := by
  rcases h with ⟨o, h⟩ | h
  · exact .inl ⟨o, p.2 _ _ _ h⟩
  · exact .inr h
mutual
theorem Rp.pers (p : Pers H H') : ∀ {d : D} {v : V}, Rp K w H d v → Rp K w H' d v
  | .non, _, h => by rw [Rp] at h ⊢; exact h
  | .bl _, _, h => by rw [Rp] at h ⊢; exact h
  | .int _, _, h => by rw [Rp] at h ⊢; exact h
  | .str _, _, h => by rw [Rp] at h ⊢; exact h
  | .ref _, _, h => by rw [Rp] at h ⊢; exact h
  | .tup ds, _, h => by
    rw [Rp] at h ⊢
    obtain ⟨a, xs, e, s, r⟩ := h
    exact ⟨a, xs, e, SqS.pers p s, Rps.pers p r⟩
  | .lst ds, _, h => by
    rw [Rp] at h ⊢
    obtain ⟨a, xs, e, s, r⟩ := h
    exact ⟨a, xs, e, s.pers p, Rps.pers p r⟩
  | .dct kvs, _, h => by
    rw [Rp] at h ⊢
    obtain ⟨a, es, e, ⟨o, s⟩, k, r⟩ := h
    exact ⟨a, es, e, ⟨o, p.2 _ _ _ s⟩, k, Rpk.pers p r⟩
  | .ml _, _, h => by rw [Rp] at h; exact h.elim
  | .md _, _, h => by rw [Rp] at h; exact h.elim
theorem Rps.pers (p : Pers H H') : ∀ {ds : List D} {xs : List V}, Rps K w H ds xs → Rps K w H' ds xs
  | [], _, h => by rw [Rps] at h ⊢; exact h
  | d :: ds, _, h => by
    rw [Rps] at h ⊢
    obtain ⟨x, r, e, h1, h2⟩ := h
    exact ⟨x, r, e, Rp.pers p h1, Rps.pers p h2⟩
theorem Rpk.pers (p : Pers H H') : ∀ {kvs : List (D × D)} {es : List (Int × V × V)}, Rpk K w H kvs es → Rpk K w H' kvs es
  | [], _, h => by rw [Rpk] at h ⊢; exact h
  | (k, d) :: kvs, _, h => by
    rw [Rpk] at h ⊢
    obtain ⟨x, y, r, e, h1, h2, h3⟩ := h
    exact ⟨x, y, r, e, Rp.pers p h1, Rp.pers p h2, Rpk.pers p h3⟩
end
theorem Rps.length : ∀ {ds : List D} {xs : List V}, Rps K w H ds xs → xs.length = ds.length
  | [], _, h => by rw [Rps] at h; rw [h]; rfl
  | d :: ds, _, h => by
    rw [Rps] at h
    obtain ⟨x, r, rfl, _, h2⟩ := h
    rw [List.length_cons, List.length_cons, Rps.length h2]
theorem Rps.append : ∀ {ds es : List D} {xs ys : List V}, Rps K w H ds xs → Rps K w H es ys → Rps K w H (ds ++ es) (xs ++ ys)
  | [], _, _, _, h, h' => by rw [Rps] at h; rw [h]; exact h'
  | d :: ds, _, _, _, h, h' => by
    rw [Rps] at h
    obtain ⟨x, r, rfl, h1, h2⟩ := h
    show Rps K w H (d :: (ds ++ _)) (x :: (r ++ _))
    rw [Rps]
    exact ⟨x, _, rfl, h1, Rps.append h2 h'⟩
theorem Rps.one {d : D} {v : V} (h : Rp K w H d v) : Rps K w H [d] [v] := by rw [Rps]; exact ⟨v, [], rfl, h, by rw [Rps]⟩
theorem Rps.nil : Rps K w H [] [] := by rw [Rps]
theorem Rps.cons {d : D} {v : V} {ds : List D} {xs : List V} (h : Rp K w H d v) (t : Rps K w H ds xs) : Rps K w H (d :: ds) (v :: xs) := by rw [Rps]; exact ⟨v, xs, rfl, h, t⟩
theorem Rps.get : ∀ {ds : List D} {xs : List V} {i : Nat} {d : D}, Rps K w H ds xs → ds[i]? = some d → ∃ v, xs[i]? = some v ∧ Rp K w H d v
  | [], _, _, _, _, e => by simp at e
  | d :: ds, _, i, _, h, e => by
    rw [Rps] at h
    obtain ⟨x, r, rfl, h1, h2⟩ := h
    cases i with
    | zero => simp at e; subst e; exact ⟨x, rfl, h1⟩
    | succ i => exact Rps.get (i := i) h2 (by simpa using e)
theorem Rps.getV : ∀ {ds : List D} {xs : List V} {i : Nat} {v : V}, Rps K w H ds xs → xs[i]? = some v → ∃ d, ds[i]? = some d ∧ Rp K w H d v
  | [], _, _, _, h, e => by rw [Rps] at h; subst h; simp at e
  | d :: ds, _, i, _, h, e => by
    rw [Rps] at h
    obtain ⟨x, r, rfl, h1, h2⟩ := h
    cases i with
    | zero => simp at e; subst e; exact ⟨d, rfl, h1⟩
    | succ i => exact Rps.getV (i := i) h2 (by simpa using e)
theorem Rps.set : ∀ {ds : List D} {xs : List V} {d : D} {v : V} (i : Nat), Rps K w H ds xs → Rp K w H d v → Rps K w H (ds.set i d) (xs.set i v)
  | [], _, _, _, _, h, _ => by rw [Rps] at h; subst h; exact Rps.nil
  | e :: ds, _, d, v, i, h, r => by
    rw [Rps] at h
    obtain ⟨x, q, rfl, h1, h2⟩ := h
    cases i with
    | zero => exact Rps.cons r h2
    | succ i => exact Rps.cons h1 (Rps.set i h2 r)
theorem Rps.take : ∀ {ds : List D} {xs : List V} (n : Nat), Rps K w H ds xs → Rps K w H (ds.take n) (xs.take n)
  | _, _, 0, _ => by simp [Rps.nil]
  | [], _, n + 1, h => by rw [Rps] at h; subst h; exact Rps.nil
  | d :: ds, _, n + 1, h => by
    rw [Rps] at h
    obtain ⟨x, q, rfl, h1, h2⟩ := h
    exact Rps.cons h1 (Rps.take n h2)
theorem Rps.drop : ∀ {ds : List D} {xs : List V} (n : Nat), Rps K w H ds xs → Rps K w H (ds.drop n) (xs.drop n)
  | _, _, 0, h => h
  | [], _, n + 1, h => by rw [Rps] at h; subst h; exact Rps.nil
  | d :: ds, _, n + 1, h => by
    rw [Rps] at h
    obtain ⟨x, q, rfl, h1, h2⟩ := h
    exact Rps.drop n h2
theorem Rps.reverse {ds : List D} {xs : List V} (h : Rps K w H ds xs) : Rps K w H ds.reverse xs.reverse := by
  induction ds generalizing xs with
  | nil => rw [Rps] at h; subst h; exact Rps.nil
  | cons d ds ih =>
    rw [Rps] at h
    obtain ⟨x, q, rfl, h1, h2⟩ := h
    rw [List.reverse_cons, List.reverse_cons]
    exact (ih h2).append (Rps.one h1)
theorem Rps.eraseIdx : ∀ {ds : List D} {xs : List V} (i : Nat), Rps K w H ds xs → Rps K w H (ds.eraseIdx i) (xs.eraseIdx i)
  | [], _, _, h => by rw [Rps] at h; subst h; exact Rps.nil
  | d :: ds, _, i, h => by
    rw [Rps] at h
    obtain ⟨x, q, rfl, h1, h2⟩ := h
    cases i with
    | zero => exact h2
    | succ i => exact Rps.cons h1 (Rps.eraseIdx i h2)
end

/-! ### what is not data alone -/
/-- an abstract object -/
inductive Ob where
  | lst (xs : List D) | dct (kvs : List (D × D)) | ins (C : Addr) (fs : List (Str × D))
abbrev AH := Addr → Option Ob
def put (A : AH) (a : Addr) (o : Ob) : AH := fun b => if b = a then some o else A b
theorem put_same {A : AH} {a : Addr} {o : Ob} : put A a o a = some o := by unfold put; rw [if_pos rfl]
theorem put_ne {A : AH} {a b : Addr} {o : Ob} (h : b ≠ a) : put A a o b = A b := by unfold put; rw [if_neg h]
theorem put_put {A : AH} {a : Addr} {o u : Ob} : put (put A a o) a u = put A a u := by
  funext b; unfold put; split <;> rfl

def own : D → Bool
  | .ml _ => true | .md _ => true | _ => false
/-- let go: nobody changes it any more -/
def frz : D → D
  | .ml xs => .lst xs | .md kvs => .dct kvs | d => d
def obOf : D → Option Ob
  | .ml xs => some (.lst xs) | .md kvs => some (.dct kvs) | _ => none

section
variable (K : PySem.W.Frag) (w : World) (H : Hp)
def Rpf : List (Str × D) → List (Str × V) → Prop
  | [], xs => xs = []
  | (f, d) :: r, xs => ∃ v q, xs = (f, v) :: q ∧ Rp K w H d v ∧ Rpf r q
/-- the object at a is this -/
def RpO (a : Addr) : Ob → Prop
  | .lst ds => ∃ xs, H a = some (.lst xs) ∧ Rps K w H ds xs
  | .dct kvs => ∃ es, H a = some (dh a es) ∧ DOk kvs ∧ Rpk K w H kvs es
  | .ins C fs => ∃ dx xs, H a = some (.ins C dx xs) ∧ Rpf K w H fs xs
/-- a value, perhaps one that is held here alone -/
def RpV : D → V → Prop
  | .ml ds, v => ∃ a, v = .ref a ∧ RpO K w H a (.lst ds)
  | .md kvs, v => ∃ a, v = .ref a ∧ RpO K w H a (.dct kvs)
  | d, v => Rp K w H d v
end
section
variable {K : PySem.W.Frag} {w : World} {H H' : Hp}
theorem Rpf.pers (p : Pers H H') : ∀ {fs : List (Str × D)} {xs : List (Str × V)}, Rpf K w H fs xs → Rpf K w H' fs xs
  | [], _, h => h
  | (f, d) :: r, _, ⟨v, q, e, h1, h2⟩ => ⟨v, q, e, h1.pers p, h2.pers p⟩
theorem RpO.keep {a : Addr} {o : Ob} (p : Pers H H') (e : H' a = H a) (h : RpO K w H a o) : RpO K w H' a o := by
  cases o with
  | lst ds => obtain ⟨xs, h1, h2⟩ := h; exact ⟨xs, by rw [e]; exact h1, h2.pers p⟩
  | dct kvs => obtain ⟨es, h1, h2, h3⟩ := h; exact ⟨es, by rw [e]; exact h1, h2, h3.pers p⟩
  | ins C fs => obtain ⟨dx, xs, h1, h2⟩ := h; exact ⟨dx, xs, by rw [e]; exact h1, h2.pers p⟩
theorem RpO.there {a : Addr} {o : Ob} (h : RpO K w H a o) : ∃ u, H a = some u ∧ Chg u := by
  cases o with
  | lst ds => obtain ⟨xs, h1, _⟩ := h; exact ⟨_, h1, chg_lst⟩
  | dct kvs => obtain ⟨es, h1, _⟩ := h; exact ⟨_, h1, chg_dh⟩
  | ins C fs => obtain ⟨dx, xs, h1, _⟩ := h; exact ⟨_, h1, chg_ins⟩
theorem RpV.rp {d : D} {v : V} (o : own d = false) (h : RpV K w H d v) : Rp K w H d v := by
  cases d <;> first | exact h | (simp [own] at o)
theorem RpV.of {d : D} {v : V} (h : Rp K w H d v) : RpV K w H d v := by
  cases d <;> first | exact h | (rw [Rp] at h; exact h.elim)
theorem Rp.notOwn {d : D} {v : V} (h : Rp K w H d v) : own d = false := by
  cases d <;> first | rfl | (rw [Rp] at h; exact h.elim)
theorem RpV.ob {d : D} {v : V} (o : own d = true) (h : RpV K w H d v) : ∃ a ob, v = .ref a ∧ obOf d = some ob ∧ RpO K w H a ob := by
  cases d with
  | ml ds => obtain ⟨a, e, h⟩ := h; exact ⟨a, _, e, rfl, h⟩
  | md ds => obtain ⟨a, e, h⟩ := h; exact ⟨a, _, e, rfl, h⟩
  | _ => simp [own] at o
theorem RpV.mk {d : D} {a : Addr} {ob : Ob} (e : obOf d = some ob) (h : RpO K w H a ob) : RpV K w H d (.ref a) := by
  cases d with
  | ml ds => simp [obOf] at e; subst e; exact ⟨a, rfl, h⟩
  | md ds => simp [obOf] at e; subst e; exact ⟨a, rfl, h⟩
  | _ => simp [obOf] at e
theorem RpV.keep {d : D} {v : V} (p : Pers H H') (h : RpV K w H d v) (k : own d = true → ∀ a, v = .ref a → H' a = H a) : RpV K w H' d v := by
  cases o : own d with
  | false => exact .of ((h.rp o).pers p)
  | true =>
    obtain ⟨a, ob, e, eo, r⟩ := h.ob o
    subst e
    exact .mk eo (r.keep p (k o a rfl))
end
end T3
set_option autoImplicit false
namespace T3
open PySem PySem.Spec PyProof.Rows L2

abbrev S3 := List (Option D)
/-- the entry of the def: the abstract heaps there -/
structure Ct where
  H0 : Hp
  A0 : AH
structure Rel (K : PySem.W.Frag) (w : World) (C : Ct) (A : AH) (H : Hp) : Prop where
  heap : ∀ a ob, A a = some ob → RpO K w H a ob
  prot : ∀ b o, C.H0 b = some o → C.A0 b = none → H b = some o
  dom : ∀ a, A a ≠ none → C.A0 a ≠ none ∨ C.H0 a = none
  mono : ∀ b, H b = none → C.H0 b = none
structure Slots (K : PySem.W.Frag) (w : World) (C : Ct) (z : S3) (A : AH) (σ : L2.St) (H : Hp) : Prop where
  val : ∀ (i : Nat) (d : D), z[i]? = some (some d) → ∃ v, σ[i]? = some (some v) ∧ RpV K w H d v
  sep : ∀ (i : Nat) (d : D) (a : Addr), z[i]? = some (some d) → own d = true → σ[i]? = some (some (V.ref a)) → A a = none ∧ C.H0 a = none
  uniq : ∀ (i j : Nat) (d e : D) (a : Addr), z[i]? = some (some d) → own d = true → z[j]? = some (some e) → own e = true → σ[i]? = some (some (V.ref a)) → σ[j]? = some (some (V.ref a)) → i = j
  len : z.length = σ.length
/-- a value at hand: what it holds alone nobody else holds -/
structure Tmp (K : PySem.W.Frag) (w : World) (C : Ct) (z : S3) (A : AH) (σ : L2.St) (H : Hp) (d : D) (v : V) : Prop where
  val : RpV K w H d v
  alone : own d = true → ∀ a, v = V.ref a → A a = none ∧ C.H0 a = none ∧ ∀ (i : Nat) (e : D), z[i]? = some (some e) → own e = true → σ[i]? ≠ some (some (V.ref a))

section
variable {K : PySem.W.Frag} {w : World} {C : Ct} {z : S3} {A : AH} {σ : L2.St} {H H' : Hp} {d : D} {v : V}
theorem Rel.afresh (r : Rel K w C A H) {p : Addr} (h : H p = none) : A p = none := by
  cases e : A p with
  | none => rfl
  | some ob => obtain ⟨u, q, _⟩ := (r.heap p ob e).there; rw [h] at q; cases q
theorem ext_eq {a : Addr} {u : HO} (e : Ext H H') (h : H a = some u) : H' a = H a := by rw [h]; exact e _ _ h
theorem Rel.ext (r : Rel K w C A H) (e : Ext H H') : Rel K w C A H' where
  heap := fun a ob h => by
    have q := r.heap a ob h
    obtain ⟨u, hu, _⟩ := q.there
    exact q.keep (.of_ext e) (ext_eq e hu)
  prot := fun b o h1 h2 => e _ _ (r.prot b o h1 h2)
  dom := r.dom
  mono := fun b h => r.mono b (by
    cases q : H b with
    | none => rfl
    | some u => rw [e _ _ q] at h; cases h)
theorem RpV.ext (h : RpV K w H d v) (e : Ext H H') : RpV K w H' d v := h.keep (.of_ext e) fun o a ev => by
  obtain ⟨b, ob, eb, _, r⟩ := h.ob o
  rw [ev] at eb; cases eb
  obtain ⟨u, hu, _⟩ := r.there
  exact ext_eq e hu
theorem Slots.ext (s : Slots K w C z A σ H) (e : Ext H H') : Slots K w C z A σ H' where
  val := fun i d h => let ⟨v, h1, h2⟩ := s.val i d h; ⟨v, h1, h2.ext e⟩
  sep := s.sep
  uniq := s.uniq
  len := s.len
theorem Tmp.ext (t : Tmp K w C z A σ H d v) (e : Ext H H') : Tmp K w C z A σ H' d v := ⟨t.val.ext e, t.alone⟩
theorem Tmp.of (h : Rp K w H d v) : Tmp K w C z A σ H d v := ⟨.of h, fun o => by rw [h.notOwn] at o; cases o⟩
/-- something new, held alone -/
theorem Tmp.new (r : Rel K w C A H) (s : Slots K w C z A σ H) {p : Addr} {ob : Ob} (h : H p = none) (eo : obOf d = some ob) (q : RpO K w H' p ob) : Tmp K w C z A σ H' d (.ref p) := by
  refine ⟨.mk eo q, fun _ a ea => ?_⟩
  cases ea
  refine ⟨r.afresh h, r.mono _ h, fun i e hi oe hs => ?_⟩
  obtain ⟨u, hu, ru⟩ := s.val i e hi
  rw [hs] at hu; cases hu
  obtain ⟨b, ob', eb, _, rb⟩ := ru.ob oe
  cases eb
  obtain ⟨_, hb, _⟩ := rb.there
  rw [h] at hb; cases hb
/-- stored at a name -/
theorem Slots.set (s : Slots K w C z A σ H) (t : Tmp K w C z A σ H d v) (i : Nat) : Slots K w C (z.set i (some d)) A (σ.set i (some v)) H where
  val := fun j e h => by
    by_cases hj : i = j
    · subst hj
      rw [List.getElem?_set] at h
      split at h
      · split at h
        · rename_i hl
          cases h
          exact ⟨v, by rw [List.getElem?_set_self (by rw [← s.len]; exact hl)], t.val⟩
        · cases h
      · rename_i hne; exact absurd rfl hne
    · rw [List.getElem?_set_ne hj] at h
      obtain ⟨u, h1, h2⟩ := s.val j e h
      exact ⟨u, by rw [List.getElem?_set_ne hj]; exact h1, h2⟩
  sep := fun j e a h o hs => by
    by_cases hj : i = j
    · subst hj
      rw [List.getElem?_set] at h
      split at h
      · split at h
        · rename_i hl
          cases h
          rw [List.getElem?_set_self (by rw [← s.len]; exact hl)] at hs
          cases hs
          exact ⟨(t.alone o a rfl).1, (t.alone o a rfl).2.1⟩
        · cases h
      · rename_i hne; exact absurd rfl hne
    · rw [List.getElem?_set_ne hj] at h hs
      exact s.sep j e a h o hs
  uniq := fun j k e f a h1 o1 h2 o2 s1 s2 => by
    have hz : ∀ {j : Nat} {e : D}, i = j → (z.set i (some d))[j]? = some (some e) → e = d ∧ (σ.set i (some v))[j]? = some (some v) := by
      intro j e ej h
      subst ej
      rw [List.getElem?_set] at h
      split at h
      · split at h
        · rename_i hl
          cases h
          exact ⟨rfl, by rw [List.getElem?_set_self (by rw [← s.len]; exact hl)]⟩
        · cases h
      · rename_i hne; exact absurd rfl hne
    by_cases hj : i = j
    · by_cases hk : i = k
      · exact hj.symm.trans hk
      · obtain ⟨ee, q⟩ := hz hj h1
        subst ee
        rw [q] at s1; cases s1
        rw [List.getElem?_set_ne hk] at h2 s2
        exact absurd s2 ((t.alone o1 a rfl).2.2 k f h2 o2)
    · by_cases hk : i = k
      · obtain ⟨ee, q⟩ := hz hk h2
        subst ee
        rw [q] at s2; cases s2
        rw [List.getElem?_set_ne hj] at h1 s1
        exact absurd s1 ((t.alone o2 a rfl).2.2 j e h1 o1)
      · rw [List.getElem?_set_ne hj] at h1 s1
        rw [List.getElem?_set_ne hk] at h2 s2
        exact s.uniq j k e f a h1 o1 h2 o2 s1 s2
  len := by rw [List.length_set, List.length_set]; exact s.len
end

/-! ### readings -/
abbrev TE3 := S3 → AH → (D → AH → Prop) → Prop
abbrev TT3 := S3 → AH → (Bool → AH → Prop) → Prop
abbrev TA3 := S3 → AH → (List D → AH → Prop) → Prop
/-- an exception: its class, its fields -/
abbrev X3 := Addr → List (Str × D) → AH → Prop
structure Ends3 where
  nx : S3 → AH → Prop
  rt : D → AH → Prop
  bk : S3 → AH → Prop := fun _ _ => False
  ct : S3 → AH → Prop := fun _ _ => False
abbrev TS3 := Ends3 → S3 → AH → Prop

/-- read where it stands: as data, or where a slot alone holds it -/
def RpB (K : PySem.W.Frag) (w : World) (z : S3) (σ : L2.St) (H : Hp) (d : D) (v : V) : Prop :=
  Rp K w H d v ∨ ∃ (i : Nat) (e : D), z[i]? = some (some e) ∧ own e = true ∧ d = frz e ∧ σ[i]? = some (some v)
inductive RpBs (K : PySem.W.Frag) (w : World) (z : S3) (σ : L2.St) (H : Hp) : List D → List V → Prop
  | nil : RpBs K w z σ H [] []
  | cons {d v ds vs} : RpB K w z σ H d v → RpBs K w z σ H ds vs → RpBs K w z σ H (d :: ds) (v :: vs)
section
variable (K : PySem.W.Frag) (w : World) (C : Ct)
def low (t : TE3) : TE := fun σ H Q => ∃ z A Q3, Rel K w C A H ∧ Slots K w C z A σ H ∧ t z A Q3 ∧
  ∀ d A' v H', Q3 d A' → Rel K w C A' H' → Slots K w C z A' σ H' → Pers H H' → Tmp K w C z A' σ H' d v → Q v H'
def lowB (t : TE3) : TE := fun σ H Q => ∃ z A Q3, Rel K w C A H ∧ Slots K w C z A σ H ∧ t z A Q3 ∧
  ∀ d A' v H', Q3 d A' → Rel K w C A' H' → Slots K w C z A' σ H' → Pers H H' → RpB K w z σ H' d v → Q v H'
def lowT (t : TT3) : TT := fun σ H Q => ∃ z A Q3, Rel K w C A H ∧ Slots K w C z A σ H ∧ t z A Q3 ∧
  ∀ b A' H', Q3 b A' → Rel K w C A' H' → Slots K w C z A' σ H' → Pers H H' → Q b H'
/-- arguments, let go each -/
def lowA (t : TA3) : TA := fun σ H Q => ∃ z A Q3, Rel K w C A H ∧ Slots K w C z A σ H ∧ t z A Q3 ∧
  ∀ ds A' vs H', Q3 ds A' → Rel K w C A' H' → Slots K w C z A' σ H' → Pers H H' → Rps K w H' ds vs → Q vs H'
/-- .. read where they stand -/
def lowAB (t : TA3) : TA := fun σ H Q => ∃ z A Q3, Rel K w C A H ∧ Slots K w C z A σ H ∧ t z A Q3 ∧
  ∀ ds A' vs H', Q3 ds A' → Rel K w C A' H' → Slots K w C z A' σ H' → Pers H H' → RpBs K w z σ H' ds vs → Q vs H'
/-- hb: the abstract heap at the start; what is data there stays data -/
structure Fits3 (hb : Hp) (D3 : Ends3) (D : Ends) : Prop where
  nx : ∀ z A σ H, D3.nx z A → Rel K w C A H → Slots K w C z A σ H → Pers hb H → D.nx σ H
  rt : ∀ d A v H, D3.rt d A → Rel K w C A H → RpV K w H d v → (own d = true → ∀ a, v = V.ref a → A a = none ∧ C.H0 a = none) → Pers hb H → D.rt v H
  bk : ∀ z A σ H, D3.bk z A → Rel K w C A H → Slots K w C z A σ H → Pers hb H → D.bk σ H
  ct : ∀ z A σ H, D3.ct z A → Rel K w C A H → Slots K w C z A σ H → Pers hb H → D.ct σ H
def lowS (t : TS3) : TS := fun D σ H => ∃ z A D3, Rel K w C A H ∧ Slots K w C z A σ H ∧ t D3 z A ∧ Fits3 K w C H D3 D
end
theorem Fits3.later {K : PySem.W.Frag} {w : World} {C : Ct} {hb h2 : Hp} {D3 : Ends3} {D : Ends} (p : Pers hb h2) (f : Fits3 K w C hb D3 D) : Fits3 K w C h2 D3 D :=
  ⟨fun z A σ H a b c d => f.nx z A σ H a b c (p.trans d), fun d A v H a b c e g => f.rt d A v H a b c e (p.trans g), fun z A σ H a b c d => f.bk z A σ H a b c (p.trans d), fun z A σ H a b c d => f.ct z A σ H a b c (p.trans d)⟩
abbrev PE3 (X : Cx) (C : Ct) (e : Expr) (t : TE3) : Prop := PE X e (low X.K X.w C t)
abbrev PB3 (X : Cx) (C : Ct) (e : Expr) (t : TE3) : Prop := PE X e (lowB X.K X.w C t)
abbrev PT3 (X : Cx) (C : Ct) (e : Expr) (t : TT3) : Prop := PT X e (lowT X.K X.w C t)
abbrev PA3 (X : Cx) (C : Ct) (es : List Expr) (t : TA3) : Prop := PA X es (lowA X.K X.w C t)
abbrev PAB3 (X : Cx) (C : Ct) (es : List Expr) (t : TA3) : Prop := PA X es (lowAB X.K X.w C t)
abbrev PS3 (X : Cx) (C : Ct) (st : Stmt) (t : TS3) : Prop := PS X st (lowS X.K X.w C t)
abbrev PSs3 (X : Cx) (C : Ct) (st : List Stmt) (t : TS3) : Prop := PSs X st (lowS X.K X.w C t)

section
variable {X : Cx}
theorem PE.imp {e : Expr} {t t' : TE} (h : PE X e t) (i : ∀ σ H Q, t' σ H Q → t σ H Q) : PE X e t' := ⟨fun pins s σ H Q I q => h.run pins s σ H Q I (i σ H Q q)⟩
theorem PT.imp {e : Expr} {t t' : TT} (h : PT X e t) (i : ∀ σ H Q, t' σ H Q → t σ H Q) : PT X e t' := ⟨fun pins s σ H Q I q => h.run pins s σ H Q I (i σ H Q q)⟩
theorem PW.imp {e : Expr} {t t' : TT} (h : PW X e t) (i : ∀ σ H Q, t' σ H Q → t σ H Q) : PW X e t' := ⟨fun wh pins s σ H Q I q => h.run wh pins s σ H Q I (i σ H Q q)⟩
theorem PA.imp {e : List Expr} {t t' : TA} (h : PA X e t) (i : ∀ σ H Q, t' σ H Q → t σ H Q) : PA X e t' := ⟨fun p pins s σ H Q I q => h.run p pins s σ H Q I (i σ H Q q)⟩
theorem PS.imp {e : Stmt} {t t' : TS} (h : PS X e t) (i : ∀ D σ H, t' D σ H → t D σ H) : PS X e t' := ⟨fun pins s σ H D I q => h.run pins s σ H D I (i D σ H q)⟩
theorem PSs.imp {e : List Stmt} {t t' : TS} (h : PSs X e t) (i : ∀ D σ H, t' D σ H → t D σ H) : PSs X e t' := ⟨fun pins s σ H D I q => h.run pins s σ H D I (i D σ H q)⟩
/-- the wish may grow -/
theorem low.mono {K : PySem.W.Frag} {w : World} {C : Ct} {t : TE3} {σ : L2.St} {H : Hp} {Q Q' : VK} (h : low K w C t σ H Q) (i : ∀ v H', Q v H' → Q' v H') : low K w C t σ H Q' := by
  obtain ⟨z, A, Q3, r, s, q, f⟩ := h
  exact ⟨z, A, Q3, r, s, q, fun d A' v H' a b c e g => i _ _ (f d A' v H' a b c e g)⟩
end

/-! ### a thing is let go -/
section
variable {X : Cx} {pins : List (Addr × Obj)} {σ : L2.St} {H : Hp} {s : Shared} {a : Addr} {u : HO}
def CanFrz : HO → Bool
  | .lst _ => true | .ext _ => true | _ => false
theorem Inv.freeze (I : Inv X pins σ H s) (h : H a = some u) (m : CanFrz u = true) : ∃ o, Inv X pins σ (upd H a (.frz o u)) s := by
  have ok := I.hok a u h
  obtain ⟨o, ho⟩ : ∃ o, s.heap.get? a = some o := by
    cases u with
    | lst xs => obtain ⟨_, _, _, _, e⟩ := ok; exact ⟨_, e⟩
    | ext φ => exact ok.2.1
    | _ => simp [CanFrz] at m
  have nt : ∀ b xs, H b = some (.tup xs) → b ≠ a := fun b xs e q => by rw [q, h] at e; cases e; simp [CanFrz] at m
  have nf : ∀ b o' xs, H b = some (.frz o' xs) → b ≠ a := fun b o' xs e q => by rw [q, h] at e; cases e; simp [CanFrz] at m
  have nl : ∀ b ps, H b = some (.tbl ps) → b ≠ a := fun b ps e q => by rw [q, h] at e; cases e; simp [CanFrz] at m
  have nw : ∀ b y, H b = some (.own y) → b ≠ a := fun b y e q => by rw [q, h] at e; cases e; simp [CanFrz] at m
  refine ⟨o, ?_⟩
  have st : ∀ b v, H b = some v → ObjOk X.prog X.w (upd H a (.frz o u)) s.heap b v := fun b v e =>
    (I.hok b v e).stay (fun _ _ _ q => q) (fun c q => by rw [upd_ne (nw c b q)]; exact q) fun c xs q => by rw [upd_ne (nt c xs q)]; exact q
  refine I.un (h' := s.heap) (t' := s.toks) ⟨fun b ob e _ _ _ => e, fun b ob e _ _ _ => ⟨ob.slots, e⟩, fun b ob e n _ => ?_, fun b ob e _ => ⟨ob, e⟩,
    fun b xs e => by rw [upd_ne (nt b xs e)]; exact e, fun b o' xs e => by rw [upd_ne (nf b o' xs e)]; exact e, fun b ps e => ⟨#[], by rw [upd_ne (nl b ps e), e]; simp⟩⟩ fun b v e => ?_
  · have : b ≠ a := fun q => by rw [q, h] at n; cases n
    rw [upd_ne this]; exact n
  · by_cases hb : b = a
    · subst hb
      rw [upd_same] at e; cases e
      exact ⟨ho, st _ _ h⟩
    · rw [upd_ne hb] at e
      exact st _ _ e
/-- .. as a step of an expression's end -/
def tGo (t : TE) : TE := fun σ H Q => t σ H fun v H' => (∃ a u, v = V.ref a ∧ H' a = some u ∧ CanFrz u = true ∧ ∀ o, Q v (upd H' a (.frz o u))) ∨ Q v H'
theorem pe_go {e : Expr} {t : TE} (h : PE X e t) : PE X e (tGo t) := ⟨fun pins s σ H Q I q => by
  refine thn (h.run pins s σ H _ I q) fun u s1 ⟨v, H1, I1, r1, q1⟩ => ?_
  rcases q1 with ⟨a, x, rfl, hx, m, q1⟩ | q1
  · obtain ⟨o, I2⟩ := Inv.freeze I1 hx m
    exact ⟨_, _, I2, r1, q1 o⟩
  · exact ⟨v, H1, I1, r1, q1⟩⟩
end

section
variable {K : PySem.W.Frag} {w : World} {C : Ct} {z : S3} {A : AH} {σ : L2.St} {H : Hp} {d : D} {a : Addr} {u : HO} {o : Obj}
/-- an object that no one else holds changes: what stays -/
theorem Rel.alone (r : Rel K w C A H) (hA : A a = none) (h0 : C.H0 a = none) (h : H a = some u) (c : Chg u) {u' : HO} : Rel K w C A (upd H a u') where
  heap := fun b ob e => (r.heap b ob e).keep (pers_upd h c) (upd_ne fun q => by rw [q, hA] at e; cases e)
  prot := fun b x e1 e2 => by
    rw [upd_ne fun q => by rw [q, h0] at e1; cases e1]
    exact r.prot b x e1 e2
  dom := r.dom
  mono := fun b e => by
    by_cases hb : b = a
    · rw [hb]; exact h0
    · rw [upd_ne hb] at e; exact r.mono b e
/-- a temporary's own object: the slots stay -/
theorem Slots.alone (s : Slots K w C z A σ H) (h : H a = some u) (c : Chg u) (n : ∀ (i : Nat) (e : D), z[i]? = some (some e) → own e = true → σ[i]? ≠ some (some (V.ref a))) {u' : HO} : Slots K w C z A σ (upd H a u') where
  val := fun i e hi => by
    obtain ⟨v, h1, h2⟩ := s.val i e hi
    exact ⟨v, h1, h2.keep (pers_upd h c) fun o b eb => upd_ne fun q => n i e hi o (by rw [h1, eb, q])⟩
  sep := s.sep
  uniq := s.uniq
  len := s.len
theorem RpO.frz {ob : Ob} (h : RpO K w H a ob) (e : obOf d = some ob) : ∃ u, H a = some u ∧ CanFrz u = true ∧ Chg u ∧ ∀ o, Rp K w (upd H a (.frz o u)) (frz d) (.ref a) := by
  cases d with
  | ml ds =>
    simp [obOf] at e; subst e
    obtain ⟨xs, h1, h2⟩ := h
    refine ⟨_, h1, rfl, chg_lst, fun o => ?_⟩
    show Rp K w _ (.lst ds) _
    rw [Rp]
    exact ⟨a, xs, rfl, .inl ⟨o, upd_same⟩, h2.pers (pers_upd h1 chg_lst)⟩
  | md ds =>
    simp [obOf] at e; subst e
    obtain ⟨xs, h1, h2, h3⟩ := h
    refine ⟨_, h1, rfl, chg_dh, fun o => ?_⟩
    show Rp K w _ (.dct ds) _
    rw [Rp]
    exact ⟨a, xs, rfl, ⟨o, upd_same⟩, h2, h3.pers (pers_upd h1 chg_dh)⟩
  | _ => simp [obOf] at e
theorem frz_of {d : D} (h : own d = false) : frz d = d := by cases d <;> first | rfl | simp [own] at h
theorem own_ob {d : D} (h : own d = true) : ∃ ob, obOf d = some ob := by cases d <;> first | exact ⟨_, rfl⟩ | simp [own] at h
end

/-! ### expressions: let go; where they stand -/
def fz (t : TE3) : TE3 := fun z A Q => t z A fun d A' => Q (frz d) A'
section
variable {X : Cx} {C : Ct} {e : Expr} {t : TE3}
theorem pe_fz (h : PE3 X C e t) : PE X e fun σ H Q => ∃ z A Q3, Rel X.K X.w C A H ∧ Slots X.K X.w C z A σ H ∧ t z A Q3 ∧
    ∀ d A' v H', Q3 d A' → Rel X.K X.w C A' H' → Slots X.K X.w C z A' σ H' → Pers H H' → Rp X.K X.w H' (frz d) v → Q v H' := by
  refine PE.imp (pe_go h) fun σ H Q hq => ?_
  obtain ⟨z, A, Q3, r, s, q, f⟩ := hq
  refine ⟨z, A, Q3, r, s, q, fun d A' v H' q' r' s' p' t' => ?_⟩
  cases o : own d with
  | false => exact .inr (f d A' v H' q' r' s' p' (by rw [frz_of o]; exact t'.val.rp o))
  | true =>
    obtain ⟨a, ob, rfl, eo, ro⟩ := t'.val.ob o
    obtain ⟨u, hu, m, c, fr⟩ := ro.frz eo
    obtain ⟨n1, n2, n3⟩ := t'.alone o a rfl
    exact .inl ⟨a, u, rfl, hu, m, fun ob' => f d A' _ _ q' (r'.alone n1 n2 hu c) (s'.alone hu c n3) (p'.trans (pers_upd hu c)) (fr ob')⟩
/-- let go -/
theorem pe3_fz (h : PE3 X C e t) : PE3 X C e (fz t) := PE.imp (pe_fz h) fun σ H Q hq => by
  obtain ⟨z, A, Q3, r, s, q, f⟩ := hq
  exact ⟨z, A, _, r, s, q, fun d A' v H' q' r' s' p' t' => f _ A' v H' q' r' s' p' (.of t')⟩
/-- .. and read -/
theorem pb3 (h : PE3 X C e t) : PB3 X C e (fz t) := PE.imp (pe_fz h) fun σ H Q hq => by
  obtain ⟨z, A, Q3, r, s, q, f⟩ := hq
  exact ⟨z, A, _, r, s, q, fun d A' v H' q' r' s' p' t' => f _ A' v H' q' r' s' p' (.inl t')⟩
end

/-! ### tuples made: their objects told -/
def tupO (us : List Value) : Obj := { cls := .type "tuple", data := .seq us.toArray }
/-- the tuple xs at p, its object o -/
def TupAt (p : Addr) (o : Obj) (xs : List V) (H : Hp) : Hp := upd H p (.frz o (.tup xs))
section
variable {X : Cx} {pins : List (Addr × Obj)} {σ : L2.St} {H : Hp} {s : Shared}
/-- what is wanted behind a new tuple -/
def NewT (xs : List V) (H : Hp) (Q : VK) : Prop := ∀ p o, H p = none → o.dict = none → Q (.ref p) (TupAt p o xs H)
theorem newT_ep {us : List Value} {xs : List V} {Q : VK} {t' : Nat} (I : Inv X pins σ H s) (r : Vals xs us) (hz : xs.length ≤ sizeLine) (q : NewT xs H Q) : EP X pins σ Q (.ref s.heap.objs.size) { s with heap := s.heap.push (tupO us), toks := t' } := by
  have e : (s.heap.push (tupO us)).get? s.heap.objs.size = some (tupO us) := Heap.get?_push_size _ rfl
  exact ⟨.ref s.heap.objs.size, _, I.laid (t' := t') (o := .frz (tupO us) (.tup xs)) (fun b u e => Heap.get?_push_of_some _ e) (Nat.le_refl _) ⟨e, hz, us, r, ⟨_, e, rfl, _, rfl⟩⟩, rfl, q _ _ (I.hok.fresh (Nat.le_refl _)) rfl⟩
def tTupS (t : TA) : TE := fun σ H Q => t σ H fun xs H1 => xs.length ≤ sizeLine ∧ NewT xs H1 Q
theorem pe_tupS {es : List Expr} {t : TA} {x1 pos} (h : PA X es t) : PE X (.Tuple es x1 pos) (tTupS t) := ⟨fun pins s σ H Q I hq =>
  wpAny_Tuple_spliced (thn (h.run pos pins s σ H _ I hq) fun us s1 ⟨xs, H1, I1, r, z, q⟩ => ⟨by rw [← r.length]; exact z, newT_ep (t' := s1.toks) I1 r z q⟩)⟩
def rTupleS (K : PySem.W.Frag) : List V → Hp → VK → Prop := fun xs H Q => ∃ p ys, xs = [.ref p] ∧ ((SqL K H p ys ∧ NewT ys H Q) ∨ (SqT K H p ys ∧ Q (.ref p) H))
theorem call_tupleS : CallR X (.type "tuple") (rTupleS X.K) := fun pins s σ H xs us Q I r h => by
  obtain ⟨p, ys, rfl, h⟩ := h
  obtain ⟨u, rfl, rx⟩ := vals1 r
  cases rx
  rcases h with ⟨hq, q⟩ | ⟨hq, q⟩
  · obtain ⟨its, rv, pl, hz⟩ := I.list hq
    have hl := rv.length
    refine call_tuple_list pl.isList (fun h' kp => ?_) (by simp only [List.size_toArray] <;> omega)
    exact newT_ep (t' := s.toks) (I.kept (t' := s.toks) kp) rv hz q
  · obtain ⟨its, rv, pl, hz⟩ := I.tuple hq
    exact call_tuple_same pl ⟨.ref p, H, I, rfl, q⟩
def rCatS (K : PySem.W.Frag) : R2 := fun x y H Q => ∃ a b xs ys, x = .ref a ∧ y = .ref b ∧ SqT K H a xs ∧ SqT K H b ys ∧ xs.length + ys.length ≤ sizeLine ∧
  (xs = [] → Q (.ref b) H) ∧ (xs ≠ [] → ys = [] → Q (.ref a) H) ∧ (xs ≠ [] → ys ≠ [] → NewT (xs ++ ys) H Q)
theorem op_catS : OpR X (binaryOp .Add) (rCatS X.K) := fun pins s σ H x y v u Q I rx ry h => by
  obtain ⟨a, b, xs, ys, rfl, rfl, ha, hb, hz, q0, q1, q2⟩ := h
  by_cases hx : xs = []
  · exact op_catA pins s σ H _ _ v u Q I rx ry ⟨a, b, xs, ys, rfl, rfl, ha, hb, hz, q0, q1, fun h => absurd hx h⟩
  · cases rx
    cases ry
    obtain ⟨its, r1, p1, _⟩ := I.tuple ha
    obtain ⟨its2, r2, p2, _⟩ := I.tuple hb
    refine HT.cat_tup p1 p2 (fun z => hx (r1.nil_iff.mp z)) (fun z => ⟨.ref a, H, I, rfl, q1 hx (r2.nil_iff.mp z)⟩) (fun z => ?_) (by rw [← r1.length, ← r2.length]; exact hz)
    exact newT_ep (t' := s.toks) I (r1.append r2) (by rw [List.length_append]; exact hz) (q2 hx fun w => z (r2.nil_iff.mpr w))
def rSlS (K : PySem.W.Frag) : V → Option Int → Option Int → Hp → VK → Prop := fun x lo hi H Q => ∃ a xs, x = .ref a ∧ SqT K H a xs ∧
  (HT.sIx xs.length 0 lo = 0 ∧ HT.sIx xs.length xs.length hi = xs.length → Q (.ref a) H) ∧ (¬ (HT.sIx xs.length 0 lo = 0 ∧ HT.sIx xs.length xs.length hi = xs.length) → NewT (cutV xs lo hi) H Q)
theorem sl_tupS : SlR X (rSlS X.K) := fun pins s σ H x v vl vu lo hi sl Q I rx hs pl pu h => by
  obtain ⟨a, xs, rfl, hx, q1, q2⟩ := h
  by_cases hw : HT.sIx xs.length 0 lo = 0 ∧ HT.sIx xs.length xs.length hi = xs.length
  · exact sl_tupA pins s σ H _ v vl vu lo hi sl Q I rx hs pl pu ⟨a, xs, rfl, hx, q1, fun h => absurd hw h⟩
  · cases rx
    obtain ⟨its, r, ht, hz⟩ := I.tuple hx
    have hlen : its.toArray.size = xs.length := by rw [List.size_toArray]; exact r.length.symm
    refine ⟨"tuple", _, PyProof.Rows.slot_tuple_getitem.lookup, ht.typeIs, ?_⟩
    refine HT.getItem_tuple_cut ht hs pl pu (by rw [hlen]; exact hw) ?_ (by rw [hlen]; exact hz)
    rw [hlen]
    exact newT_ep (t' := s.toks) I ((r.drop (HT.sIx xs.length 0 lo)).take (HT.sIx xs.length xs.length hi - HT.sIx xs.length 0 lo)) (Nat.le_trans (cutV_length xs lo hi) hz) (q2 hw)
end
end T3
set_option autoImplicit false
namespace T3
open PySem PySem.Spec PyProof.Rows L2

section
variable {X : Cx} {C : Ct}
/-! ### names, constants -/
def eV (i : Nat) : TE3 := fun z A Q => ∃ d, z[i]? = some (some d) ∧ own d = false ∧ Q d A
def eB (i : Nat) : TE3 := fun z A Q => ∃ d, z[i]? = some (some d) ∧ Q (frz d) A
def eC (d : D) : TE3 := fun _ A Q => Q d A
theorem pe3_v {e : Expr} {i : Nat} (h : PE X e (tVar i)) : PE3 X C e (eV i) := PE.imp h fun σ H Q hq => by
  obtain ⟨z, A, Q3, r, s, ⟨d, h1, h2, q⟩, f⟩ := hq
  obtain ⟨v, hv, rv⟩ := s.val i d h1
  exact ⟨v, hv, f d A v H q r s (.refl H) (.of (rv.rp h2))⟩
theorem pb3_v {e : Expr} {i : Nat} (h : PE X e (tVar i)) : PB3 X C e (eB i) := PE.imp h fun σ H Q hq => by
  obtain ⟨z, A, Q3, r, s, ⟨d, h1, q⟩, f⟩ := hq
  obtain ⟨v, hv, rv⟩ := s.val i d h1
  refine ⟨v, hv, f _ A v H q r s (.refl H) ?_⟩
  cases o : own d with
  | false => rw [frz_of o]; exact .inl (rv.rp o)
  | true => exact .inr ⟨i, d, h1, o, rfl, hv⟩
theorem pe3_c {e : Expr} {v : V} {d : D} (h : PE X e (tC v)) (r : ∀ H, Rp X.K X.w H d v) : PE3 X C e (eC d) := PE.imp h fun σ H Q hq => by
  obtain ⟨z, A, Q3, r', s, q, f⟩ := hq
  exact f d A v H q r' s (.refl H) (.of (r H))
theorem pe3_int {i : Int} {j pos} : PE3 X C (.Constant (.int i) j pos) (eC (.int i)) := pe3_c pe_int fun _ => by rw [Rp]
theorem pe3_bl {b : Bool} {j pos} : PE3 X C (.Constant (.bool b) j pos) (eC (.bl b)) := pe3_c pe_bl fun _ => by rw [Rp]
theorem pe3_non {j pos} : PE3 X C (.Constant .none j pos) (eC .non) := pe3_c pe_non fun _ => by rw [Rp]
theorem pe3_str {x : Str} {j pos} : PE3 X C (.Constant (.str x) j pos) (eC (.str x)) := pe3_c pe_str fun _ => by rw [Rp]
/-- what is not held alone may be read as it is -/
theorem PB3.of {e : Expr} {t : TE3} (h : PE3 X C e t) : PB3 X C e (fz t) := pb3 h

/-! ### arguments -/
def aNil : TA3 := fun _ A Q => Q [] A
def aCons (t : TE3) (u : TA3) : TA3 := fun z A Q => t z A fun d A1 => u z A1 fun ds A2 => Q (d :: ds) A2
theorem pa3_nil : PA3 X C [] aNil := PA.imp pa_nil fun σ H Q hq => by
  obtain ⟨z, A, Q3, r, s, q, f⟩ := hq
  exact f [] A [] H q r s (.refl H) Rps.nil
theorem pa3_cons {e : Expr} {es : List Expr} {t : TE3} {u : TA3} (h : PE3 X C e t) (hr : PA3 X C es u) (hs : starEach (e :: es) X.env = (false, eval e X.env) :: starEach es X.env := by rfl) : PA3 X C (e :: es) (aCons (fz t) u) :=
  PA.imp (pa_cons (pe_fz h) hr hs) fun σ H Q hq => by
    obtain ⟨z, A, Q3, r, s, q, f⟩ := hq
    refine ⟨z, A, _, r, s, q, fun d A1 v H1 q1 r1 s1 p1 t1 => ⟨z, A1, _, r1, s1, q1, fun ds A2 vs H2 q2 r2 s2 p2 t2 => ?_⟩⟩
    exact f _ A2 _ H2 q2 r2 s2 (p1.trans p2) (Rps.cons (t1.pers p2) t2)
theorem RpB.later {K : PySem.W.Frag} {w : World} {z : S3} {σ : L2.St} {H H' : Hp} {d : D} {v : V} (h : RpB K w z σ H d v) (p : Pers H H') : RpB K w z σ H' d v := by
  rcases h with h | h
  · exact .inl (h.pers p)
  · exact .inr h
theorem pab3_nil : PAB3 X C [] aNil := PA.imp pa_nil fun σ H Q hq => by
  obtain ⟨z, A, Q3, r, s, q, f⟩ := hq
  exact f [] A [] H q r s (.refl H) .nil
theorem pab3_cons {e : Expr} {es : List Expr} {t : TE3} {u : TA3} (h : PB3 X C e t) (hr : PAB3 X C es u) (hs : starEach (e :: es) X.env = (false, eval e X.env) :: starEach es X.env := by rfl) : PAB3 X C (e :: es) (aCons t u) :=
  PA.imp (pa_cons h hr hs) fun σ H Q hq => by
    obtain ⟨z, A, Q3, r, s, q, f⟩ := hq
    refine ⟨z, A, _, r, s, q, fun d A1 v H1 q1 r1 s1 p1 t1 => ⟨z, A1, _, r1, s1, q1, fun ds A2 vs H2 q2 r2 s2 p2 t2 => ?_⟩⟩
    exact f _ A2 _ H2 q2 r2 s2 (p1.trans p2) (.cons (t1.later p2) t2)

/-! ### what is made: the answer of an operation that changes nothing -/
/-- v is d: d as data in H', or a new object held alone -/
def Gv (K : PySem.W.Frag) (w : World) (H H' : Hp) (d : D) (v : V) : Prop :=
  Ext H H' ∧ ((own d = false ∧ Rp K w H' d v) ∨ ∃ p ob, H p = none ∧ v = .ref p ∧ obOf d = some ob ∧ RpO K w H' p ob)
theorem Gv.rp {K : PySem.W.Frag} {w : World} {H H' : Hp} {d : D} {v : V} (e : Ext H H') (r : Rp K w H' d v) : Gv K w H H' d v := ⟨e, .inl ⟨r.notOwn, r⟩⟩
theorem Gv.same {K : PySem.W.Frag} {w : World} {H : Hp} {d : D} {v : V} (r : Rp K w H d v) : Gv K w H H d v := ⟨fun _ _ h => h, .inl ⟨r.notOwn, r⟩⟩
theorem Gv.lst {K : PySem.W.Frag} {w : World} {H : Hp} {ds : List D} {xs : List V} {p : Addr} (h : H p = none) (r : Rps K w H ds xs) : Gv K w H (upd H p (.lst xs)) (.ml ds) (.ref p) :=
  ⟨ext_upd h, .inr ⟨p, .lst ds, h, rfl, rfl, xs, upd_same, r.pers (.of_ext (ext_upd h))⟩⟩
theorem Gv.tup {K : PySem.W.Frag} {w : World} {H : Hp} {ds : List D} {xs : List V} {p : Addr} {o : Obj} (h : H p = none) (ho : o.dict = none) (r : Rps K w H ds xs) : Gv K w H (TupAt p o xs H) (.tup ds) (.ref p) :=
  .rp (ext_upd h) (by rw [Rp]; exact ⟨p, xs, rfl, .inl ⟨o, upd_same, ho⟩, r.pers (.of_ext (ext_upd h))⟩)
section
variable {K : PySem.W.Frag} {w : World} {z : S3} {A : AH} {σ : L2.St} {H H' : Hp} {d : D} {v : V}
theorem Gv.tmp (g : Gv K w H H' d v) (r : Rel K w C A H) (s : Slots K w C z A σ H) : Rel K w C A H' ∧ Slots K w C z A σ H' ∧ Tmp K w C z A σ H' d v := by
  obtain ⟨e, g⟩ := g
  refine ⟨r.ext e, s.ext e, ?_⟩
  rcases g with ⟨o, q⟩ | ⟨p, ob, h, rfl, eo, q⟩
  · exact .of q
  · exact .new r s h eo q
end
/-- a reading as data at hand -/
theorem low.gv {z : S3} {A : AH} {σ : L2.St} {H0 H H' : Hp} {d : D} {v : V} {Q3 : D → AH → Prop} {Q : VK} (r : Rel X.K X.w C A H) (s : Slots X.K X.w C z A σ H)
    (f : ∀ d A' v H', Q3 d A' → Rel X.K X.w C A' H' → Slots X.K X.w C z A' σ H' → Pers H0 H' → Tmp X.K X.w C z A' σ H' d v → Q v H') (p : Pers H0 H) (q : Q3 d A) (g : Gv X.K X.w H H' d v) : Q v H' := by
  obtain ⟨r', s', t'⟩ := g.tmp r s
  exact f d A v H' q r' s' (p.trans (.of_ext g.1)) t'

/-! ### displays -/
def eTup (t : TA3) : TE3 := fun z A Q => t z A fun ds A' => ds.length ≤ sizeLine ∧ Q (.tup ds) A'
def eLst (t : TA3) : TE3 := fun z A Q => t z A fun ds A' => ds.length ≤ sizeLine ∧ Q (.ml ds) A'
theorem pe3_tup {es : List Expr} {t : TA3} {x1 pos} (h : PA3 X C es t) : PE3 X C (.Tuple es x1 pos) (eTup t) := PE.imp (pe_tupS h) fun σ H Q hq => by
  obtain ⟨z, A, Q3, r, s, q, f⟩ := hq
  refine ⟨z, A, _, r, s, q, fun ds A' vs H' q' r' s' p' t' => ⟨by rw [t'.length]; exact q'.1, fun p o hp ho => ?_⟩⟩
  exact low.gv r' s' f p' q'.2 (.tup hp ho t')
theorem pe3_lst {es : List Expr} {t : TA3} {pos} (h : PA3 X C es t) : PE3 X C (.List es pos) (eLst t) := PE.imp (pe_lst h) fun σ H Q hq => by
  obtain ⟨z, A, Q3, r, s, q, f⟩ := hq
  refine ⟨z, A, _, r, s, q, fun ds A' vs H' q' r' s' p' t' => ⟨by rw [t'.length]; exact q'.1, fun p hp => ?_⟩⟩
  exact low.gv r' s' f p' q'.2 (.lst hp t')

/-! ### operations that change nothing -/
/-- two operands read where they stand -/
def Op2 (X : Cx) (C : Ct) (r : R2) (f : AH → D → D → Option D) : Prop := ∀ (z : S3) (A : AH) (σ : L2.St) (H : Hp) (d1 d2 d : D) (x y : V) (Q : VK), Rel X.K X.w C A H → Slots X.K X.w C z A σ H →
  RpB X.K X.w z σ H d1 x → RpB X.K X.w z σ H d2 y → f A d1 d2 = some d → (∀ v H', Gv X.K X.w H H' d v → Q v H') → r x y H Q
def e2 (f : AH → D → D → Option D) (ta tb : TE3) : TE3 := fun z A Q => ta z A fun d1 A1 => tb z A1 fun d2 A2 => ∃ d, f A2 d1 d2 = some d ∧ Q d A2
theorem low_op2 {r : R2} {f : AH → D → D → Option D} {ta tb : TE3} (h : Op2 X C r f) {σ : L2.St} {H : Hp} {Q : VK} (hq : low X.K X.w C (e2 f ta tb) σ H Q) : tOp r (lowB X.K X.w C ta) (lowB X.K X.w C tb) σ H Q := by
  obtain ⟨z, A, Q3, r0, s, q, g⟩ := hq
  refine ⟨z, A, _, r0, s, q, fun d1 A1 v1 H1 q1 r1 s1 p1 t1 => ⟨z, A1, _, r1, s1, q1, fun d2 A2 v2 H2 q2 r2 s2 p2 t2 => ?_⟩⟩
  obtain ⟨d, hd, q3⟩ := q2
  exact h z A2 σ H2 d1 d2 d v1 v2 Q r2 s2 (t1.later p2) t2 hd fun v H' gv => low.gv r2 s2 g (p1.trans p2) q3 gv
theorem pe3_op {op : Operator} {r : R2} {f : AH → D → D → Option D} {a b : Expr} {ta tb : TE3} {pos : Pos} (ho : OpR X (binaryOp op) r) (h : Op2 X C r f) (ha : PB3 X C a ta) (hb : PB3 X C b tb) : PE3 X C (.BinOp a op b pos) (e2 f ta tb) :=
  PE.imp (pe_op ho ha hb) fun _ _ _ hq => low_op2 h hq
theorem pe3_cmp {op : CmpOp} {r : R2} {f : AH → D → D → Option D} {a b : Expr} {ta tb : TE3} {pos : Pos} (ho : OpR X (compareOp op) r) (h : Op2 X C r f) (ha : PB3 X C a ta) (hb : PB3 X C b tb) (hm : behindInMarks op b = false) : PE3 X C (.Compare a [op] [b] pos) (e2 f ta tb) :=
  PE.imp (pe_cmpR ho ha hb hm) fun _ _ _ hq => low_op2 h hq
theorem pe3_ix {r : R2} {f : AH → D → D → Option D} {a b : Expr} {ta tb : TE3} {pos : Pos} (ho : IxR X r) (h : Op2 X C r f) (ha : PB3 X C a ta) (hb : PB3 X C b tb) (hs : PlainIx b) : PE3 X C (.Subscript a b pos) (e2 f ta tb) :=
  PE.imp (pe_ix ho ha hb hs) fun _ _ _ hq => low_op2 h hq
/-- one operand -/
def Op1 (X : Cx) (C : Ct) (r : V → Hp → VK → Prop) (f : AH → D → Option D) : Prop := ∀ (z : S3) (A : AH) (σ : L2.St) (H : Hp) (d1 d : D) (x : V) (Q : VK), Rel X.K X.w C A H → Slots X.K X.w C z A σ H →
  RpB X.K X.w z σ H d1 x → f A d1 = some d → (∀ v H', Gv X.K X.w H H' d v → Q v H') → r x H Q
def e1 (f : AH → D → Option D) (ta : TE3) : TE3 := fun z A Q => ta z A fun d1 A1 => ∃ d, f A1 d1 = some d ∧ Q d A1
theorem pe3_un {op : UnaryOp} {r : V → Hp → VK → Prop} {f : AH → D → Option D} {a : Expr} {ta : TE3} {pos : Pos} (ho : UnR X (unaryOp op) r) (h : Op1 X C r f) (ha : PB3 X C a ta) : PE3 X C (.UnaryOp op a pos) (e1 f ta) :=
  PE.imp (pe_un ho ha) fun σ H Q hq => by
    obtain ⟨z, A, Q3, r0, s, q, g⟩ := hq
    refine ⟨z, A, _, r0, s, q, fun d1 A1 v1 H1 q1 r1 s1 p1 t1 => ?_⟩
    obtain ⟨d, hd, q3⟩ := q1
    exact h z A1 σ H1 d1 d v1 Q r1 s1 t1 hd fun v H' gv => low.gv r1 s1 g p1 q3 gv
/-- a call of a built-in with operands read where they stand -/
def OpN (X : Cx) (C : Ct) (r : List V → Hp → VK → Prop) (f : AH → List D → Option D) : Prop := ∀ (z : S3) (A : AH) (σ : L2.St) (H : Hp) (ds : List D) (d : D) (xs : List V) (Q : VK), Rel X.K X.w C A H → Slots X.K X.w C z A σ H →
  RpBs X.K X.w z σ H ds xs → f A ds = some d → (∀ v H', Gv X.K X.w H H' d v → Q v H') → r xs H Q
def eN (f : AH → List D → Option D) (ta : TA3) : TE3 := fun z A Q => ta z A fun ds A1 => ∃ d, f A1 ds = some d ∧ Q d A1
theorem low_opN {r : List V → Hp → VK → Prop} {f : AH → List D → Option D} {ta : TA3} (h : OpN X C r f) {σ : L2.St} {H : Hp} {Q : VK} (hq : low X.K X.w C (eN f ta) σ H Q) : tCB r (lowAB X.K X.w C ta) σ H Q := by
  obtain ⟨z, A, Q3, r0, s, q, g⟩ := hq
  refine ⟨z, A, _, r0, s, q, fun ds A1 vs H1 q1 r1 s1 p1 t1 => ?_⟩
  obtain ⟨d, hd, q3⟩ := q1
  exact h z A1 σ H1 ds d vs Q r1 s1 t1 hd fun v H' gv => low.gv r1 s1 g p1 q3 gv
theorem pe3_callB {id : String} {r : List V → Hp → VK → Prop} {f : AH → List D → Option D} {x : Str} {p pos : Pos} {e : Expr} {es : List Expr} {t : TA3} (hc : CallR X (.builtin id) r) (h : OpN X C r f) (hg : Gl X x) (hm : X.mg x = none) (hv : bootBuiltins x = some (.builtin id)) (ha : PAB3 X C (e :: es) t)
    (hn : x ≠ "__name__" := by decide) (hdb : (x == ("__debug__" : Str)) = false := by decide) (he : starEach (e :: es) X.env = (false, eval e X.env) :: starEach es X.env := by rfl) (hpl : (backTo pos (starEach es X.env)).any (·.1) = false := by rfl) : PE3 X C (.Call (.Name x p) (e :: es) [] pos) (eN f t) :=
  PE.imp (pe_callB hc hg hm hv ha hn hdb he hpl) fun _ _ _ hq => low_opN h hq
theorem pe3_callTy {T : String} {r : List V → Hp → VK → Prop} {f : AH → List D → Option D} {x : Str} {p pos : Pos} {e : Expr} {es : List Expr} {t : TA3} (hc : CallR X (.type T) r) (h : OpN X C r f) (hg : Gl X x) (hm : X.mg x = none) (hv : bootBuiltins x = some (.type T)) (ha : PAB3 X C (e :: es) t)
    (hn : x ≠ "__name__" := by decide) (hdb : (x == ("__debug__" : Str)) = false := by decide) (he : starEach (e :: es) X.env = (false, eval e X.env) :: starEach es X.env := by rfl) (hpl : (backTo pos (starEach es X.env)).any (·.1) = false := by rfl) : PE3 X C (.Call (.Name x p) (e :: es) [] pos) (eN f t) :=
  PE.imp (pe_callTy hc hg hm hv ha hn hdb he hpl) fun _ _ _ hq => low_opN h hq

/-! ### tests -/
/-- a value that is a truth, as a test -/
def tV (t : TE3) : TT3 := fun z A Q => t z A fun d A' => ∃ b, d = .bl b ∧ Q b A'
theorem pt3_val {e : Expr} {t : TE3} (h : PE3 X C e t) (he : ∀ whole, isTrue e X.env whole = (do let v ← whole; standAt e.pos; holding [v] (truthy v)) := by intro _; rfl) : PT3 X C e (tV t) :=
  PT.imp (pt_val h he) fun σ H Q hq => by
    obtain ⟨z, A, Q3, r, s, q, f⟩ := hq
    refine ⟨z, A, _, r, s, q, fun d A' v H' q' r' s' p' t' => ?_⟩
    obtain ⟨b, rfl, q2⟩ := q'
    have e : v = .bl b := by have := t'.val; exact this
    exact ⟨b, e, f b A' H' q2 r' s' p'⟩
theorem pt3_cmp {op : CmpOp} {r : R2} {f : AH → D → D → Option D} {a b : Expr} {ta tb : TE3} {pos : Pos} (ho : OpR X (compareOp op) r) (h : Op2 X C r f) (ha : PB3 X C a ta) (hb : PB3 X C b tb) (hm : behindInMarks op b = false) : PT3 X C (.Compare a [op] [b] pos) (tV (e2 f ta tb)) :=
  PT.imp (pt_cmpR ho ha hb hm) fun σ H Q hq => by
    obtain ⟨z, A, Q3, r, s, q, f⟩ := hq
    refine low_op2 h ⟨z, A, _, r, s, q, fun d A' v H' q' r' s' p' t' => ?_⟩
    obtain ⟨b, rfl, q2⟩ := q'
    have e : v = .bl b := by have := t'.val; exact this
    exact ⟨b, e, f b A' H' q2 r' s' p'⟩
def tNot3 (t : TT3) : TT3 := fun z A Q => t z A fun b A' => Q (!b) A'
def tAnd3 (t u : TT3) : TT3 := fun z A Q => t z A fun b A' => if b = true then u z A' Q else Q false A'
def tOr3 (t u : TT3) : TT3 := fun z A Q => t z A fun b A' => if b = true then Q true A' else u z A' Q
theorem pt3_not {e : Expr} {t : TT3} {pos} (h : PT3 X C e t) : PT3 X C (.UnaryOp .Not e pos) (tNot3 t) := PT.imp (pt_not h) fun σ H Q hq => by
  obtain ⟨z, A, Q3, r, s, q, f⟩ := hq
  exact ⟨z, A, _, r, s, q, fun b A' H' q' r' s' p' => f _ A' H' q' r' s' p'⟩
abbrev PW3 (X : Cx) (C : Ct) (e : Expr) (t : TT3) : Prop := PW X e (lowT X.K X.w C t)
theorem lowT_and {t u : TT3} {σ : L2.St} {H : Hp} {Q : Bool → Hp → Prop} (hq : lowT X.K X.w C (tAnd3 t u) σ H Q) : tAnd (lowT X.K X.w C t) (lowT X.K X.w C u) σ H Q := by
  obtain ⟨z, A, Q3, r, s, q, f⟩ := hq
  refine ⟨z, A, _, r, s, q, fun b A' H' q' r' s' p' => ?_⟩
  cases b with
  | true => exact ⟨z, A', Q3, r', s', q', fun b A2 H2 q2 r2 s2 p2 => f b A2 H2 q2 r2 s2 (p'.trans p2)⟩
  | false => exact f false A' H' q' r' s' p'
theorem lowT_or {t u : TT3} {σ : L2.St} {H : Hp} {Q : Bool → Hp → Prop} (hq : lowT X.K X.w C (tOr3 t u) σ H Q) : tOr (lowT X.K X.w C t) (lowT X.K X.w C u) σ H Q := by
  obtain ⟨z, A, Q3, r, s, q, f⟩ := hq
  refine ⟨z, A, _, r, s, q, fun b A' H' q' r' s' p' => ?_⟩
  cases b with
  | true => exact f true A' H' q' r' s' p'
  | false => exact ⟨z, A', Q3, r', s', q', fun b A2 H2 q2 r2 s2 p2 => f b A2 H2 q2 r2 s2 (p'.trans p2)⟩
theorem pw3_and1 {a : Expr} {t : TT3} {pos} (h : PT3 X C a t) : PW3 X C (.BoolOp .And [a] pos) t := pw_and1 h
theorem pw3_or1 {a : Expr} {t : TT3} {pos} (h : PT3 X C a t) : PW3 X C (.BoolOp .Or [a] pos) t := pw_or1 h
theorem pw3_and {a b : Expr} {rest : List Expr} {t u : TT3} {pos} (h : PT3 X C a t) (h' : PW3 X C (.BoolOp .And (b :: rest) pos) u) : PW3 X C (.BoolOp .And (a :: b :: rest) pos) (tAnd3 t u) := PW.imp (pw_and h h') fun _ _ _ hq => lowT_and hq
theorem pw3_or {a b : Expr} {rest : List Expr} {t u : TT3} {pos} (h : PT3 X C a t) (h' : PW3 X C (.BoolOp .Or (b :: rest) pos) u) : PW3 X C (.BoolOp .Or (a :: b :: rest) pos) (tOr3 t u) := PW.imp (pw_or h h') fun _ _ _ hq => lowT_or hq
/-- and, or, not as values -/
def eAnd (t u : TE3) : TE3 := fun z A Q => t z A fun d A' => ∃ b, d = .bl b ∧ if b = true then u z A' Q else Q (.bl false) A'
def eOr (t u : TE3) : TE3 := fun z A Q => t z A fun d A' => ∃ b, d = .bl b ∧ if b = true then Q (.bl true) A' else u z A' Q
def eNot (t : TE3) : TE3 := fun z A Q => t z A fun d A' => ∃ b, d = .bl b ∧ Q (.bl (!b)) A'
theorem pe3_one {op} {a : Expr} {t : TE3} {pos} (h : PE3 X C a t) : PE3 X C (.BoolOp op [a] pos) t := pe_one h
theorem pe3_and {a b : Expr} {rest : List Expr} {t u : TE3} {pos} (h : PE3 X C a t) (h' : PE3 X C (.BoolOp .And (b :: rest) pos) u) : PE3 X C (.BoolOp .And (a :: b :: rest) pos) (eAnd t u) := PE.imp (pe_and h h') fun σ H Q hq => by
  obtain ⟨z, A, Q3, r, s, q, f⟩ := hq
  refine ⟨z, A, _, r, s, q, fun d A' v H' q' r' s' p' t' => ?_⟩
  obtain ⟨b, rfl, q2⟩ := q'
  refine ⟨b, by have := t'.val; exact this, ?_⟩
  cases b with
  | true => exact ⟨z, A', Q3, r', s', q2, fun d A2 v H2 q2 r2 s2 p2 t2 => f d A2 v H2 q2 r2 s2 (p'.trans p2) t2⟩
  | false => exact f _ A' _ H' q2 r' s' p' (.of (by rw [Rp]))
theorem pe3_or {a b : Expr} {rest : List Expr} {t u : TE3} {pos} (h : PE3 X C a t) (h' : PE3 X C (.BoolOp .Or (b :: rest) pos) u) : PE3 X C (.BoolOp .Or (a :: b :: rest) pos) (eOr t u) := PE.imp (pe_or h h') fun σ H Q hq => by
  obtain ⟨z, A, Q3, r, s, q, f⟩ := hq
  refine ⟨z, A, _, r, s, q, fun d A' v H' q' r' s' p' t' => ?_⟩
  obtain ⟨b, rfl, q2⟩ := q'
  refine ⟨b, by have := t'.val; exact this, ?_⟩
  cases b with
  | true => exact f _ A' _ H' q2 r' s' p' (.of (by rw [Rp]))
  | false => exact ⟨z, A', Q3, r', s', q2, fun d A2 v H2 q2 r2 s2 p2 t2 => f d A2 v H2 q2 r2 s2 (p'.trans p2) t2⟩
theorem pe3_not {a : Expr} {t : TE3} {pos} (h : PE3 X C a t) : PE3 X C (.UnaryOp .Not a pos) (eNot t) := PE.imp (pe_not h) fun σ H Q hq => by
  obtain ⟨z, A, Q3, r, s, q, f⟩ := hq
  refine ⟨z, A, _, r, s, q, fun d A' v H' q' r' s' p' t' => ?_⟩
  obtain ⟨b, rfl, q2⟩ := q'
  exact ⟨b, by have := t'.val; exact this, f _ A' _ H' q2 r' s' p' (.of (by rw [Rp]))⟩
/-- a < b < c -/
def e3 (f g : AH → D → D → Option D) (ta tb tc : TE3) : TE3 := fun z A Q => ta z A fun d1 A1 => tb z A1 fun d2 A2 => ∃ b, f A2 d1 d2 = some (.bl b) ∧ if b = true then tc z A2 fun d3 A3 => ∃ d, g A3 d2 d3 = some d ∧ Q d A3 else Q (.bl false) A2
theorem low_chain {r r' : R2} {f g : AH → D → D → Option D} {ta tb tc : TE3} (h : Op2 X C r f) (h' : Op2 X C r' g) {σ : L2.St} {H : Hp} {Q : VK} (hq : low X.K X.w C (e3 f g ta tb tc) σ H Q) :
    lowB X.K X.w C ta σ H fun x H1 => lowB X.K X.w C tb σ H1 fun y H2 => r x y H2 fun v H3 => ∃ k, v = .bl k ∧ if k = true then lowB X.K X.w C tc σ H3 fun u H4 => r' y u H4 Q else Q (.bl false) H3 := by
  obtain ⟨z, A, Q3, r0, s, q, k⟩ := hq
  refine ⟨z, A, _, r0, s, q, fun d1 A1 v1 H1 q1 r1 s1 p1 t1 => ⟨z, A1, _, r1, s1, q1, fun d2 A2 v2 H2 q2 r2 s2 p2 t2 => ?_⟩⟩
  obtain ⟨b, hd, q3⟩ := q2
  refine h z A2 σ H2 d1 d2 _ v1 v2 _ r2 s2 (t1.later p2) t2 hd fun v H3 gv => ?_
  obtain ⟨r3, s3, t3⟩ := gv.tmp r2 s2
  refine ⟨b, by have := t3.val; exact this, ?_⟩
  have p3 := (p1.trans p2).trans (.of_ext gv.1)
  cases b with
  | true =>
    refine ⟨z, A2, _, r3, s3, q3, fun d3 A3 v3 H4 q4 r4 s4 p4 t4 => ?_⟩
    obtain ⟨d, hd', q5⟩ := q4
    exact h' z A3 σ H4 d2 d3 d v2 v3 Q r4 s4 ((t2.later (.of_ext gv.1)).later p4) t4 hd' fun v H' gv' => low.gv r4 s4 k (p3.trans p4) q5 gv'
  | false => exact k _ A2 _ H3 q3 r3 s3 p3 (.of (by rw [Rp]))
end
end T3
set_option autoImplicit false
namespace T3
open PySem PySem.Spec PyProof.Rows L2

section
variable {K : PySem.W.Frag} {w : World} {C : Ct} {z : S3} {A : AH} {σ : L2.St} {H : Hp} {d : D} {a : Addr} {u u' : HO} {ob ob' : Ob}
/-- an object of its own is held by several from now on -/
theorem Rel.share (r : Rel K w C A H) (h0 : C.H0 a = none) (q : RpO K w H a ob) : Rel K w C (put A a ob) H where
  heap := fun b o e => by
    by_cases hb : b = a
    · subst hb; rw [put_same] at e; cases e; exact q
    · rw [put_ne hb] at e; exact r.heap b o e
  prot := r.prot
  dom := fun b e => by
    by_cases hb : b = a
    · subst hb; exact .inr h0
    · rw [put_ne hb] at e; exact r.dom b e
  mono := r.mono
theorem Slots.share (s : Slots K w C z A σ H) (n : ∀ (i : Nat) (e : D), z[i]? = some (some e) → own e = true → σ[i]? ≠ some (some (V.ref a))) : Slots K w C z (put A a ob) σ H where
  val := s.val
  sep := fun i e b h o hs => by
    have hb : b ≠ a := fun q => n i e h o (by rw [hs, q])
    rw [put_ne hb]
    exact s.sep i e b h o hs
  uniq := s.uniq
  len := s.len
/-- an object that a slot holds is changed -/
theorem own_write (r : Rel K w C A H) (s : Slots K w C z A σ H) {i : Nat} (hi : z[i]? = some (some d)) (o : own d = true) (hs : σ[i]? = some (some (V.ref a))) (h : H a = some u) (c : Chg u) {d' : D} (eo : obOf d' = some ob') (q : RpO K w (upd H a u') a ob') :
    Rel K w C A (upd H a u') ∧ Slots K w C (z.set i (some d')) A σ (upd H a u') := by
  obtain ⟨hA, h0⟩ := s.sep i d a hi o hs
  have hl : i < z.length := (List.getElem?_eq_some_iff.mp hi).1
  have od' : own d' = true := by cases d' <;> first | rfl | simp [obOf] at eo
  have zs : ∀ (j : Nat) (e : D), (z.set i (some d'))[j]? = some (some e) → (j = i ∧ e = d') ∨ (j ≠ i ∧ z[j]? = some (some e)) := fun j e hj => by
    by_cases q : i = j
    · subst q
      rw [List.getElem?_set_self hl] at hj
      cases hj
      exact .inl ⟨rfl, rfl⟩
    · rw [List.getElem?_set_ne q] at hj
      exact .inr ⟨fun e => q e.symm, hj⟩
  refine ⟨r.alone hA h0 h c, fun j e hj => ?_, fun j e b hj oe hb => ?_, fun j k e f b h1 o1 h2 o2 s1 s2 => ?_, by rw [List.length_set]; exact s.len⟩
  · rcases zs j e hj with ⟨rfl, rfl⟩ | ⟨nj, hj⟩
    · exact ⟨_, hs, .mk eo q⟩
    · obtain ⟨v, h1, h2⟩ := s.val j e hj
      exact ⟨v, h1, h2.keep (pers_upd h c) fun oe b eb => upd_ne fun q => nj (s.uniq j i e d a hj oe hi o (by rw [h1, eb, q]) hs)⟩
  · rcases zs j e hj with ⟨rfl, rfl⟩ | ⟨nj, hj⟩
    · exact s.sep j d b hi o hb
    · exact s.sep j e b hj oe hb
  · rcases zs j e h1 with ⟨ej, _⟩ | ⟨nj, h1⟩
    · rcases zs k f h2 with ⟨ek, _⟩ | ⟨nk, h2⟩
      · rw [ej, ek]
      · rw [ej] at s1 ⊢
        exact s.uniq i k d f b hi o h2 o2 s1 s2
    · rcases zs k f h2 with ⟨ek, _⟩ | ⟨nk, h2⟩
      · rw [ek] at s2 ⊢
        exact s.uniq j i e d b h1 o1 hi o s1 s2
      · exact s.uniq j k e f b h1 o1 h2 o2 s1 s2
/-- an object that several hold is changed -/
theorem ref_write (r : Rel K w C A H) (s : Slots K w C z A σ H) (hA : A a = some ob) (h : H a = some u) (c : Chg u) (q : RpO K w (upd H a u') a ob') :
    Rel K w C (put A a ob') (upd H a u') ∧ Slots K w C z (put A a ob') σ (upd H a u') := by
  have ns : ∀ (i : Nat) (e : D), z[i]? = some (some e) → own e = true → σ[i]? ≠ some (some (V.ref a)) := fun i e hi oe hs => by
    rw [(s.sep i e a hi oe hs).1] at hA; cases hA
  refine ⟨⟨fun b x e => ?_, fun b x e1 e2 => ?_, fun b e => ?_, fun b e => ?_⟩, (s.share ns).alone h c ns⟩
  · by_cases hb : b = a
    · subst hb; rw [put_same] at e; cases e; exact q
    · rw [put_ne hb] at e
      exact (r.heap b x e).keep (pers_upd h c) (upd_ne hb)
  · have hb : b ≠ a := fun q => by
      subst q
      rcases r.dom b (by rw [hA]; simp) with n | n
      · exact n e2
      · rw [n] at e1; cases e1
    rw [upd_ne hb]
    exact r.prot b x e1 e2
  · by_cases hb : b = a
    · subst hb; exact r.dom b (by rw [hA]; simp)
    · rw [put_ne hb] at e; exact r.dom b e
  · by_cases hb : b = a
    · subst hb; rw [upd_same] at e; cases e
    · rw [upd_ne hb] at e; exact r.mono b e
end

section
variable {X : Cx} {C : Ct}
/-! ### blocks -/
def sNil : TS3 := fun D z A => D.nx z A
def sSeq (t u : TS3) : TS3 := fun D z A => t { D with nx := u D } z A
theorem pss3_nil : PSs3 X C [] sNil := PSs.imp pss_nil fun D σ H hq => by
  obtain ⟨z, A, D3, r, s, q, f⟩ := hq
  exact f.nx z A σ H q r s (.refl H)
theorem pss3_cons {st : Stmt} {rest : List Stmt} {t u : TS3} (h : PS3 X C st t) (hr : PSs3 X C rest u) : PSs3 X C (st :: rest) (sSeq t u) := PSs.imp (pss_cons h hr) fun D σ H hq => by
  obtain ⟨z, A, D3, r, s, q, f⟩ := hq
  exact ⟨z, A, _, r, s, q, ⟨fun z' A' σ' H' q' r' s' p' => ⟨z', A', D3, r', s', q', f.later p'⟩, f.rt, f.bk, f.ct⟩⟩
theorem pss3_one {st : Stmt} {t : TS3} (h : PS3 X C st t) : PSs3 X C [st] t := pss_one h
def sBreak : TS3 := fun D z A => D.bk z A
def sCont : TS3 := fun D z A => D.ct z A
theorem ps3_pass {pos} : PS3 X C (.Pass pos) sNil := PS.imp ps_pass fun D σ H hq => by
  obtain ⟨z, A, D3, r, s, q, f⟩ := hq
  exact f.nx z A σ H q r s (.refl H)
theorem ps3_doc {x : Str} {j pos pos'} : PS3 X C (.Expr (.Constant (.str x) j pos) pos') sNil := PS.imp ps_doc fun D σ H hq => by
  obtain ⟨z, A, D3, r, s, q, f⟩ := hq
  exact f.nx z A σ H q r s (.refl H)
theorem ps3_break {pos} : PS3 X C (.Break pos) sBreak := PS.imp ps_break fun D σ H hq => by
  obtain ⟨z, A, D3, r, s, q, f⟩ := hq
  exact f.bk z A σ H q r s (.refl H)
theorem ps3_continue {pos} : PS3 X C (.Continue pos) sCont := PS.imp ps_continue fun D σ H hq => by
  obtain ⟨z, A, D3, r, s, q, f⟩ := hq
  exact f.ct z A σ H q r s (.refl H)
def sDrop (t : TE3) : TS3 := fun D z A => t z A fun _ A' => D.nx z A'
theorem ps3_expr {e : Expr} {t : TE3} {pos} (h : PE3 X C e t) (hs : swapsWith e none pos.line X.env = pure false := by rfl) : PS3 X C (.Expr e pos) (sDrop t) := PS.imp (ps_expr h hs) fun D σ H hq => by
  obtain ⟨z, A, D3, r, s, q, f⟩ := hq
  exact ⟨z, A, _, r, s, q, fun d A' v H' q' r' s' p' t' => f.nx z A' σ H' q' r' s' p'⟩
def sRet (t : TE3) : TS3 := fun D z A => t z A D.rt
theorem ps3_ret {e : Expr} {t : TE3} {pos} (h : PE3 X C e t) : PS3 X C (.Return (some e) pos) (sRet t) := PS.imp (ps_ret h) fun D σ H hq => by
  obtain ⟨z, A, D3, r, s, q, f⟩ := hq
  exact ⟨z, A, _, r, s, q, fun d A' v H' q' r' s' p' t' => f.rt d A' v H' q' r' t'.val (fun o a ev => ⟨(t'.alone o a ev).1, (t'.alone o a ev).2.1⟩) p'⟩
/-- return of a name: what it holds alone is handed on -/
def sRetV (i : Nat) : TS3 := fun D z A => ∃ d, z[i]? = some (some d) ∧ D.rt d A
theorem ps3_retV {e : Expr} {i : Nat} {pos} (h : PE X e (tVar i)) : PS3 X C (.Return (some e) pos) (sRetV i) := PS.imp (ps_ret h) fun D σ H hq => by
  obtain ⟨z, A, D3, r, s, ⟨d, h1, q⟩, f⟩ := hq
  obtain ⟨v, hv, rv⟩ := s.val i d h1
  exact ⟨v, hv, f.rt d A v H q r rv (fun o a ev => s.sep i d a h1 o (by rw [hv, ev])) (.refl H)⟩
def sRetN : TS3 := fun D _ A => D.rt .non A
theorem ps3_retN {pos} : PS3 X C (.Return none pos) sRetN := PS.imp ps_retN fun D σ H hq => by
  obtain ⟨z, A, D3, r, s, q, f⟩ := hq
  exact f.rt .non A .non H q r (.of (by rw [Rp])) (fun o => by simp [own] at o) (.refl H)
def sIf (c : TT3) (t u : TS3) : TS3 := fun D z A => c z A fun b A' => if b = true then t D z A' else u D z A'
theorem ps3_if {c : Expr} {a b : List Stmt} {tc : TT3} {t u : TS3} {pos} (hc : PT3 X C c tc) (ha : PSs3 X C a t) (hb : PSs3 X C b u) : PS3 X C (.If c a b pos) (sIf tc t u) := PS.imp (ps_if hc ha hb) fun D σ H hq => by
  obtain ⟨z, A, D3, r, s, q, f⟩ := hq
  refine ⟨z, A, _, r, s, q, fun b A' H' q' r' s' p' => ?_⟩
  cases b with
  | true => exact ⟨z, A', D3, r', s', q', f.later p'⟩
  | false => exact ⟨z, A', D3, r', s', q', f.later p'⟩

/-! ### a name is stored -/
def sSet (i : Nat) (t : TE3) : TS3 := fun D z A => t z A fun d A' => D.nx (z.set i (some d)) A'
theorem low_set {i : Nat} {t : TE3} {D : Ends} {σ : L2.St} {H : Hp} (hq : lowS X.K X.w C (sSet i t) D σ H) : tAsg (low X.K X.w C t) (gName i) D σ H := by
  obtain ⟨z, A, D3, r, s, q, f⟩ := hq
  exact ⟨z, A, _, r, s, q, fun d A' v H' q' r' s' p' t' => f.nx _ A' _ H' q' r' (s'.set t' i) p'⟩
theorem ps3_set {i : Nat} {x : Str} {e : Expr} {t : TE3} {pos pos' : Pos} (hN : X.N.Nodup) (hi : X.N[i]? = some x) (hx : Loc X.env.scope x) (h : PE3 X C e t) (hs : swapsWith e (some (.Name x pos')) pos.line X.env = pure false := by rfl) (hf : X.fn x = true ∨ X.env.scope.names.lookup x = some .local := by first | exact .inl rfl | exact .inr rfl | assumption) :
    PS3 X C (.Assign [.Name x pos'] e pos) (sSet i t) := PS.imp (ps_set hN hi hx h hs hf) fun _ _ _ hq => low_set hq
/-- .. and held by several from now on -/
def shareD (z : S3) (i : Nat) (d : D) (A : AH) (k : S3 → AH → Prop) : Prop := match obOf d with
  | some ob => ∀ a, A a = none → k (z.set i (some (.ref a))) (put A a ob)
  | none => k (z.set i (some d)) A
def sSetR (i : Nat) (t : TE3) : TS3 := fun D z A => t z A fun d A' => shareD z i d A' D.nx
theorem low_setR {i : Nat} {t : TE3} {D : Ends} {σ : L2.St} {H : Hp} (hq : lowS X.K X.w C (sSetR i t) D σ H) : tAsg (low X.K X.w C t) (gName i) D σ H := by
  obtain ⟨z, A, D3, r, s, q, f⟩ := hq
  refine ⟨z, A, _, r, s, q, fun d A' v H' q' r' s' p' t' => ?_⟩
  cases eo : obOf d with
  | none =>
    unfold shareD at q'
    rw [eo] at q'
    exact f.nx _ A' _ H' q' r' (s'.set t' i) p'
  | some ob =>
    unfold shareD at q'
    rw [eo] at q'
    have o : own d = true := by cases d <;> first | rfl | simp [obOf] at eo
    obtain ⟨a, ob', rfl, eo', ro⟩ := t'.val.ob o
    rw [eo] at eo'; cases eo'
    obtain ⟨n1, n2, n3⟩ := t'.alone o a rfl
    exact f.nx _ _ _ H' (q' a n1) (r'.share n2 ro) ((s'.share n3).set (.of (by rw [Rp])) i) p'
theorem ps3_setR {i : Nat} {x : Str} {e : Expr} {t : TE3} {pos pos' : Pos} (hN : X.N.Nodup) (hi : X.N[i]? = some x) (hx : Loc X.env.scope x) (h : PE3 X C e t) (hs : swapsWith e (some (.Name x pos')) pos.line X.env = pure false := by rfl) (hf : X.fn x = true ∨ X.env.scope.names.lookup x = some .local := by first | exact .inl rfl | exact .inr rfl | assumption) :
    PS3 X C (.Assign [.Name x pos'] e pos) (sSetR i t) := PS.imp (ps_set hN hi hx h hs hf) fun _ _ _ hq => low_setR hq
/-- an expression's value, made new, is held by several from now on -/
def eSh (t : TE3) : TE3 := fun z A Q => t z A fun d A' => ∃ ob, obOf d = some ob ∧ ∀ a, A' a = none → Q (.ref a) (put A' a ob)
theorem pe3_sh {e : Expr} {t : TE3} (h : PE3 X C e t) : PE3 X C e (eSh t) := PE.imp h fun σ H Q hq => by
  obtain ⟨z, A, Q3, r, s, q, f⟩ := hq
  refine ⟨z, A, _, r, s, q, fun d A' v H' q' r' s' p' t' => ?_⟩
  obtain ⟨ob, eo, q2⟩ := q'
  have o : own d = true := by cases d <;> first | rfl | simp [obOf] at eo
  obtain ⟨a, ob', rfl, eo', ro⟩ := t'.val.ob o
  rw [eo] at eo'; cases eo'
  obtain ⟨n1, n2, n3⟩ := t'.alone o a rfl
  exact f _ _ _ H' (q2 a n1) (r'.share n2 ro) (s'.share n3) p' (.of (by rw [Rp]))
/-- a slot lets go -/
def sFz (i : Nat) (t : TS3) : TS3 := fun D z A => ∃ d, z[i]? = some (some d) ∧ t D (z.set i (some (frz d))) A
theorem ps_goS {st : List Stmt} {t : TS} (h : PSs X st t) (i : Nat) : PSs X st fun D σ H => t D σ H ∨ ∃ a u, σ[i]? = some (some (V.ref a)) ∧ H a = some u ∧ CanFrz u = true ∧ ∀ o, t D σ (upd H a (.frz o u)) := ⟨fun pins s σ H D I q => by
  rcases q with q | ⟨a, u, _, hx, m, q⟩
  · exact h.run pins s σ H D I q
  · obtain ⟨o, I2⟩ := Inv.freeze I hx m
    exact h.run pins s σ _ D I2 (q o)⟩
theorem pss3_fz {st : List Stmt} {t : TS3} (i : Nat) (h : PSs3 X C st t) : PSs3 X C st (sFz i t) := PSs.imp (ps_goS h i) fun D σ H hq => by
  obtain ⟨z, A, D3, r, s, ⟨d, hd, q⟩, f⟩ := hq
  obtain ⟨v, hv, rv⟩ := s.val i d hd
  have hl : i < z.length := (List.getElem?_eq_some_iff.mp hd).1
  cases o : own d with
  | false =>
    rw [frz_of o] at q
    have e : z.set i (some d) = z := by
      apply List.ext_getElem?
      intro j
      by_cases hj : i = j
      · subst hj; rw [List.getElem?_set_self hl, hd]
      · rw [List.getElem?_set_ne hj]
    rw [e] at q
    exact .inl ⟨z, A, D3, r, s, q, f⟩
  | true =>
    obtain ⟨a, ob, rfl, eo, ro⟩ := rv.ob o
    obtain ⟨u, hu, m, c, fr⟩ := ro.frz eo
    refine .inr ⟨a, u, hv, hu, m, fun ob' => ?_⟩
    obtain ⟨n1, n2⟩ := s.sep i d a hd o hv
    have zs : ∀ (j : Nat) (e : T3.D), (z.set i (some (frz d)))[j]? = some (some e) → own e = true → i ≠ j ∧ z[j]? = some (some e) := fun j e hj oe => by
      by_cases q : i = j
      · subst q
        rw [List.getElem?_set_self hl] at hj
        cases hj
        cases d <;> simp [own, frz] at o oe
      · rw [List.getElem?_set_ne q] at hj
        exact ⟨q, hj⟩
    refine ⟨_, A, D3, r.alone n1 n2 hu c, ⟨fun j e hj => ?_, fun j e b hj oe hb => ?_, fun j k e g b h1 o1 h2 o2 s1 s2 => ?_, by rw [List.length_set]; exact s.len⟩, q, f.later (pers_upd hu c)⟩
    · by_cases q : i = j
      · subst q
        rw [List.getElem?_set_self hl] at hj
        cases hj
        exact ⟨_, hv, .of (fr ob')⟩
      · rw [List.getElem?_set_ne q] at hj
        obtain ⟨v, h1, h2⟩ := s.val j e hj
        exact ⟨v, h1, h2.keep (pers_upd hu c) fun oe b eb => upd_ne fun qq => q (s.uniq i j d e a hd o hj oe hv (by rw [h1, eb, qq]))⟩
    · obtain ⟨nj, hj'⟩ := zs j e hj oe
      exact s.sep j e b hj' oe hb
    · obtain ⟨_, h1'⟩ := zs j e h1 o1
      obtain ⟨_, h2'⟩ := zs k g h2 o2
      exact s.uniq j k e g b h1' o1 h2' o2 s1 s2
end

/-! ### methods of built-in types -/
def TyOk (X : Cx) (T : String) (x : V) (H : Hp) : Prop := ∀ (pins : List (Addr × Obj)) (σ : L2.St) (s : Shared) (v : Value), L2.Inv X pins σ H s → RelV x v → s.TypeIs v T ∧ ∀ a, v = .ref a → ∃ ob, s.heap.get? a = some ob ∧ ob.dict = none
section
variable {X : Cx} {C : Ct} {o e : Expr} {es : List Expr} {to : TE} {t : TA} {name : Str} {apos cpos : Pos} {T id : String} {r : V → List V → Hp → VK → Prop}
def tBW (X : Cx) (T : String) (r : V → List V → Hp → VK → Prop) (to : TE) (t : TA) : TE := fun σ H Q => to σ H fun x H1 => TyOk X T x H1 ∧ t σ H1 fun xs H2 => r x xs H2 Q
theorem pe_bw0 (pa : PlainAttrs T) (slot : Slot T name id) (hty : typeOf (.builtin id) = pure (.type "method_descriptor")) (hm : MtR X id r) (ho : PE X o to)
    (hbase : attributeBase o name X.env (eval o X.env) = eval o X.env := by rfl) (hline : (apos.endLine == cpos.line) = true := by rfl) : PE X (.Call (.Attribute o name apos) [] [] cpos) (tBW X T r to tNil) := by
  refine ⟨fun pins s σ H Q I h => ?_⟩
  refine wpAny_Call_method0_late hbase hline (thn (ho.run pins s σ H _ I h) fun v s1 ⟨x, H1, I1, r1, ty, q1⟩ => ?_)
  obtain ⟨h1, h2⟩ := ty pins σ s1 v I1 r1
  exact ⟨T, id, pa, slot, hty, h1, h2, Calls.callWith_builtin rfl (PySem.evalArgs_none (hm pins s1 σ H1 x [] v [] Q I1 r1 .nil q1))⟩
theorem pe_bw (pa : PlainAttrs T) (slot : Slot T name id) (hty : typeOf (.builtin id) = pure (.type "method_descriptor")) (hm : MtR X id r) (ho : PE X o to) (ha : PA X (e :: es) t)
    (hbase : attributeBase o name X.env (eval o X.env) = eval o X.env := by rfl)
    (hfew : ((backTo cpos (starEach (e :: es) X.env)).all (fun x => !x.1) && (backToKw cpos (keywordEach [] X.env)).all (fun x => x.1.isSome)
      && decide ((e :: es).length + ([] : List Keyword).length + (if ([] : List Keyword).isEmpty then 0 else 1) < 30)) = true := by rfl)
    (hline : (apos.endLine == cpos.line) = true := by rfl) (hs : starEach (e :: es) X.env = (false, eval e X.env) :: starEach es X.env := by rfl) (hplain : (backTo cpos (starEach es X.env)).any (·.1) = false := by rfl) :
    PE X (.Call (.Attribute o name apos) (e :: es) [] cpos) (tBW X T r to t) := by
  refine ⟨fun pins s σ H Q I h => ?_⟩
  refine wpAny_Call_method_late hbase hfew hline rfl (thn (ho.run pins s σ H _ I h) fun v s1 ⟨x, H1, I1, r1, ty, q1⟩ => ?_)
  obtain ⟨h1, h2⟩ := ty pins σ s1 v I1 r1
  refine ⟨T, id, pa, slot, hty, h1, h2, ?_⟩
  have hA := ha.run cpos pins s1 σ H1 _ I1 q1
  rw [hs] at hA ⊢
  refine Calls.callWith_builtin (by show (false || (backTo cpos (starEach es X.env)).any (·.1)) = false; rw [hplain] <;> rfl) (Calls.evalArgs_plain ?_)
  exact thn hA fun us s2 ⟨vs, H2, I2, r2, q2⟩ => hm pins s2 σ H2 x vs v us Q I2 r1 r2 q2

/-! #### .. that read -/
/-- x.m(..) that changes nothing: the receiver and the arguments where they stand -/
structure MtN (X : Cx) (C : Ct) (T : String) (r : V → List V → Hp → VK → Prop) (ok : AH → D → Bool) (f : AH → D → List D → Option D) : Prop where
  ty : ∀ (z : S3) (A : AH) (σ : L2.St) (H : Hp) (d : D) (x : V), Rel X.K X.w C A H → Slots X.K X.w C z A σ H → RpB X.K X.w z σ H d x → ok A d = true → TyOk X T x H
  act : ∀ (z : S3) (A : AH) (σ : L2.St) (H : Hp) (d0 : D) (ds : List D) (d : D) (x : V) (xs : List V) (Q : VK), Rel X.K X.w C A H → Slots X.K X.w C z A σ H →
    RpB X.K X.w z σ H d0 x → RpBs X.K X.w z σ H ds xs → f A d0 ds = some d → (∀ v H', Gv X.K X.w H H' d v → Q v H') → r x xs H Q
def eM (ok : AH → D → Bool) (f : AH → D → List D → Option D) (to : TE3) (ta : TA3) : TE3 := fun z A Q => to z A fun d0 A1 => ok A1 d0 = true ∧ ta z A1 fun ds A2 => ∃ d, f A2 d0 ds = some d ∧ Q d A2
theorem low_m {ok : AH → D → Bool} {f : AH → D → List D → Option D} {to : TE3} {ta : TA3} (h : MtN X C T r ok f) {σ : L2.St} {H : Hp} {Q : VK} (hq : low X.K X.w C (eM ok f to ta) σ H Q) : tBW X T r (lowB X.K X.w C to) (lowAB X.K X.w C ta) σ H Q := by
  obtain ⟨z, A, Q3, r0, s, q, g⟩ := hq
  refine ⟨z, A, _, r0, s, q, fun d0 A1 v1 H1 q1 r1 s1 p1 t1 => ⟨h.ty z A1 σ H1 d0 v1 r1 s1 t1 q1.1, z, A1, _, r1, s1, q1.2, fun ds A2 vs H2 q2 r2 s2 p2 t2 => ?_⟩⟩
  obtain ⟨d, hd, q3⟩ := q2
  exact h.act z A2 σ H2 d0 ds d v1 vs Q r2 s2 (t1.later p2) t2 hd fun v H' gv => low.gv r2 s2 g (p1.trans p2) q3 gv
theorem pe3_m0 {ok : AH → D → Bool} {f : AH → D → List D → Option D} {to : TE3} (pa : PlainAttrs T) (slot : Slot T name id) (hty : typeOf (.builtin id) = pure (.type "method_descriptor")) (hm : MtR X id r) (h : MtN X C T r ok f) (ho : PB3 X C o to)
    (hbase : attributeBase o name X.env (eval o X.env) = eval o X.env := by rfl) (hline : (apos.endLine == cpos.line) = true := by rfl) : PE3 X C (.Call (.Attribute o name apos) [] [] cpos) (eM ok f to aNil) :=
  PE.imp (pe_bw0 pa slot hty hm ho hbase hline) fun σ H Q hq => by
    obtain ⟨z, A, Q3, r0, s, q, g⟩ := hq
    refine ⟨z, A, _, r0, s, q, fun d0 A1 v1 H1 q1 r1 s1 p1 t1 => ⟨h.ty z A1 σ H1 d0 v1 r1 s1 t1 q1.1, ?_⟩⟩
    obtain ⟨_, d, hd, q3⟩ := q1
    exact h.act z A1 σ H1 d0 [] d v1 [] Q r1 s1 t1 .nil hd fun v H' gv => low.gv r1 s1 g p1 q3 gv
theorem pe3_m {ok : AH → D → Bool} {f : AH → D → List D → Option D} {to : TE3} {ta : TA3} (pa : PlainAttrs T) (slot : Slot T name id) (hty : typeOf (.builtin id) = pure (.type "method_descriptor")) (hm : MtR X id r) (h : MtN X C T r ok f) (ho : PB3 X C o to) (ha : PAB3 X C (e :: es) ta)
    (hbase : attributeBase o name X.env (eval o X.env) = eval o X.env := by rfl)
    (hfew : ((backTo cpos (starEach (e :: es) X.env)).all (fun x => !x.1) && (backToKw cpos (keywordEach [] X.env)).all (fun x => x.1.isSome)
      && decide ((e :: es).length + ([] : List Keyword).length + (if ([] : List Keyword).isEmpty then 0 else 1) < 30)) = true := by rfl)
    (hline : (apos.endLine == cpos.line) = true := by rfl) (hs : starEach (e :: es) X.env = (false, eval e X.env) :: starEach es X.env := by rfl) (hplain : (backTo cpos (starEach es X.env)).any (·.1) = false := by rfl) :
    PE3 X C (.Call (.Attribute o name apos) (e :: es) [] cpos) (eM ok f to ta) :=
  PE.imp (pe_bw pa slot hty hm ho ha hbase hfew hline hs hplain) fun σ H Q hq => low_m h hq

/-! #### .. that change the receiver -/
structure MtC (X : Cx) (T : String) (r : V → List V → Hp → VK → Prop) (ok : Ob → Bool) (g : Ob → List D → Option (Ob × D)) : Prop where
  ty : ∀ (H : Hp) (a : Addr) (ob : Ob), RpO X.K X.w H a ob → ok ob = true → TyOk X T (.ref a) H
  act : ∀ (H : Hp) (a : Addr) (ob ob' : Ob) (ds : List D) (d : D) (xs : List V) (Q : VK), RpO X.K X.w H a ob → Rps X.K X.w H ds xs → g ob ds = some (ob', d) →
    (∀ u' v, RpO X.K X.w (upd H a u') a ob' → Rp X.K X.w (upd H a u') d v → Q v (upd H a u')) → r (.ref a) xs H Q
/-- the receiver a reference -/
def eMR (ok : Ob → Bool) (g : Ob → List D → Option (Ob × D)) (to : TE3) (ta : TA3) : TE3 := fun z A Q => to z A fun d0 A1 => ∃ a ob, d0 = .ref a ∧ A1 a = some ob ∧ ok ob = true ∧
  ta z A1 fun ds A2 => ∃ ob1 ob' d, A2 a = some ob1 ∧ g ob1 ds = some (ob', d) ∧ Q d (put A2 a ob')
theorem low_mr {ok : Ob → Bool} {g : Ob → List D → Option (Ob × D)} {to : TE3} {ta : TA3} (h : MtC X T r ok g) {σ : L2.St} {H : Hp} {Q : VK} (hq : low X.K X.w C (eMR ok g to ta) σ H Q) : tBW X T r (low X.K X.w C to) (lowA X.K X.w C ta) σ H Q := by
  obtain ⟨z, A, Q3, r0, s, q, k⟩ := hq
  refine ⟨z, A, _, r0, s, q, fun d0 A1 v1 H1 q1 r1 s1 p1 t1 => ?_⟩
  obtain ⟨a, ob, rfl, ea, eok, q2⟩ := q1
  have ev : v1 = .ref a := by have := t1.val; exact this
  subst ev
  refine ⟨h.ty H1 a ob (r1.heap a ob ea) eok, z, A1, _, r1, s1, q2, fun ds A2 vs H2 q3 r2 s2 p2 t2 => ?_⟩
  obtain ⟨ob1, ob', d, e1, e2, q4⟩ := q3
  have ro := r2.heap a ob1 e1
  obtain ⟨u, hu, c⟩ := ro.there
  refine h.act H2 a ob1 ob' ds d vs Q ro t2 e2 fun u' v q5 rv => ?_
  obtain ⟨r3, s3⟩ := ref_write r2 s2 e1 hu c q5
  exact k d _ v _ q4 r3 s3 ((p1.trans p2).trans (pers_upd hu c)) (.of rv)
theorem pe3_mr0 {ok : Ob → Bool} {g : Ob → List D → Option (Ob × D)} {to : TE3} (pa : PlainAttrs T) (slot : Slot T name id) (hty : typeOf (.builtin id) = pure (.type "method_descriptor")) (hm : MtR X id r) (h : MtC X T r ok g) (ho : PE3 X C o to)
    (hbase : attributeBase o name X.env (eval o X.env) = eval o X.env := by rfl) (hline : (apos.endLine == cpos.line) = true := by rfl) : PE3 X C (.Call (.Attribute o name apos) [] [] cpos) (eMR ok g to aNil) :=
  PE.imp (pe_bw0 pa slot hty hm ho hbase hline) fun σ H Q hq => by
    obtain ⟨z, A, Q3, r0, s, q, k⟩ := hq
    refine ⟨z, A, _, r0, s, q, fun d0 A1 v1 H1 q1 r1 s1 p1 t1 => ?_⟩
    obtain ⟨a, ob, rfl, ea, eok, ob1, ob', d, e1, e2, q4⟩ := q1
    have ev : v1 = .ref a := by have := t1.val; exact this
    subst ev
    have ro := r1.heap a ob1 e1
    obtain ⟨u, hu, c⟩ := ro.there
    refine ⟨h.ty H1 a ob (r1.heap a ob ea) eok, ?_⟩
    refine h.act H1 a ob1 ob' [] d [] Q ro Rps.nil e2 fun u' v q5 rv => ?_
    obtain ⟨r3, s3⟩ := ref_write r1 s1 e1 hu c q5
    exact k d _ v _ q4 r3 s3 (p1.trans (pers_upd hu c)) (.of rv)
theorem pe3_mr {ok : Ob → Bool} {g : Ob → List D → Option (Ob × D)} {to : TE3} {ta : TA3} (pa : PlainAttrs T) (slot : Slot T name id) (hty : typeOf (.builtin id) = pure (.type "method_descriptor")) (hm : MtR X id r) (h : MtC X T r ok g) (ho : PE3 X C o to) (ha : PA3 X C (e :: es) ta)
    (hbase : attributeBase o name X.env (eval o X.env) = eval o X.env := by rfl)
    (hfew : ((backTo cpos (starEach (e :: es) X.env)).all (fun x => !x.1) && (backToKw cpos (keywordEach [] X.env)).all (fun x => x.1.isSome)
      && decide ((e :: es).length + ([] : List Keyword).length + (if ([] : List Keyword).isEmpty then 0 else 1) < 30)) = true := by rfl)
    (hline : (apos.endLine == cpos.line) = true := by rfl) (hs : starEach (e :: es) X.env = (false, eval e X.env) :: starEach es X.env := by rfl) (hplain : (backTo cpos (starEach es X.env)).any (·.1) = false := by rfl) :
    PE3 X C (.Call (.Attribute o name apos) (e :: es) [] cpos) (eMR ok g to ta) :=
  PE.imp (pe_bw pa slot hty hm ho ha hbase hfew hline hs hplain) fun σ H Q hq => low_mr h hq
/-- the receiver a name that holds it alone; the value goes to a consumer of its own (W: dropped, or stored) -/
def dOf : Ob → D
  | .lst xs => .ml xs | .dct kvs => .md kvs | .ins _ _ => .non
theorem dOf_ob {d : D} {ob : Ob} (h : obOf d = some ob) : d = dOf ob := by cases d <;> simp [obOf] at h <;> subst h <;> rfl
def sM (i : Nat) (ok : Ob → Bool) (g : Ob → List D → Option (Ob × D)) (ta : TA3) (k : D → TS3) : TS3 := fun D z A => ∃ d0 ob, z[i]? = some (some d0) ∧ obOf d0 = some ob ∧ ok ob = true ∧
  ta z A fun ds A2 => ∃ ob' d, g ob ds = some (ob', d) ∧ obOf (dOf ob') = some ob' ∧ k d D (z.set i (some (dOf ob'))) A2
theorem low_sm {i : Nat} {ok : Ob → Bool} {g : Ob → List D → Option (Ob × D)} {ta : TA3} {k : D → TS3} (h : MtC X T r ok g) {σ : L2.St} {H : Hp} {D : Ends} {W : VK} (hq : lowS X.K X.w C (sM i ok g ta k) D σ H)
    (hk : ∀ d v z A H D3, k d D3 z A → Fits3 X.K X.w C H D3 D → Rel X.K X.w C A H → Slots X.K X.w C z A σ H → Rp X.K X.w H d v → W v H) : tBW X T r (tVar i) (lowA X.K X.w C ta) σ H W := by
  obtain ⟨z, A, D3, r0, s, ⟨d0, ob, hd, eo, eok, q⟩, f⟩ := hq
  obtain ⟨v, hv, rv⟩ := s.val i d0 hd
  have o : own d0 = true := by cases d0 <;> first | rfl | simp [obOf] at eo
  obtain ⟨a, ob', rfl, eo', ro⟩ := rv.ob o
  rw [eo] at eo'; cases eo'
  refine ⟨_, hv, h.ty H a ob ro eok, z, A, _, r0, s, q, fun ds A2 vs H2 q3 r2 s2 p2 t2 => ?_⟩
  obtain ⟨ob', d, e2, e3, q4⟩ := q3
  obtain ⟨v2, hv2, rv2⟩ := s2.val i d0 hd
  rw [hv] at hv2; cases hv2
  obtain ⟨a2, ob2, ea2, eo2, ro2⟩ := rv2.ob o
  cases ea2
  rw [eo] at eo2; cases eo2
  obtain ⟨u, hu, c⟩ := ro2.there
  refine h.act H2 a ob ob' ds d vs W ro2 t2 e2 fun u' v q5 rv => ?_
  obtain ⟨r3, s3⟩ := own_write r2 s2 hd o hv hu c e3 q5
  exact hk d v _ _ _ D3 q4 (f.later (p2.trans (pers_upd hu c))) r3 s3 rv
def kDrop : D → TS3 := fun _ D z A => D.nx z A
theorem ps3_m0 {i : Nat} {ok : Ob → Bool} {g : Ob → List D → Option (Ob × D)} {pos : Pos} (pa : PlainAttrs T) (slot : Slot T name id) (hty : typeOf (.builtin id) = pure (.type "method_descriptor")) (hm : MtR X id r) (h : MtC X T r ok g) (ho : PE X o (tVar i))
    (hs : swapsWith (.Call (.Attribute o name apos) [] [] cpos) none pos.line X.env = pure false := by rfl)
    (hbase : attributeBase o name X.env (eval o X.env) = eval o X.env := by rfl) (hline : (apos.endLine == cpos.line) = true := by rfl) : PS3 X C (.Expr (.Call (.Attribute o name apos) [] [] cpos) pos) (sM i ok g aNil kDrop) :=
  PS.imp (ps_expr (pe_bw0 pa slot hty hm ho hbase hline) hs) fun D σ H hq => by
    have q := low_sm (X := X) (C := C) (W := fun _ H1 => D.nx σ H1) h hq fun d v z A H D3 hk f r s rv => f.nx z A σ H hk r s (.refl H)
    obtain ⟨v, hv, ty, z, A, Q3, r0, s, q, g'⟩ := q
    exact ⟨v, hv, ty, g' [] A [] H q r0 s (.refl H) Rps.nil⟩
theorem ps3_m {i : Nat} {ok : Ob → Bool} {g : Ob → List D → Option (Ob × D)} {ta : TA3} {pos : Pos} (pa : PlainAttrs T) (slot : Slot T name id) (hty : typeOf (.builtin id) = pure (.type "method_descriptor")) (hm : MtR X id r) (h : MtC X T r ok g) (ho : PE X o (tVar i)) (ha : PA3 X C (e :: es) ta)
    (hsw : swapsWith (.Call (.Attribute o name apos) (e :: es) [] cpos) none pos.line X.env = pure false := by rfl)
    (hbase : attributeBase o name X.env (eval o X.env) = eval o X.env := by rfl)
    (hfew : ((backTo cpos (starEach (e :: es) X.env)).all (fun x => !x.1) && (backToKw cpos (keywordEach [] X.env)).all (fun x => x.1.isSome)
      && decide ((e :: es).length + ([] : List Keyword).length + (if ([] : List Keyword).isEmpty then 0 else 1) < 30)) = true := by rfl)
    (hline : (apos.endLine == cpos.line) = true := by rfl) (hs : starEach (e :: es) X.env = (false, eval e X.env) :: starEach es X.env := by rfl) (hplain : (backTo cpos (starEach es X.env)).any (·.1) = false := by rfl) :
    PS3 X C (.Expr (.Call (.Attribute o name apos) (e :: es) [] cpos) pos) (sM i ok g ta kDrop) :=
  PS.imp (ps_expr (pe_bw pa slot hty hm ho ha hbase hfew hline hs hplain) hsw) fun D σ H hq => low_sm (X := X) (C := C) (W := fun _ H1 => D.nx σ H1) h hq fun d v z A H D3 hk f r s rv => f.nx z A σ H hk r s (.refl H)

/-! #### o[i] = e -/
/-- a store by values -/
def SetC (X : Cx) (r : TSet) (g : Ob → D → D → Option Ob) : Prop := ∀ (H : Hp) (a : Addr) (ob ob' : Ob) (k v : D) (x y : V) (Q : Hp → Prop), RpO X.K X.w H a ob → Rp X.K X.w H k x → Rp X.K X.w H v y → g ob k v = some ob' →
  (∀ u', RpO X.K X.w (upd H a u') a ob' → Q (upd H a u')) → r (.ref a) x y H Q
def sPut (i : Nat) (g : Ob → D → D → Option Ob) (tk tv : TE3) : TS3 := fun D z A => (∃ d, z[i]? = some (some d)) ∧ tv z A fun v A1 => tk z A1 fun k A2 => ∃ d0 ob ob', z[i]? = some (some d0) ∧ obOf d0 = some ob ∧ g ob (frz k) (frz v) = some ob' ∧ obOf (dOf ob') = some ob' ∧ D.nx (z.set i (some (dOf ob'))) A2
def sPutR (g : Ob → D → D → Option Ob) (to tk tv : TE3) : TS3 := fun D z A => tv z A fun v A1 => to z A1 fun d0 A2 => tk z A2 fun k A3 => ∃ a ob ob', frz d0 = .ref a ∧ A3 a = some ob ∧ g ob (frz k) (frz v) = some ob' ∧ D.nx z (put A3 a ob')
section
variable {i k : Expr} {j : Nat} {tr : TSet} {g : Ob → D → D → Option Ob} {tk tv : TE3} {to3 : TE3} {tpos pos : Pos} {ve : Expr}
theorem ps3_put (hr : PSet X tr) (h : SetC X tr g) (ho : PE X o (tVar j)) (hk : PE3 X C k tk) (hv : PE3 X C ve tv)
    (ha : ∀ v, assign (.Subscript o k tpos) X.env v = (do
      let ov ← holding [v] (eval o X.env)
      let iv ← holding [v, ov] (eval k X.env)
      standAt tpos
      holding [v, ov, iv] (setItem ov iv v)
      release [v, ov, iv] []) := by intro _; rfl)
    (hs : swapsWithSole [.Subscript o k tpos] ve pos.line X.env = pure false := by rfl) (hw : swappedStores [.Subscript o k tpos] ve X.env = pure none := by rfl)
    (h1 : (assignEach [.Subscript o k tpos] X.env).map (·.2) = [assign (.Subscript o k tpos) X.env] := by rfl) : PS3 X C (.Assign [.Subscript o k tpos] ve pos) (sPut j g tk tv) :=
  PS.imp (ps_asg (pe_fz hv) (pg_sub ho (pe_fz hk) hr ha) hs hw h1) fun D σ H hq => by
    obtain ⟨z, A, D3, r, s, ⟨⟨dj, hdj⟩, q⟩, f⟩ := hq
    obtain ⟨x, hx, _⟩ := s.val j dj hdj
    refine ⟨z, A, _, r, s, q, fun v A1 y H1 q1 r1 s1 p1 t1 => ?_⟩
    refine ⟨x, hx, z, A1, _, r1, s1, q1, fun kd A2 kx H2 q2 r2 s2 p2 t2 => ?_⟩
    obtain ⟨d0, ob, ob', hd, eo, eg, e3, q4⟩ := q2
    have o : own d0 = true := by cases d0 <;> first | rfl | simp [obOf] at eo
    obtain ⟨x2, hx2, rv2⟩ := s2.val j d0 hd
    rw [hx] at hx2; cases hx2
    obtain ⟨a2, ob2, ea2, eo2, ro2⟩ := rv2.ob o
    subst ea2
    rw [eo] at eo2; cases eo2
    obtain ⟨u, hu, c⟩ := ro2.there
    refine h H2 a2 ob ob' _ _ kx y _ ro2 t2 (t1.pers p2) eg fun u' q5 => ?_
    obtain ⟨r3, s3⟩ := own_write r2 s2 hd o hx hu c e3 q5
    exact f.nx _ _ σ _ q4 r3 s3 ((p1.trans p2).trans (pers_upd hu c))
theorem ps3_putR (hr : PSet X tr) (h : SetC X tr g) (ho : PE3 X C o to3) (hk : PE3 X C k tk) (hv : PE3 X C ve tv)
    (ha : ∀ v, assign (.Subscript o k tpos) X.env v = (do
      let ov ← holding [v] (eval o X.env)
      let iv ← holding [v, ov] (eval k X.env)
      standAt tpos
      holding [v, ov, iv] (setItem ov iv v)
      release [v, ov, iv] []) := by intro _; rfl)
    (hs : swapsWithSole [.Subscript o k tpos] ve pos.line X.env = pure false := by rfl) (hw : swappedStores [.Subscript o k tpos] ve X.env = pure none := by rfl)
    (h1 : (assignEach [.Subscript o k tpos] X.env).map (·.2) = [assign (.Subscript o k tpos) X.env] := by rfl) : PS3 X C (.Assign [.Subscript o k tpos] ve pos) (sPutR g to3 tk tv) :=
  PS.imp (ps_asg (pe_fz hv) (pg_sub (pe_fz ho) (pe_fz hk) hr ha) hs hw h1) fun D σ H hq => by
    obtain ⟨z, A, D3, r, s, q, f⟩ := hq
    refine ⟨z, A, _, r, s, q, fun v A1 y H1 q1 r1 s1 p1 t1 => ⟨z, A1, _, r1, s1, q1, fun d0 A2 x H2 q2 r2 s2 p2 t2 => ⟨z, A2, _, r2, s2, q2, fun kd A3 kx H3 q3 r3 s3 p3 t3 => ?_⟩⟩⟩
    obtain ⟨a, ob, ob', ed, ea, eg, q4⟩ := q3
    rw [ed] at t2
    have ex : x = .ref a := by rw [Rp] at t2; exact t2
    subst ex
    have ro := r3.heap a ob ea
    obtain ⟨u, hu, c⟩ := ro.there
    refine h H3 a ob ob' _ _ kx y _ ro t3 ((t1.pers p2).pers p3) eg fun u' q5 => ?_
    obtain ⟨r4, s4⟩ := ref_write r3 s3 ea hu c q5
    exact f.nx _ _ σ _ q4 r4 s4 (((p1.trans p2).trans p3).trans (pers_upd hu c))
end
end
end T3
set_option autoImplicit false
namespace T3
open PySem PySem.Spec PyProof.Rows L2

/-! ### targets: a name; names in brackets -/
inductive Pat where
  | nm (i : Nat) | tp (is : List Nat)
def Pat.ix : Pat → List Nat
  | .nm i => [i] | .tp is => is
def gNames : List Nat → TGs
  | [] => gNil
  | i :: is => gCons (gName i) (gNames is)
def gPat (K : PySem.W.Frag) : Pat → TG
  | .nm i => gName i
  | .tp is => gTup K is.length (gNames is)
def setAll : S3 → List Nat → List D → S3
  | z, i :: is, d :: ds => setAll (z.set i (some d)) is ds
  | z, _, _ => z
def setP : Pat → D → S3 → Option S3
  | .nm i, d, z => some (z.set i (some d))
  | .tp is, .tup ds, z => if ds.length = is.length then some (setAll z is ds) else none
  | .tp _, _, _ => none
theorem wipe_at (σ : L2.St) : ∀ (vs : List Nat) (j : Nat), j ∈ vs → (wipe σ vs)[j]? = if j < σ.length then some none else none
  | [], j, h => by cases h
  | v :: vs, j, h => by
    show ((wipe σ vs).set v none)[j]? = _
    by_cases e : v = j
    · subst e
      by_cases hl : v < σ.length
      · rw [List.getElem?_set_self (by rw [wipe_length]; exact hl), if_pos hl]
      · rw [if_neg hl, List.getElem?_eq_none (by rw [List.length_set, wipe_length]; omega)]
    · rw [List.getElem?_set_ne e]
      exact wipe_at σ vs j ((List.mem_cons.mp h).resolve_left fun q => e q.symm)
theorem wipe_set (σ : L2.St) (i : Nat) (x : Option V) (vs : List Nat) (h : i ∈ vs) : wipe (σ.set i x) vs = wipe σ vs := by
  apply List.ext_getElem?
  intro j
  by_cases hj : j ∈ vs
  · rw [wipe_at _ _ _ hj, wipe_at _ _ _ hj, List.length_set]
  · rw [wipe_out hj, wipe_out hj, List.getElem?_set_ne (fun e => hj (by rw [← e]; exact h))]
section
variable {K : PySem.W.Frag} {w : World} {C : Ct} {z z' : S3} {A : AH} {σ : L2.St} {H : Hp} {d : D} {v : V}
theorem names_low (r : Rel K w C A H) : ∀ (is : List Nat) (ds : List D) (vs : List V) (z : S3) (σ : L2.St), Slots K w C z A σ H → Rps K w H ds vs → ds.length = is.length → ∀ Q : L2.St → Hp → Prop,
    (∀ σ', Slots K w C (setAll z is ds) A σ' H → (∀ ws : List Nat, (∀ i ∈ is, i ∈ ws) → wipe σ' ws = wipe σ ws) → Q σ' H) → gNames is vs σ H Q
  | [], ds, vs, z, σ, s, h, e, Q, q => by
    have : ds = [] := List.eq_nil_of_length_eq_zero (by simpa using e)
    subst this
    rw [Rps] at h
    exact ⟨h, q σ s fun _ _ => rfl⟩
  | i :: is, [], vs, z, σ, s, h, e, Q, q => by simp at e
  | i :: is, d :: ds, vs, z, σ, s, h, e, Q, q => by
    rw [Rps] at h
    obtain ⟨x, xs, rfl, h1, h2⟩ := h
    refine ⟨x, xs, rfl, ?_⟩
    refine names_low r is ds xs (z.set i (some d)) (σ.set i (some x)) (s.set (.of h1) i) h2 (by simpa using e) Q fun σ' s' hw => q σ' s' fun ws hi => ?_
    rw [hw ws fun j hj => hi j (List.mem_cons_of_mem _ hj), wipe_set _ _ _ _ (hi i List.mem_cons_self)]
/-- an item, as the target wants it: names in brackets ask less -/
def RpP (K : PySem.W.Frag) (w : World) (H : Hp) : Pat → D → V → Prop
  | .nm _, d, v => Rp K w H d v
  | .tp _, d, v => Rp K w H d v ∨ ∃ a xs ds, d = .tup ds ∧ v = .ref a ∧ SqT K H a xs ∧ Rps K w H ds xs
theorem RpP.of {p : Pat} (h : Rp K w H d v) : RpP K w H p d v := by
  cases p with
  | nm i => exact h
  | tp is => exact .inl h
theorem RpP.notOwn {p : Pat} (h : RpP K w H p d v) : own d = false ∧ ∀ ds, d = .tup ds → ∀ y ∈ ds, own y = false := by
  have one : ∀ {ds : List D} {xs : List V}, Rps K w H ds xs → ∀ y ∈ ds, own y = false := fun rs y hy => by
    obtain ⟨k, hk⟩ := List.mem_iff_getElem?.mp hy
    obtain ⟨v, _, rv⟩ := rs.get hk
    exact rv.notOwn
  have rp : Rp K w H d v → own d = false ∧ ∀ ds, d = .tup ds → ∀ y ∈ ds, own y = false := fun h => ⟨h.notOwn, fun ds e y hy => by
    rw [e, Rp] at h
    obtain ⟨a, xs, _, _, rs⟩ := h
    exact one rs y hy⟩
  cases p with
  | nm i => exact rp h
  | tp is =>
    rcases h with h | ⟨a, xs, ds, rfl, _, _, rs⟩
    · exact rp h
    · exact ⟨rfl, fun ds' e y hy => by cases e; exact one rs y hy⟩
theorem pat_low {p : Pat} {Q : L2.St → Hp → Prop} (r : Rel K w C A H) (s : Slots K w C z A σ H) (h : RpP K w H p d v) (e : setP p d z = some z')
    (q : ∀ σ', Slots K w C z' A σ' H → (∀ ws : List Nat, (∀ i ∈ p.ix, i ∈ ws) → wipe σ' ws = wipe σ ws) → Q σ' H) : gPat K p v σ H Q := by
  cases p with
  | nm i =>
    simp only [setP, Option.some.injEq] at e
    subst e
    exact q _ (s.set (.of h) i) fun ws hi => wipe_set _ _ _ _ (hi i (by simp [Pat.ix]))
  | tp is =>
    cases d with
    | tup ds =>
      rw [setP] at e
      split at e
      · rename_i hl
        cases e
        have h' : ∃ a xs, v = .ref a ∧ SqT K H a xs ∧ Rps K w H ds xs := by
          rcases h with h | ⟨a, xs, ds', e, ev, h1, h2⟩
          · rw [Rp] at h
            obtain ⟨a, xs, rfl, hs, hr⟩ := h
            exact ⟨a, xs, rfl, hs.sqt, hr⟩
          · cases e
            exact ⟨a, xs, ev, h1, h2⟩
        obtain ⟨a, xs, rfl, hs, hr⟩ := h'
        refine ⟨a, xs, rfl, hs, hr.length.trans hl, ?_⟩
        exact names_low r is ds xs z σ s hr hl Q q
      · cases e
    | _ => cases e
end
section
variable {X : Cx} {C : Ct}
def sAsgP (p : Pat) (t : TE3) : TS3 := fun D z A => t z A fun d A' => ∃ z', setP p (frz d) z = some z' ∧ D.nx z' A'
theorem ps3_asgP {tg e : Expr} {p : Pat} {t : TE3} {pos : Pos} (he : PE3 X C e t) (hg : PG X tg (gPat X.K p)) (hs : swapsWithSole [tg] e pos.line X.env = pure false := by rfl) (hw : swappedStores [tg] e X.env = pure none := by rfl)
    (h1 : (assignEach [tg] X.env).map (·.2) = [assign tg X.env] := by rfl) : PS3 X C (.Assign [tg] e pos) (sAsgP p t) := PS.imp (ps_asg (pe_fz he) hg hs hw h1) fun D σ H hq => by
  obtain ⟨z, A, D3, r, s, q, f⟩ := hq
  refine ⟨z, A, _, r, s, q, fun d A' v H' q' r' s' p' t' => ?_⟩
  obtain ⟨z', e, q2⟩ := q'
  exact pat_low r' s' (.of t') e fun σ' s2 _ => f.nx z' A' σ' H' q2 r' s2 p'

/-! ### what a loop walks -/
/-- lists that others hold, with what stands in them -/
abbrev Ws := List (Addr × List D)
def Held (A : AH) (ws : Ws) : Prop := ∀ q ∈ ws, A q.1 = some (.lst q.2)
def Seen (K : PySem.W.Frag) (w : World) (ws : Ws) (H : Hp) : Prop := ∀ q ∈ ws, ∃ vs, H q.1 = some (.lst vs) ∧ Rps K w H q.2 vs
theorem Held.seen {K : PySem.W.Frag} {w : World} {C : Ct} {A : AH} {H : Hp} {ws : Ws} (r : Rel K w C A H) (h : Held A ws) : Seen K w ws H := fun q hq => r.heap q.1 _ (h q hq)
abbrev TI3 := S3 → AH → (List D → Ws → AH → Prop) → Prop
/-- the iterator yields these items as long as data stays data -/
def Steady (K : PySem.W.Frag) (w : World) (p : Pat) (ws : Ws) (J : It) (items : List D) (H : Hp) : Prop :=
  (∀ H2, Pers H H2 → Seen K w ws H2 → J.stop items.length H2) ∧ ∀ i d H2, Pers H H2 → Seen K w ws H2 → items[i]? = some d → J.go i H2 ∧ ∀ x H3, J.yld i H2 x H3 → Ext H2 H3 ∧ RpP K w H3 p d x
def lowI (K : PySem.W.Frag) (w : World) (C : Ct) (p : Pat) (t : TI3) : TI := fun σ H R => ∃ z A Q3, Rel K w C A H ∧ Slots K w C z A σ H ∧ t z A Q3 ∧
  ∀ items ws A' J H', Q3 items ws A' → Rel K w C A' H' → Slots K w C z A' σ H' → Pers H H' → Steady K w p ws J items H' → R J H'
abbrev PI3 (X : Cx) (C : Ct) (p : Pat) (tg e : Expr) (t : TI3) : Prop := PI X tg e (lowI X.K X.w C p t)
theorem PI.imp {tg e : Expr} {t t' : TI} (h : PI X tg e t) (i : ∀ σ H R, t' σ H R → t σ H R) : PI X tg e t' := ⟨fun pins s σ H R I q => h.run pins s σ H R I (i σ H R q)⟩

/-! ### for -/
def forW (p : Pat) (tb : TS3) (E : Ends3) (ws : Ws) : List D → S3 → AH → Prop
  | [], z, A => Held A ws ∧ E.nx z A
  | x :: xs, z, A => Held A ws ∧ ∃ z', setP p x z = some z' ∧ tb { E with nx := forW p tb E ws xs, ct := forW p tb E ws xs, bk := E.nx } z' A
def sFor (t : TI3) (p : Pat) (tb : TS3) : TS3 := fun D z A => t z A fun items ws A' => forW p tb D ws items z A'
theorem ps3_for {tg iter : Expr} {body : List Stmt} {t : TI3} {p : Pat} {tb : TS3} {pos : Pos} (hp : PassesOwn (model X.prog X.w) X.A X.env X.xe) (hc : X.calm = true) (hi : PI3 X C p tg iter t) (hg : PG X tg (gPat X.K p)) (hb : PSs3 X C body tb)
    (hs : ∀ x, foldedSetIterable iter X.env x = pure x := by intro _; rfl) : PS3 X C (.For tg iter body [] pos) (sFor t p tb) := PS.imp (ps_for hp hc hi hg hb hs) fun D σ H hq => by
  obtain ⟨z, A, D3, r, s, q, f⟩ := hq
  refine ⟨z, A, _, r, s, q, fun items ws A1 J H1 q1 r1 s1 p1 st => ?_⟩
  refine ⟨fun i m σ2 H2 => ∃ z2 A2, m = items.length - i ∧ i ≤ items.length ∧ Rel X.K X.w C A2 H2 ∧ Slots X.K X.w C z2 A2 σ2 H2 ∧ Pers H1 H2 ∧ forW p tb D3 ws (items.drop i) z2 A2,
    ⟨items.length, z, A1, by simp, Nat.zero_le _, r1, s1, .refl _, by simpa using q1⟩, ?_⟩
  rintro i m σ2 H2 ⟨z2, A2, rfl, hi, r2, s2, p2, q2⟩
  by_cases hlt : i < items.length
  · refine .inr ?_
    have hd : items.drop i = items[i] :: items.drop (i + 1) := List.drop_eq_getElem_cons hlt
    rw [hd] at q2
    obtain ⟨hw, z3, e3, q3⟩ := q2
    obtain ⟨go, yl⟩ := st.2 i items[i] H2 p2 (hw.seen r2) (List.getElem?_eq_getElem hlt)
    refine ⟨go, fun σ4 H4 => ∃ z4 A4, Rel X.K X.w C A4 H4 ∧ Slots X.K X.w C z4 A4 σ4 H4 ∧ Pers H1 H4 ∧ forW p tb D3 ws (items.drop (i + 1)) z4 A4, ?_, fun x H3 y => ?_⟩
    · rintro σ4 H4 ⟨z4, A4, r4, s4, p4, q4⟩
      exact ⟨items.length - (i + 1), by omega, z4, A4, rfl, hlt, r4, s4, p4, q4⟩
    · obtain ⟨e, rx⟩ := yl x H3 y
      have pb : Pers H1 H3 := p2.trans (.of_ext e)
      refine pat_low (r2.ext e) (s2.ext e) rx e3 fun σ' s' _ => ?_
      exact ⟨z3, A2, _, r2.ext e, s', q3, ⟨fun z4 A4 σ4 H4 q4 r4 s4 p4 => ⟨z4, A4, r4, s4, pb.trans p4, q4⟩, fun d A4 v H4 q4 r4 t4 o4 p4 => f.rt d A4 v H4 q4 r4 t4 o4 ((p1.trans pb).trans p4),
        fun z4 A4 σ4 H4 q4 r4 s4 p4 => f.nx z4 A4 σ4 H4 q4 r4 s4 ((p1.trans pb).trans p4), fun z4 A4 σ4 H4 q4 r4 s4 p4 => ⟨z4, A4, r4, s4, pb.trans p4, q4⟩⟩⟩
  · have e : i = items.length := by omega
    subst e
    rw [List.drop_length] at q2
    exact .inl ⟨st.1 H2 p2 (q2.1.seen r2), f.nx z2 A2 σ2 H2 q2.2 r2 s2 (p1.trans p2)⟩

/-! ### while -/
def sWhile (c : TT3) (tb : TS3) : TS3 := fun D z A => ∃ P : Nat → S3 → AH → Prop, (∃ n, P n z A) ∧ ∀ n z A, P n z A →
  c z A fun b A1 => if b = true then tb { D with nx := fun z' A' => ∃ n', n' < n ∧ P n' z' A', ct := fun z' A' => ∃ n', n' < n ∧ P n' z' A', bk := D.nx } z A1 else D.nx z A1
theorem ps3_while {c : Expr} {body : List Stmt} {tc : TT3} {tb : TS3} {pos : Pos} (hp : PassesOwn (model X.prog X.w) X.A X.env X.xe) (hc : PT3 X C c tc) (hb : PSs3 X C body tb) : PS3 X C (.While c body [] pos) (sWhile tc tb) := PS.imp (ps_while hp hc hb) fun D σ H hq => by
  obtain ⟨z, A, D3, r, s, ⟨P, ⟨n0, p0⟩, turn⟩, f⟩ := hq
  refine ⟨fun n σ2 H2 => ∃ z2 A2, Rel X.K X.w C A2 H2 ∧ Slots X.K X.w C z2 A2 σ2 H2 ∧ Pers H H2 ∧ P n z2 A2, ⟨n0, z, A, r, s, .refl H, p0⟩, ?_⟩
  rintro n σ2 H2 ⟨z2, A2, r2, s2, p2, q2⟩
  refine ⟨z2, A2, _, r2, s2, turn n z2 A2 q2, fun b A3 H3 q3 r3 s3 p3 => ?_⟩
  have pb := p2.trans p3
  cases b with
  | true =>
    refine ⟨fun σ4 H4 => ∃ n', n' < n ∧ ∃ z4 A4, Rel X.K X.w C A4 H4 ∧ Slots X.K X.w C z4 A4 σ4 H4 ∧ Pers H H4 ∧ P n' z4 A4, fun σ4 H4 h => h, z2, A3, _, r3, s3, q3, ?_⟩
    exact ⟨fun z4 A4 σ4 H4 ⟨n', hn, q4⟩ r4 s4 p4 => ⟨n', hn, z4, A4, r4, s4, pb.trans p4, q4⟩, fun d A4 v H4 q4 r4 t4 o4 p4 => f.rt d A4 v H4 q4 r4 t4 o4 (pb.trans p4),
      fun z4 A4 σ4 H4 q4 r4 s4 p4 => f.nx z4 A4 σ4 H4 q4 r4 s4 (pb.trans p4), fun z4 A4 σ4 H4 ⟨n', hn, q4⟩ r4 s4 p4 => ⟨n', hn, z4, A4, r4, s4, pb.trans p4, q4⟩⟩
  | false => exact f.nx z2 A3 σ2 H3 q3 r3 s3 pb

/-! ### comprehensions -/
def wipe3 (z : S3) : List Nat → S3
  | [] => z
  | v :: vs => (wipe3 z vs).set v none
theorem wipe3_length (z : S3) : ∀ vs : List Nat, (wipe3 z vs).length = z.length
  | [] => rfl
  | v :: vs => by unfold wipe3; rw [List.length_set, wipe3_length z vs]
theorem wipe3_some {z : S3} {i : Nat} {x : D} : ∀ {vs : List Nat}, (wipe3 z vs)[i]? = some (some x) → z[i]? = some (some x) ∧ i ∉ vs
  | [], h => ⟨h, by simp⟩
  | v :: vs, h => by
    unfold wipe3 at h
    by_cases e : v = i
    · subst e
      rw [List.getElem?_set] at h
      split at h
      · split at h <;> cases h
      · rename_i hn; exact absurd rfl hn
    · rw [List.getElem?_set_ne e] at h
      obtain ⟨h1, h2⟩ := wipe3_some h
      exact ⟨h1, by simp only [List.mem_cons, not_or]; exact ⟨fun q => e q.symm, h2⟩⟩
theorem wipe3_out {z : S3} {i : Nat} : ∀ {vs : List Nat}, i ∉ vs → (wipe3 z vs)[i]? = z[i]?
  | [], _ => rfl
  | v :: vs, h => by
    unfold wipe3
    simp only [List.mem_cons, not_or] at h
    rw [List.getElem?_set_ne (fun e => h.1 e.symm), wipe3_out h.2]
theorem setAll_out {i : Nat} : ∀ {is : List Nat} {ds : List D} {z : S3}, i ∉ is → (setAll z is ds)[i]? = z[i]?
  | [], _, _, _ => by unfold setAll; rfl
  | _ :: _, [], _, _ => by unfold setAll; rfl
  | j :: is, d :: ds, z, h => by
    simp only [List.mem_cons, not_or] at h
    unfold setAll
    rw [setAll_out h.2, List.getElem?_set_ne (fun e => h.1 e.symm)]
theorem setP_out {p : Pat} {d : D} {z z' : S3} {i : Nat} (e : setP p d z = some z') (h : i ∉ p.ix) : z'[i]? = z[i]? := by
  cases p with
  | nm j =>
    simp only [setP, Option.some.injEq] at e
    subst e
    exact List.getElem?_set_ne (fun q => h (by simp [Pat.ix, q]))
  | tp is =>
    cases d with
    | tup ds =>
      rw [setP] at e
      split at e
      · cases e; exact setAll_out h
      · cases e
    | _ => cases e
def lcW (p : Pat) (tt : TT3) (te : TE3) (z0 : S3) (ws : Ws) : List D → List D → AH → (D → AH → Prop) → Prop
  | [], acc, A, Q => Held A ws ∧ Q (.ml acc) A
  | x :: xs, acc, A, Q => Held A ws ∧ ∃ z', setP p x z0 = some z' ∧ tt z' A fun b A1 => if b = true then te z' A1 fun d A2 => acc.length < sizeLine ∧ lcW p tt te z0 ws xs (acc ++ [frz d]) A2 Q else lcW p tt te z0 ws xs acc A1 Q
def eLc (t : TI3) (p : Pat) (tt : TT3) (te : TE3) (vs : List Nat) : TE3 := fun z A Q => (∀ i ∈ vs, ∀ d, z[i]? = some (some d) → own d = false) ∧ t z A fun items ws A' => lcW p tt te (wipe3 z vs) ws items [] A' Q
def tYes3 : TT3 := fun _ A Q => Q true A
abbrev PTs3 (X : Cx) (C : Ct) (ifs : List Expr) (t : TT3) : Prop := PTs X ifs (lowT X.K X.w C t)
theorem PTs.imp {e : List Expr} {t t' : TT} (h : PTs X e t) (i : ∀ σ H Q, t' σ H Q → t σ H Q) : PTs X e t' := ⟨fun pins s σ H Q I q => h.run pins s σ H Q I (i σ H Q q)⟩
theorem pts3_nil : PTs3 X C [] tYes3 := PTs.imp pts_nil fun σ H Q hq => by
  obtain ⟨z, A, Q3, r, s, q, f⟩ := hq
  exact f true A H q r s (.refl H)
theorem pts3_one {c : Expr} {t : TT3} (h : PT3 X C c t) : PTs3 X C [c] t := pts_one h
/-- within a block whose list stands at L -/
def Ct.with (C : Ct) (L : Addr) (o : HO) : Ct := ⟨fun b => if b = L then some o else C.H0 b, fun b => if b = L then none else C.A0 b⟩
section
variable {K : PySem.W.Frag} {w : World} {C : Ct} {z : S3} {A : AH} {σ : L2.St} {H : Hp} {L : Addr} {o : HO}
theorem Rel.into (r : Rel K w C A H) (h : H L = some o) (hA : A L = none) : Rel K w (C.with L o) A H where
  heap := r.heap
  prot := fun b x e1 e2 => by
    by_cases hb : b = L
    · subst hb
      have : (some o : Option HO) = some x := by simpa [Ct.with] using e1
      rw [h, this]
    · simp only [Ct.with, hb, if_false] at e1 e2
      exact r.prot b x e1 e2
  dom := fun b e => by
    by_cases hb : b = L
    · rw [hb, hA] at e; exact absurd rfl e
    · simp only [Ct.with, hb, if_false]; exact r.dom b e
  mono := fun b e => by
    by_cases hb : b = L
    · rw [hb, h] at e; cases e
    · simp only [Ct.with, hb, if_false]; exact r.mono b e
theorem Rel.outof (r : Rel K w (C.with L o) A H) (h0 : C.H0 L = none) : Rel K w C A H ∧ H L = some o ∧ A L = none := by
  refine ⟨⟨r.heap, fun b x e1 e2 => ?_, fun b e => ?_, fun b e => ?_⟩, r.prot L o (by simp [Ct.with]) (by simp [Ct.with]), ?_⟩
  · have hb : b ≠ L := fun q => by rw [q, h0] at e1; cases e1
    exact r.prot b x (by simp [Ct.with, hb, e1]) (by simp [Ct.with, hb, e2])
  · by_cases hb : b = L
    · rw [hb]; exact .inr h0
    · have := r.dom b e
      simpa [Ct.with, hb] using this
  · by_cases hb : b = L
    · rw [hb]; exact h0
    · have := r.mono b e
      simpa [Ct.with, hb] using this
  · cases q : A L with
    | none => rfl
    | some x =>
      have := r.dom L (by rw [q]; simp)
      simp [Ct.with] at this
theorem Slots.into (s : Slots K w C z A σ H) (n : ∀ (i : Nat) (e : D), z[i]? = some (some e) → own e = true → σ[i]? ≠ some (some (V.ref L))) : Slots K w (C.with L o) z A σ H where
  val := s.val
  sep := fun i d a h oo hs => by
    have hb : a ≠ L := fun q => n i d h oo (by rw [hs, q])
    simpa [Ct.with, hb] using s.sep i d a h oo hs
  uniq := s.uniq
  len := s.len
theorem Slots.outof (s : Slots K w (C.with L o) z A σ H) (h0 : C.H0 L = none) : Slots K w C z A σ H ∧ ∀ (i : Nat) (e : D), z[i]? = some (some e) → own e = true → σ[i]? ≠ some (some (V.ref L)) := by
  refine ⟨⟨s.val, fun i d a h oo hs => ?_, s.uniq, s.len⟩, fun i e h oo hs => ?_⟩
  · have q := s.sep i d a h oo hs
    by_cases hb : a = L
    · rw [hb]; exact ⟨by rw [← hb]; exact q.1, h0⟩
    · simpa [Ct.with, hb] using q
  · have q := (s.sep i e L h oo hs).2
    simp [Ct.with] at q
theorem Slots.wipe (s : Slots K w C z A σ H) (vs : List Nat) : Slots K w C (wipe3 z vs) A (L2.wipe σ vs) H where
  val := fun i d h => by
    obtain ⟨h1, h2⟩ := wipe3_some h
    obtain ⟨v, h3, h4⟩ := s.val i d h1
    exact ⟨v, by rw [wipe_out h2]; exact h3, h4⟩
  sep := fun i d a h oo hs => by
    obtain ⟨h1, h2⟩ := wipe3_some h
    rw [wipe_out h2] at hs
    exact s.sep i d a h1 oo hs
  uniq := fun i j d e a h1 o1 h2 o2 s1 s2 => by
    obtain ⟨g1, n1⟩ := wipe3_some h1
    obtain ⟨g2, n2⟩ := wipe3_some h2
    rw [wipe_out n1] at s1
    rw [wipe_out n2] at s2
    exact s.uniq i j d e a g1 o1 g2 o2 s1 s2
  len := by rw [wipe3_length, wipe_length]; exact s.len
/-- behind a block: the slots of the def as they were -/
theorem Slots.back {vs : List Nat} {p : Pat} {x : D} {z' : S3} {A' : AH} {σ' : L2.St} {H' : Hp} (s : Slots K w C z A σ H) (nv : ∀ i ∈ vs, ∀ d, z[i]? = some (some d) → own d = false) (hp : ∀ i ∈ p.ix, i ∈ vs) (e : setP p x (wipe3 z vs) = some z') (hw : L2.wipe σ' vs = L2.wipe σ vs)
    (s' : Slots K w C z' A' σ' H') (pe : Pers H H') : Slots K w C z A' σ H' := by
  have zz : ∀ i, i ∉ vs → z'[i]? = z[i]? := fun i hi => by rw [setP_out e (fun q => hi (hp i q)), wipe3_out hi]
  have ss : ∀ i, i ∉ vs → σ'[i]? = σ[i]? := fun i hi => by
    have := congrArg (fun l => l[i]?) hw
    simpa [wipe_out hi] using this
  have nin : ∀ (i : Nat) (d : D), z[i]? = some (some d) → own d = true → i ∉ vs := fun i d h oo hi => by
    rw [nv i hi d h] at oo; cases oo
  refine ⟨fun i d h => ?_, fun i d a h oo hs => ?_, fun i j d f a h1 o1 h2 o2 s1 s2 => ?_, s.len⟩
  · by_cases hi : i ∈ vs
    · obtain ⟨v, h1, h2⟩ := s.val i d h
      exact ⟨v, h1, .of ((h2.rp (nv i hi d h)).pers pe)⟩
    · obtain ⟨v, h1, h2⟩ := s'.val i d (by rw [zz i hi]; exact h)
      exact ⟨v, by rw [← ss i hi]; exact h1, h2⟩
  · have hi := nin i d h oo
    exact s'.sep i d a (by rw [zz i hi]; exact h) oo (by rw [ss i hi]; exact hs)
  · have hi := nin i d h1 o1
    have hj := nin j f h2 o2
    exact s'.uniq i j d f a (by rw [zz i hi]; exact h1) o1 (by rw [zz j hj]; exact h2) o2 (by rw [ss i hi]; exact s1) (by rw [ss j hj]; exact s2)
end
theorem low_lc {t : TI3} {p : Pat} {tt : TT3} {te : TE3} {vs : List Nat} (hp : ∀ i ∈ p.ix, i ∈ vs) {σ : L2.St} {H : Hp} {Q : VK} (hq : low X.K X.w C (eLc t p tt te vs) σ H Q) :
    tLc (lowI X.K X.w C p t) (gPat X.K p) (fun σ H Q => ∃ C', lowT X.K X.w C' tt σ H Q) (tGo (fun σ H Q => ∃ C', low X.K X.w C' te σ H Q)) vs σ H Q := by
  obtain ⟨z, A, Q3, r, s, ⟨nv, q⟩, f⟩ := hq
  refine ⟨z, A, _, r, s, q, fun items ws A1 J H1 q1 r1 s1 p1 st L hL => ?_⟩
  have h0 : C.H0 L = none := r1.mono L hL
  have e1 := ext_upd (o := .lst []) hL
  have notL : ∀ (i : Nat) (e : D), z[i]? = some (some e) → own e = true → σ[i]? ≠ some (some (V.ref L)) := fun i e hi oe hs => by
    obtain ⟨v, h1, h2⟩ := s1.val i e hi
    rw [hs] at h1; cases h1
    obtain ⟨b, ob, eb, _, rb⟩ := h2.ob oe
    cases eb
    obtain ⟨_, hb, _⟩ := rb.there
    rw [hL] at hb; cases hb
  refine ⟨fun i m H2 => ∃ A2 acc accV, m = items.length - i ∧ i ≤ items.length ∧ Rel X.K X.w C A2 H2 ∧ A2 L = none ∧ Slots X.K X.w C z A2 σ H2 ∧ Pers H1 H2 ∧ H2 L = some (.lst accV) ∧ Rps X.K X.w H2 acc accV ∧ lcW p tt te (wipe3 z vs) ws (items.drop i) acc A2 Q3,
    ⟨items.length, A1, [], [], by simp, Nat.zero_le _, r1.ext e1, r1.afresh hL, s1.ext e1, .of_ext e1, upd_same, Rps.nil, by simpa using q1⟩, ?_⟩
  rintro i m H2 ⟨A2, acc, accV, rfl, hi, r2, hA2, s2, p2, hL2, ra, q2⟩
  by_cases hlt : i < items.length
  · refine .inr ?_
    have hd : items.drop i = items[i] :: items.drop (i + 1) := List.drop_eq_getElem_cons hlt
    rw [hd] at q2
    obtain ⟨hwd, z3, e3, q3⟩ := q2
    obtain ⟨go, yl⟩ := st.2 i items[i] H2 p2 (hwd.seen r2) (List.getElem?_eq_getElem hlt)
    refine ⟨go, fun H4 => ∃ A4 acc4 accV4, Rel X.K X.w C A4 H4 ∧ A4 L = none ∧ Slots X.K X.w C z A4 σ H4 ∧ Pers H1 H4 ∧ H4 L = some (.lst accV4) ∧ Rps X.K X.w H4 acc4 accV4 ∧ lcW p tt te (wipe3 z vs) ws (items.drop (i + 1)) acc4 A4 Q3, ?_, fun x H3 y => ?_⟩
    · rintro H4 ⟨A4, acc4, accV4, a1, a2, a3, a4, a5, a6, a7⟩
      exact ⟨items.length - (i + 1), by omega, A4, acc4, accV4, rfl, hlt, a1, a2, a3, a4, a5, a6, a7⟩
    · obtain ⟨e, rx⟩ := yl x H3 y
      have pb : Pers H1 H3 := p2.trans (.of_ext e)
      have r3 := r2.ext e
      have s3 := s2.ext e
      have hL3 : H3 L = some (.lst accV) := e _ _ hL2
      refine pat_low (z := wipe3 z vs) r3 (s3.wipe vs) rx e3 fun σ' s' hw => ?_
      have hw' : L2.wipe σ' vs = L2.wipe σ vs := by
        rw [hw vs hp]
        apply List.ext_getElem?
        intro j
        by_cases hj : j ∈ vs
        · rw [wipe_at _ _ _ hj, wipe_at _ _ _ hj, wipe_length]
        · rw [wipe_out hj, wipe_out hj]
      refine ⟨hw', C.with L (.lst accV), z3, A2, _, r3.into hL3 hA2, s'.into (fun j d hj oj hs => ?_), q3, fun b A4 H4 q4 r4 s4 p4 => ?_⟩
      · by_cases hv : j ∈ vs
        · by_cases hpx : j ∈ p.ix
          · obtain ⟨v, h1, h2⟩ := s'.val j d hj
            rw [hs] at h1; cases h1
            have q := (s'.sep j d L hj oj hs).1
            obtain ⟨b, ob, eb, _, rb⟩ := h2.ob oj
            -- an item is data: it holds nothing alone
            exact absurd oj (by
              have nd : ∀ (p : Pat) (x : D) (z z' : S3) (j : Nat) (d : D), own x = false → (∀ ds, x = .tup ds → ∀ y ∈ ds, own y = false) → setP p x z = some z' → j ∈ p.ix → z'[j]? = some (some d) → own d = false := by
                intro p x z z' j d ox ot e hj hz
                cases p with
                | nm k =>
                  simp only [setP, Option.some.injEq] at e
                  subst e
                  simp [Pat.ix] at hj
                  subst hj
                  rw [List.getElem?_set] at hz
                  split at hz
                  · split at hz
                    · cases hz; exact ox
                    · cases hz
                  · rename_i hn; exact absurd rfl hn
                | tp is =>
                  cases x with
                  | tup ds =>
                    rw [setP] at e
                    split at e
                    · rename_i hl
                      cases e
                      have go : ∀ (is : List Nat) (ds : List D) (z : S3), (∀ y ∈ ds, own y = false) → ds.length = is.length → j ∈ is → (setAll z is ds)[j]? = some (some d) → own d = false := by
                        intro is
                        induction is with
                        | nil => intro ds z _ _ h _; cases h
                        | cons k is ih =>
                          intro ds z ho hl hj hz
                          cases ds with
                          | nil => simp at hl
                          | cons y ds =>
                            unfold setAll at hz
                            by_cases hjs : j ∈ is
                            · exact ih ds _ (fun y hy => ho y (List.mem_cons_of_mem _ hy)) (by simpa using hl) hjs hz
                            · rw [setAll_out hjs] at hz
                              have : j = k := by
                                rcases List.mem_cons.mp hj with q | q
                                · exact q
                                · exact absurd q hjs
                              subst this
                              rw [List.getElem?_set] at hz
                              split at hz
                              · split at hz
                                · cases hz; exact ho _ List.mem_cons_self
                                · cases hz
                              · rename_i hn; exact absurd rfl hn
                      exact go is ds z (ot ds rfl) hl hj hz
                    · cases e
                  | _ => cases e
              have oi : own items[i] = false := rx.notOwn.1
              have ot := rx.notOwn.2
              rw [nd p items[i] _ z3 j d oi ot e3 hpx hj]
              simp)
          · have hz : z3[j]? = (wipe3 z vs)[j]? := setP_out e3 hpx
            rw [hz] at hj
            exact absurd hv (wipe3_some hj).2
        · have hz : z3[j]? = z[j]? := by rw [setP_out e3 (fun q => hv (hp j q)), wipe3_out hv]
          rw [hz] at hj
          have hσ : σ'[j]? = σ[j]? := by
            have := congrArg (fun l => l[j]?) hw'
            simpa [wipe_out hv] using this
          exact notL j d hj oj (by rw [← hσ]; exact hs)
      · cases b with
        | false =>
          obtain ⟨r5, hL5, hA5⟩ := r4.outof h0
          obtain ⟨s5, _⟩ := s4.outof h0
          exact ⟨A4, acc, accV, r5, hA5, s3.back nv hp e3 hw' s5 p4, pb.trans p4, hL5, ra.pers ((Pers.of_ext e).trans p4), q4⟩
        | true =>
          refine ⟨C.with L (.lst accV), z3, A4, _, r4, s4, q4, fun d A5 v H5 q5 r5 s5 p5 t5 => ?_⟩
          have fin : ∀ (H6 : Hp), Rel X.K X.w (C.with L (.lst accV)) A5 H6 → Slots X.K X.w (C.with L (.lst accV)) z3 A5 σ' H6 → Pers H4 H6 → Rp X.K X.w H6 (frz d) v →
              ∃ acc, H6 L = some (.lst acc) ∧ acc.length < sizeLine ∧ ∃ A4 acc4 accV4, Rel X.K X.w C A4 (upd H6 L (.lst (acc ++ [v]))) ∧ A4 L = none ∧ Slots X.K X.w C z A4 σ (upd H6 L (.lst (acc ++ [v]))) ∧ Pers H1 (upd H6 L (.lst (acc ++ [v]))) ∧ (upd H6 L (.lst (acc ++ [v]))) L = some (.lst accV4) ∧
                Rps X.K X.w (upd H6 L (.lst (acc ++ [v]))) acc4 accV4 ∧ lcW p tt te (wipe3 z vs) ws (items.drop (i + 1)) acc4 A4 Q3 := by
            intro H6 r6 s6 p6 t6
            obtain ⟨r7, hL7, hA7⟩ := r6.outof h0
            obtain ⟨s7, n7⟩ := s6.outof h0
            have pu : Pers H6 (upd H6 L (.lst (accV ++ [v]))) := pers_upd hL7 chg_lst
            have sb := s3.back nv hp e3 hw' s7 (p4.trans p6)
            have ra6 : Rps X.K X.w H6 acc accV := ra.pers (((Pers.of_ext e).trans p4).trans p6)
            refine ⟨accV, hL7, by rw [ra.length]; exact q5.1, A5, acc ++ [frz d], accV ++ [v], r7.alone hA7 h0 hL7 chg_lst, hA7, sb.alone hL7 chg_lst notL, ((pb.trans p4).trans p6).trans pu, upd_same, ?_, q5.2⟩
            exact (ra6.pers pu).append (Rps.one (t6.pers pu))
          cases o : own d with
          | false => exact .inr (fin H5 r5 s5 p5 (by rw [frz_of o]; exact t5.val.rp o))
          | true =>
            obtain ⟨a, ob, rfl, eo, ro⟩ := t5.val.ob o
            obtain ⟨u, hu, m, c, fr⟩ := ro.frz eo
            obtain ⟨n1, n2, n3⟩ := t5.alone o a rfl
            exact .inl ⟨a, u, rfl, hu, m, fun ob' => fin _ (r5.alone n1 n2 hu c) (s5.alone hu c n3) (p5.trans (pers_upd hu c)) (fr ob')⟩
  · have e : i = items.length := by omega
    subst e
    rw [List.drop_length] at q2
    refine .inl ⟨st.1 H2 p2 (q2.1.seen r2), ?_⟩
    refine f _ A2 _ H2 q2.2 r2 s2 (p1.trans p2) ⟨⟨L, rfl, accV, hL2, ra⟩, fun _ a ea => ?_⟩
    cases ea
    exact ⟨hA2, h0, notL⟩
end
end T3
set_option autoImplicit false
namespace T3
open PySem PySem.Spec PyProof.Rows L2

/-! ### comprehensions, as rules -/
section
variable {X : Cx} {C : Ct}
theorem PE.ex {e : Expr} {t : Ct → TE} (h : ∀ C, PE X e (t C)) : PE X e fun σ H Q => ∃ C, t C σ H Q := ⟨fun pins s σ H Q I ⟨C, q⟩ => (h C).run pins s σ H Q I q⟩
theorem PTs.ex {e : List Expr} {t : Ct → TT} (h : ∀ C, PTs X e (t C)) : PTs X e fun σ H Q => ∃ C, t C σ H Q := ⟨fun pins s σ H Q I ⟨C, q⟩ => (h C).run pins s σ H Q I q⟩
theorem pe3_lc {elt tg iter : Expr} {ifs : List Expr} {scope : Scope} {own : List (Str × Nat)} {pos : Pos} {t : TI3} {p : Pat} {tt : TT3} {te : TE3} (hc : X.calm = true) (hN : X.N.Nodup) (hi : PI3 X C p tg iter t) (ok : BlkOk X.N X.env.scope scope own) (hp : ∀ i ∈ p.ix, i ∈ own.map (·.2))
    (hg : ∀ (s : Shared) (H : Hp) (Ca : Addr) (cl : List (Str × Addr)) (fp : List Addr), PG (X.blk s H scope (compEnvC scope cl Ca X.env) fp) tg (gPat X.K p))
    (ht : ∀ (s : Shared) (H : Hp) (Ca : Addr) (cl : List (Str × Addr)) (fp : List Addr) (C' : Ct), PTs3 (X.blk s H scope (compEnvC scope cl Ca X.env) fp) C' ifs tt)
    (he : ∀ (s : Shared) (H : Hp) (Ca : Addr) (cl : List (Str × Addr)) (fp : List Addr) (C' : Ct), PE3 (X.blk s H scope (compEnvC scope cl Ca X.env) fp) C' elt te) (hs : ∀ x, foldedSetIterable iter X.env x = pure x := by intro _; rfl) :
    PE3 X C (.ListComp elt [⟨tg, iter, ifs, 0⟩] scope pos) (eLc t p tt te (own.map (·.2))) :=
  PE.imp (pe_lc hc hN hi ok hg (fun s H Ca cl fp => PTs.ex fun C' => ht s H Ca cl fp C') (fun s H Ca cl fp => pe_go (PE.ex fun C' => he s H Ca cl fp C')) hs) fun σ H Q hq => low_lc hp hq
theorem ps3_setLc {i : Nat} {y : Str} {py : Pos} {elt tg iter : Expr} {ifs : List Expr} {scope : Scope} {own : List (Str × Nat)} {pos spos : Pos} {t : TI3} {p : Pat} {tt : TT3} {te : TE3} (hc : X.calm = true) (hN : X.N.Nodup) (hy : X.N[i]? = some y) (hyl : X.env.scope.names.lookup y = some .local)
    (hsw : swapsWith (.ListComp elt [⟨tg, iter, ifs, 0⟩] scope pos) (some (.Name y py)) spos.line X.env = pure true) (hi : PI3 X C p tg iter t) (ok : BlkOk X.N X.env.scope scope own) (hp : ∀ i ∈ p.ix, i ∈ own.map (·.2))
    (hg : ∀ (s : Shared) (H : Hp) (Ca : Addr) (cl : List (Str × Addr)) (fp : List Addr), PG (X.blk s H scope (compEnvC scope cl Ca X.env) fp) tg (gPat X.K p))
    (ht : ∀ (s : Shared) (H : Hp) (Ca : Addr) (cl : List (Str × Addr)) (fp : List Addr) (C' : Ct), PTs3 (X.blk s H scope (compEnvC scope cl Ca X.env) fp) C' ifs tt)
    (he : ∀ (s : Shared) (H : Hp) (Ca : Addr) (cl : List (Str × Addr)) (fp : List Addr) (C' : Ct), PE3 (X.blk s H scope (compEnvC scope cl Ca X.env) fp) C' elt te) (hs : ∀ x, foldedSetIterable iter X.env x = pure x := by intro _; rfl) :
    PS3 X C (.Assign [.Name y py] (.ListComp elt [⟨tg, iter, ifs, 0⟩] scope pos) spos) (sSet i (eLc t p tt te (own.map (·.2)))) :=
  PS.imp (ps_setLc hc hN hy hyl hsw hi ok hg (fun s H Ca cl fp => PTs.ex fun C' => ht s H Ca cl fp C') (fun s H Ca cl fp => pe_go (PE.ex fun C' => he s H Ca cl fp C')) hs) fun D σ H hq => low_lc hp (low_set hq)
theorem ps3_setLcR {i : Nat} {y : Str} {py : Pos} {elt tg iter : Expr} {ifs : List Expr} {scope : Scope} {own : List (Str × Nat)} {pos spos : Pos} {t : TI3} {p : Pat} {tt : TT3} {te : TE3} (hc : X.calm = true) (hN : X.N.Nodup) (hy : X.N[i]? = some y) (hyl : X.env.scope.names.lookup y = some .local)
    (hsw : swapsWith (.ListComp elt [⟨tg, iter, ifs, 0⟩] scope pos) (some (.Name y py)) spos.line X.env = pure true) (hi : PI3 X C p tg iter t) (ok : BlkOk X.N X.env.scope scope own) (hp : ∀ i ∈ p.ix, i ∈ own.map (·.2))
    (hg : ∀ (s : Shared) (H : Hp) (Ca : Addr) (cl : List (Str × Addr)) (fp : List Addr), PG (X.blk s H scope (compEnvC scope cl Ca X.env) fp) tg (gPat X.K p))
    (ht : ∀ (s : Shared) (H : Hp) (Ca : Addr) (cl : List (Str × Addr)) (fp : List Addr) (C' : Ct), PTs3 (X.blk s H scope (compEnvC scope cl Ca X.env) fp) C' ifs tt)
    (he : ∀ (s : Shared) (H : Hp) (Ca : Addr) (cl : List (Str × Addr)) (fp : List Addr) (C' : Ct), PE3 (X.blk s H scope (compEnvC scope cl Ca X.env) fp) C' elt te) (hs : ∀ x, foldedSetIterable iter X.env x = pure x := by intro _; rfl) :
    PS3 X C (.Assign [.Name y py] (.ListComp elt [⟨tg, iter, ifs, 0⟩] scope pos) spos) (sSetR i (eLc t p tt te (own.map (·.2)))) :=
  PS.imp (ps_setLc hc hN hy hyl hsw hi ok hg (fun s H Ca cl fp => PTs.ex fun C' => ht s H Ca cl fp C') (fun s H Ca cl fp => pe_go (PE.ex fun C' => he s H Ca cl fp C')) hs) fun D σ H hq => low_lc hp (low_setR hq)

/-! ### what is walked: a list, a tuple, a text -/
def signs (x : Str) : List D := x.cps.toList.map fun c => D.str ⟨#[c]⟩
def itemsOf : D → Option (List D)
  | .lst xs => some xs | .tup xs => some xs | .str x => some (signs x) | _ => none
def iAny (X : Cx) (tl : TE) : TI := fun σ H R => tl σ H fun x H1 => (∃ a, x = .ref a ∧ (∃ xs, SqL X.K H1 a xs) ∧ R (Itl X.K a) H1) ∨ (∃ a, x = .ref a ∧ (∃ xs, SqT X.K H1 a xs) ∧ R (Itt X.K a) H1) ∨ ∃ y, x = .str y ∧ R (Its y) H1
theorem pi_any {tg l : Expr} {tl : TE} (hl : PE X l tl) : PI X tg l (iAny X tl) := by
  refine ⟨fun pins s σ H R I h => ?_⟩
  refine thn (hl.run pins s σ H _ I h) fun v s1 ⟨x, H1, I1, r1, q1⟩ => ?_
  rcases q1 with ⟨a, e, ⟨xs, hq⟩, q⟩ | ⟨a, e, ⟨xs, hq⟩, q⟩ | ⟨y, e, q⟩
  · subst e
    cases r1
    obtain ⟨its, rv, p, hz⟩ := I1.list hq
    exact wpAny_pyIter_list p.isList (pi_one (tk := s1.toks) I1 _ (turn_list a _) ⟨_, Heap.get?_push_size _ rfl, rfl, rfl⟩ q)
  · subst e
    cases r1
    obtain ⟨its, rv, p, hz⟩ := I1.tuple hq
    exact wpAny_pyIter_tuple (show s1.heap.IsTuple a its.toArray from p) (pi_one (tk := s1.toks) I1 _ (turn_tuple a _) ⟨_, Heap.get?_push_size _ rfl, rfl, rfl⟩ q)
  · subst e
    obtain ⟨t, rfl⟩ := r1
    cases ha : y.cps.all (· < 128)
    · exact wpAny_pyIter_wide ha (pi_one (tk := s1.toks) I1 _ (turn_str _ y t "str_iterator" (.inr rfl)) ⟨_, Heap.get?_push_size _ rfl, rfl, rfl⟩ q)
    · exact wpAny_pyIter_ascii ha (pi_one (tk := s1.toks) I1 _ (turn_str _ y t "str_ascii_iterator" (.inl rfl)) ⟨_, Heap.get?_push_size _ rfl, rfl, rfl⟩ q)
def itemsW (A : AH) : D → Option (List D × Ws)
  | .ref a => match A a with
    | some (.lst xs) => some (xs, [(a, xs)])
    | _ => none
  | d => (itemsOf d).map fun xs => (xs, [])
def withItems : Option (List D × Ws) → (List D → Ws → Prop) → Prop
  | some (xs, ws), k => k xs ws
  | none, _ => False
theorem withItems_ex {o : Option (List D × Ws)} {k : List D → Ws → Prop} (h : withItems o k) : ∃ r, o = some r ∧ k r.1 r.2 := by
  cases o with
  | none => exact h.elim
  | some r => exact ⟨r, rfl, h⟩
def iS (t : TE3) : TI3 := fun z A Q => t z A fun d A' => withItems (itemsW A' (frz d)) fun xs ws => Q xs ws A'
/-- a list that stays, or is seen to stay -/
def LW (K : PySem.W.Frag) (w : World) (ws : Ws) (a : Addr) (ds : List D) (H : Hp) : Prop := ∀ H2, Pers H H2 → Seen K w ws H2 → ∃ vs, SqL K H2 a vs ∧ Rps K w H2 ds vs
theorem LW.frozen {K : PySem.W.Frag} {w : World} {ws : Ws} {H : Hp} {a : Addr} {xs : List V} {ds : List D} (h : SqF K H a xs) (r : Rps K w H ds xs) : LW K w ws a ds H := fun H2 p _ => ⟨xs, (SqF.pers p h).sql, r.pers p⟩
theorem LW.held {K : PySem.W.Frag} {w : World} {ws : Ws} {H : Hp} {a : Addr} {ds : List D} (h : (a, ds) ∈ ws) : LW K w ws a ds H := fun H2 _ se => by
  obtain ⟨vs, h1, h2⟩ := se _ h
  exact ⟨vs, .of h1, h2⟩
theorem steady_list {pt : Pat} {K : PySem.W.Frag} {w : World} {ws : Ws} {H : Hp} {a : Addr} {ds : List D} (h : LW K w ws a ds H) : Steady K w pt ws (Itl K a) ds H :=
  ⟨fun H2 p se => by
    obtain ⟨xs, h1, r⟩ := h H2 p se
    exact ⟨xs, h1, by rw [r.length]; exact Nat.le_refl _⟩, fun i d H2 p se hi => by
    obtain ⟨xs, h1, r⟩ := h H2 p se
    obtain ⟨v, hv, rv⟩ := r.get hi
    refine ⟨⟨xs, v, h1, hv⟩, fun x H3 ⟨e, y⟩ => ?_⟩
    subst e
    have q := y xs h1
    rw [hv] at q; cases q
    exact ⟨fun _ _ h => h, .of rv⟩⟩
theorem steady_tup {pt : Pat} {K : PySem.W.Frag} {w : World} {ws : Ws} {H : Hp} {a : Addr} {xs : List V} {ds : List D} (h : SqT K H a xs) (r : Rps K w H ds xs) : Steady K w pt ws (Itt K a) ds H :=
  ⟨fun H2 p _ => ⟨xs, SqT.pers p h, by rw [r.length]; exact Nat.le_refl _⟩, fun i d H2 p _ hi => by
    obtain ⟨v, hv, _⟩ := r.get hi
    refine ⟨⟨xs, v, SqT.pers p h, hv⟩, fun x H3 ⟨e, y⟩ => ?_⟩
    subst e
    have q := y xs (SqT.pers p h)
    obtain ⟨v', hv', rv'⟩ := (r.pers p).get hi
    rw [q] at hv'; cases hv'
    exact ⟨fun _ _ h => h, .of rv'⟩⟩
theorem signs_length (x : Str) : (signs x).length = x.cps.size := by simp [signs]
theorem steady_str {pt : Pat} {K : PySem.W.Frag} {w : World} {ws : Ws} {H : Hp} (x : Str) : Steady K w pt ws (Its x) (signs x) H :=
  ⟨fun H2 p _ => by rw [signs_length]; exact Nat.le_refl _, fun i d H2 p _ hi => by
    have hl : i < x.cps.size := by
      have := (List.getElem?_eq_some_iff.mp hi).1
      rwa [signs_length] at this
    refine ⟨hl, fun v H3 ⟨e, c, hc, ev⟩ => ?_⟩
    subst e ev
    refine ⟨fun _ _ h => h, .of ?_⟩
    have : (signs x)[i]? = some (.str ⟨#[c]⟩) := by
      unfold signs
      rw [List.getElem?_map, Array.getElem?_toList, hc]; rfl
    rw [this] at hi
    cases hi
    rw [Rp]⟩
theorem pi3_s {pt : Pat} {tg e : Expr} {t : TE3} (h : PE3 X C e t) : PI3 X C pt tg e (iS t) := PI.imp (pi_any (pe_fz h)) fun σ H R hq => by
  obtain ⟨z, A, Q3, r, s, q, f⟩ := hq
  refine ⟨z, A, _, r, s, q, fun d A' v H' q' r' s' p' t' => ?_⟩
  obtain ⟨res, ei, q2⟩ := withItems_ex q'
  generalize frz d = fd at ei t'
  cases fd with
  | lst xs =>
    cases ei
    rw [Rp] at t'
    obtain ⟨a, vs, rfl, hs, hr⟩ := t'
    exact .inl ⟨a, rfl, ⟨vs, hs.sql⟩, f _ _ A' _ H' q2 r' s' p' (steady_list (.frozen hs hr))⟩
  | tup xs =>
    cases ei
    rw [Rp] at t'
    obtain ⟨a, vs, rfl, hs, hr⟩ := t'
    exact .inr (.inl ⟨a, rfl, ⟨vs, hs.sqt⟩, f _ _ A' _ H' q2 r' s' p' (steady_tup hs.sqt hr)⟩)
  | str x =>
    cases ei
    rw [Rp] at t'
    subst t'
    exact .inr (.inr ⟨x, rfl, f _ _ A' _ H' q2 r' s' p' (steady_str x)⟩)
  | ref a =>
    rw [Rp] at t'
    subst t'
    unfold itemsW at ei
    simp only at ei
    split at ei
    · rename_i xs ea
      cases ei
      obtain ⟨vs, h1, h2⟩ := r'.heap a _ ea
      exact .inl ⟨a, rfl, ⟨vs, .of h1⟩, f _ _ A' _ H' q2 r' s' p' (steady_list (.held (by simp)))⟩
    · cases ei
  | _ => cases ei

/-! ### ranges -/
def rng (lo : Int) (n : Nat) : List D := (List.range n).map fun (k : Nat) => D.int (lo + (k : Int))
def small62 (i : Int) : Prop := -(2 ^ 62) ≤ i ∧ i < 2 ^ 62
theorem rng_length (lo : Int) (n : Nat) : (rng lo n).length = n := by simp [rng]
theorem rng_get {lo : Int} {n i : Nat} {d : D} (h : (rng lo n)[i]? = some d) : i < n ∧ d = .int (lo + (i : Int)) := by
  have hl : i < n := by
    have := (List.getElem?_eq_some_iff.mp h).1
    rwa [rng_length] at this
  refine ⟨hl, ?_⟩
  unfold rng at h
  rw [List.getElem?_map, List.getElem?_range hl] at h
  cases h; rfl
theorem steady_range {pt : Pat} {K : PySem.W.Frag} {w : World} {ws : Ws} {H : Hp} (lo : Int) (n : Nat) : Steady K w pt ws (Itr lo n) (rng lo n) H :=
  ⟨fun H2 p _ => by rw [rng_length]; exact Nat.le_refl _, fun i d H2 p _ hi => by
    obtain ⟨hl, rfl⟩ := rng_get hi
    refine ⟨hl, fun v H3 ⟨e, ev⟩ => ?_⟩
    subst e ev
    exact ⟨fun _ _ h => h, .of (by rw [Rp])⟩⟩
def iR1 (t : TA3) : TI3 := fun z A Q => t z A fun ds A' => ∃ j, ds = [.int j] ∧ small62 j ∧ Q (rng 0 j.toNat) [] A'
def iR2 (t : TA3) : TI3 := fun z A Q => t z A fun ds A' => ∃ i j, ds = [.int i, .int j] ∧ small62 i ∧ small62 j ∧ Q (rng i (j - i).toNat) [] A'
theorem Rps.i1 {K : PySem.W.Frag} {w : World} {H : Hp} {i : Int} {vs : List V} (h : Rps K w H [.int i] vs) : vs = [.int i] := by
  rw [Rps] at h
  obtain ⟨x, r, rfl, h1, h2⟩ := h
  rw [Rp] at h1; rw [Rps] at h2
  rw [h1, h2]
theorem Rps.i2 {K : PySem.W.Frag} {w : World} {H : Hp} {i j : Int} {vs : List V} (h : Rps K w H [.int i, .int j] vs) : vs = [.int i, .int j] := by
  rw [Rps] at h
  obtain ⟨x, r, rfl, h1, h2⟩ := h
  rw [Rp] at h1
  rw [h1, Rps.i1 h2]
theorem pi3_range1 {pt : Pat} {tg a : Expr} {t : TA3} {p pos : Pos} (hg : Gl X "range") (hm : X.mg "range" = none) (ha : PA3 X C [a] t) (hs : starEach [a] X.env = [(false, eval a X.env)] := by rfl) : PI3 X C pt tg (.Call (.Name "range" p) [a] [] pos) (iR1 t) :=
  PI.imp (pi_range1 hg hm ha hs) fun σ H R hq => by
    obtain ⟨z, A, Q3, r, s, q, f⟩ := hq
    refine ⟨z, A, _, r, s, q, fun ds A' vs H' q' r' s' p' t' => ?_⟩
    obtain ⟨j, rfl, ⟨h1, h2⟩, q2⟩ := q'
    exact ⟨j, t'.i1, h1, h2, f _ _ A' _ H' q2 r' s' p' (steady_range 0 _)⟩
theorem pi3_range2 {pt : Pat} {tg a b : Expr} {t : TA3} {p pos : Pos} (hg : Gl X "range") (hm : X.mg "range" = none) (ha : PA3 X C [a, b] t) (hs : starEach [a, b] X.env = [(false, eval a X.env), (false, eval b X.env)] := by rfl) (hs2 : starEach [b] X.env = [(false, eval b X.env)] := by rfl) :
    PI3 X C pt tg (.Call (.Name "range" p) [a, b] [] pos) (iR2 t) :=
  PI.imp (pi_range2 hg hm ha hs hs2) fun σ H R hq => by
    obtain ⟨z, A, Q3, r, s, q, f⟩ := hq
    refine ⟨z, A, _, r, s, q, fun ds A' vs H' q' r' s' p' t' => ?_⟩
    obtain ⟨i, j, rfl, ⟨h1, h2⟩, ⟨h3, h4⟩, q2⟩ := q'
    exact ⟨i, j, t'.i2, ⟨h1, h2, h3, h4⟩, f _ _ A' _ H' q2 r' s' p' (steady_range i _)⟩
/-- a range with a written step -/
def intsC (lo c : Int) (n : Nat) : List D := (List.range n).map fun (k : Nat) => D.int (lo + (k : Int) * c)
theorem steady_rangeC {pt : Pat} {K : PySem.W.Frag} {w : World} {ws : Ws} {H : Hp} (lo c : Int) (n : Nat) : Steady K w pt ws (Itc lo c n) (intsC lo c n) H :=
  ⟨fun H2 p _ => by show n ≤ _; simp [intsC], fun i d H2 p _ hi => by
    have hl : i < n := by
      have := (List.getElem?_eq_some_iff.mp hi).1
      simpa [intsC] using this
    refine ⟨hl, fun v H3 ⟨e, ev⟩ => ?_⟩
    subst e ev
    unfold intsC at hi
    rw [List.getElem?_map, List.getElem?_range hl] at hi
    cases hi
    exact ⟨fun _ _ h => h, .of (by rw [Rp])⟩⟩
def iR3 (t : TA3) : TI3 := fun z A Q => t z A fun ds A' => ∃ i j c n, ds = [.int i, .int j, .int c] ∧ RgC i j c n ∧ Q (intsC i c n) [] A'
theorem pi3_range3 {pt : Pat} {tg a b c : Expr} {t : TA3} {p pos : Pos} (hg : Gl X "range") (hm : X.mg "range" = none) (ha : PA3 X C [a, b, c] t)
    (hs : starEach [a, b, c] X.env = (false, eval a X.env) :: starEach [b, c] X.env := by rfl) (hpl : (backTo pos (starEach [b, c] X.env)).any (·.1) = false := by rfl) :
    PI3 X C pt tg (.Call (.Name "range" p) [a, b, c] [] pos) (iR3 t) :=
  PI.imp (pi_range3 hg hm ha hs hpl) fun σ H R hq => by
    obtain ⟨z, A, Q3, r, s, q, f⟩ := hq
    refine ⟨z, A, _, r, s, q, fun ds A' vs H' q' r' s' p' t' => ?_⟩
    obtain ⟨i, j, c, n, rfl, hc, q2⟩ := q'
    have ev : vs = [.int i, .int j, .int c] := by
      rw [Rps] at t'
      obtain ⟨x, q, rfl, h1, h2⟩ := t'
      rw [Rp] at h1
      rw [h1, Rps.i2 h2]
    exact ⟨i, j, c, n, ev, hc, f _ _ A' _ H' q2 r' s' p' (steady_rangeC i c n)⟩

/-! ### calls of defs -/
abbrev Sp3 := List D → AH → (D → AH → Prop) → X3 → Prop
def AbsA (K : PySem.W.Frag) (w : World) (A : AH) (H : Hp) : Prop := ∀ a ob, A a = some ob → RpO K w H a ob
/-- a promise in the hand layer's words; no exception -/
def lsp (K : PySem.W.Frag) (w : World) (sp : Sp3) : Sp := fun vs H Q _ => ∃ ds A Q3, Rps K w H ds vs ∧ AbsA K w A H ∧ sp ds A Q3 (fun _ _ _ => False) ∧
  ∀ d A' v H', Q3 d A' → Rel K w ⟨H, A⟩ A' H' → RpV K w H' d v → (own d = true → ∀ a, v = V.ref a → A' a = none ∧ H a = none) → Q v H'
section
variable {K : PySem.W.Frag} {w : World} {z : S3} {A A' : AH} {σ : L2.St} {H H' : Hp} {d : D} {v : V}
/-- behind a call that was given all of A -/
theorem call_back (r : Rel K w C A H) (s : Slots K w C z A σ H) (r' : Rel K w ⟨H, A⟩ A' H') : Rel K w C A' H' ∧ Slots K w C z A' σ H' ∧ Pers H H' := by
  have notA : ∀ b o, C.H0 b = some o → C.A0 b = none → A b = none := fun b o e1 e2 => by
    cases q : A b with
    | none => rfl
    | some ob =>
      rcases r.dom b (by rw [q]; simp) with n | n
      · exact absurd e2 n
      · rw [e1] at n; cases n
  have pe : Pers H H' := by
    refine ⟨fun b xs e => r'.prot b _ e ?_, fun b o u e => r'.prot b _ e ?_⟩
    · cases q : A b with
      | none => exact q
      | some ob =>
        obtain ⟨u, hu, c⟩ := (r.heap b ob q).there
        have e' : H b = some (.tup xs) := e
        rw [e'] at hu; cases hu; exact absurd rfl (c.1 xs)
    · cases q : A b with
      | none => exact q
      | some ob =>
        obtain ⟨u', hu, c⟩ := (r.heap b ob q).there
        have e' : H b = some (.frz o u) := e
        rw [e'] at hu; cases hu; exact absurd rfl (c.2 o u)
  refine ⟨⟨r'.heap, fun b o e1 e2 => r'.prot b o (r.prot b o e1 e2) (notA b o e1 e2), fun b e => ?_, fun b e => r.mono b (r'.mono b e)⟩, ⟨fun i e hi => ?_, fun i e a hi oe hs => ?_, s.uniq, s.len⟩, pe⟩
  · rcases r'.dom b e with n | n
    · exact r.dom b n
    · exact .inr (r.mono b n)
  · obtain ⟨x, h1, h2⟩ := s.val i e hi
    refine ⟨x, h1, h2.keep pe fun oe a ea => ?_⟩
    obtain ⟨b, ob, eb, _, rb⟩ := h2.ob oe
    rw [ea] at eb; cases eb
    obtain ⟨u, hu, _⟩ := rb.there
    have hA := (s.sep i e a hi oe (by rw [h1, ea])).1
    rw [hu]
    exact r'.prot a u hu hA
  · obtain ⟨hA, h0⟩ := s.sep i e a hi oe hs
    refine ⟨?_, h0⟩
    cases q : A' a with
    | none => rfl
    | some ob =>
      rcases r'.dom a (by rw [q]; simp) with n | n
      · exact absurd hA n
      · obtain ⟨x, h1, h2⟩ := s.val i e hi
        rw [hs] at h1; cases h1
        obtain ⟨b, ob', eb, _, rb⟩ := h2.ob oe
        cases eb
        obtain ⟨u, hu, _⟩ := rb.there
        have n' : H a = none := n
        rw [n'] at hu; cases hu
theorem call_tmp (r : Rel K w C A H) (s : Slots K w C z A σ H) (rv : RpV K w H' d v) (al : own d = true → ∀ a, v = V.ref a → A' a = none ∧ H a = none) : Tmp K w C z A' σ H' d v := by
  refine ⟨rv, fun o a ea => ?_⟩
  obtain ⟨h1, h2⟩ := al o a ea
  refine ⟨h1, r.mono a h2, fun i e hi oe hs => ?_⟩
  obtain ⟨x, h3, h4⟩ := s.val i e hi
  rw [hs] at h3; cases h3
  obtain ⟨b, ob', eb, _, rb⟩ := h4.ob oe
  cases eb
  obtain ⟨u, hu, _⟩ := rb.there
  rw [h2] at hu; cases hu
end
def eCall (sp : Sp3) (dfl : List D) (t : TA3) : TE3 := fun z A Q => t z A fun ds A' => sp (ds ++ dfl) A' Q (fun _ _ _ => False)
theorem low_call {sp : Sp3} {dfl : List D} {dvs : List V} {t : TA3} (hd : ∀ H, Rps X.K X.w H dfl dvs) {E : XK} {σ : L2.St} {H : Hp} {Q : VK} (hq : low X.K X.w C (eCall sp dfl t) σ H Q) : tCall (lsp X.K X.w sp) dvs E (lowA X.K X.w C t) σ H Q := by
  obtain ⟨z, A, Q3, r, s, q, f⟩ := hq
  refine ⟨z, A, _, r, s, q, fun ds A1 vs H1 q1 r1 s1 p1 t1 => ⟨ds ++ dfl, A1, Q3, t1.append (hd H1), r1.heap, q1, fun d A2 v H2 q2 r2 rv al => ?_⟩⟩
  obtain ⟨r3, s3, p3⟩ := call_back r1 s1 r2
  exact f d A2 v H2 q2 r3 s3 (p1.trans p3) (call_tmp r1 s1 rv al)
theorem pe3_call {k : Nat} {f : Addr} {fd : FuncData} {ps : List Str} {sp : Sp3} {x : Str} {p pos : Pos} {e : Expr} {es : List Expr} {t : TA3} {ds : List Value} {dfl : List D} {dvs : List V} (F : FnOk X.prog X.w X.K X.mg X.base CX0 k f fd ps (lsp X.K X.w sp)) (hr : Room k X.A) (hg : Gl X x) (hm : X.mg x = some (.ref f)) (hk : PySem.W.keepIn X.K (.ref f) = true) (hb : Binds X.K fd ps ds) (hd : Vals dvs ds) (hd3 : ∀ H, Rps X.K X.w H dfl dvs)
    (ha : PA3 X C (e :: es) t) (hdb : (x == ("__debug__" : Str)) = false := by decide) (he : starEach (e :: es) X.env = (false, eval e X.env) :: starEach es X.env := by rfl) (hpl : (backTo pos (starEach es X.env)).any (·.1) = false := by rfl) :
    PE3 X C (.Call (.Name x p) (e :: es) [] pos) (eCall sp dfl t) := PE.imp (pe_call F hr hg hm hk hb hd pass0 ha hdb he hpl) fun _ _ _ hq => low_call hd3 hq
theorem pe3_call0 {k : Nat} {f : Addr} {fd : FuncData} {ps : List Str} {sp : Sp3} {x : Str} {p pos : Pos} (F : FnOk X.prog X.w X.K X.mg X.base CX0 k f fd ps (lsp X.K X.w sp)) (hr : Room k X.A) (hg : Gl X x) (hm : X.mg x = some (.ref f)) (hk : PySem.W.keepIn X.K (.ref f) = true) (hb : Binds X.K fd ps [])
    (hdb : (x == ("__debug__" : Str)) = false := by decide) : PE3 X C (.Call (.Name x p) [] [] pos) (eCall sp [] aNil) := PE.imp (pe_call0 F hr hg hm hk hb .nil pass0 hdb) fun σ H Q hq => by
  obtain ⟨z, A, Q3, r, s, q, f⟩ := hq
  refine ⟨[], A, Q3, Rps.nil, r.heap, q, fun d A2 v H2 q2 r2 rv al => ?_⟩
  obtain ⟨r3, s3, p3⟩ := call_back r s r2
  exact f d A2 v H2 q2 r3 s3 p3 (call_tmp r s rv al)

/-! ### a def keeps its promise -/
def start3 (N : List Str) (ds : List D) : S3 := ds.map some ++ List.replicate (N.length - ds.length) none
end
section
variable {P : Program} {w : World} {K : PySem.W.Frag} {mg : Str → Option Value} {base : Heap}
theorem slots_start {C : Ct} {A : AH} {H : Hp} {N : List Str} {ds : List D} {vs : List V} (h : Rps K w H ds vs) : Slots K w C (start3 N ds) A (L2.start N vs) H := by
  have hl := h.length
  have at_ : ∀ (i : Nat) (d : D), (start3 N ds)[i]? = some (some d) → ds[i]? = some d := fun i d e => by
    unfold start3 at e
    by_cases hi : i < ds.length
    · rw [List.getElem?_append_left (by simpa using hi), List.getElem?_map] at e
      cases q : ds[i]? with
      | none => rw [q] at e; cases e
      | some x => rw [q] at e; cases e; rfl
    · rw [List.getElem?_append_right (by simpa using hi), List.getElem?_replicate] at e
      split at e <;> cases e
  have no : ∀ (i : Nat) (d : D), (start3 N ds)[i]? = some (some d) → own d = false := fun i d e => by
    obtain ⟨v, _, rv⟩ := h.get (at_ i d e)
    exact rv.notOwn
  refine ⟨fun i d e => ?_, fun i d a e o => absurd o (by rw [no i d e]; simp), fun i j d e a h1 o1 => absurd o1 (by rw [no i d h1]; simp), ?_⟩
  · obtain ⟨v, hv, rv⟩ := h.get (at_ i d e)
    refine ⟨v, ?_, .of rv⟩
    unfold L2.start
    have hi := (List.getElem?_eq_some_iff.mp hv).1
    rw [List.getElem?_append_left (by simpa using hi), List.getElem?_map, hv]; rfl
  · unfold start3 L2.start
    simp [hl]
theorem Rel.start {A : AH} {H : Hp} (h : AbsA K w A H) : Rel K w ⟨H, A⟩ A H := ⟨h, fun _ _ e _ => e, fun _ e => .inl e, fun _ e => e⟩
/-- THE RULE for a def that lets nothing out -/
theorem fn3 {x qual : Str} {st : Stmt} {f : Addr} {fd : FuncData} {N ps : List Str} {k : Nat} {sp : Sp3} {t : TS3} (F : Fun K x qual st f fd) (S : FnScope N ps (defScope st)) (len : ∀ ds A Q E, sp ds A Q E → ds.length = ps.length)
    (hbody : ∀ (cdv : Value) (A : Around) (outer : List Env) (s : Shared) (H : Hp) (E : XK) (C : Ct), Room k (A.deeper (envOfC qual (defScope st) s.heap.objs.size f cdv)) → PSs3 (cxOf CX0 P w K mg base N qual (defScope st) f cdv A outer s H E).nox C (defBody st) t)
    (m : ∀ ds A Q, sp ds A Q (fun _ _ _ => False) → t { nx := fun _ A' => Q .non A', rt := Q } (start3 N ds) A) : FnOk P w K mg base CX0 (k + 1) f fd ps (lsp K w sp) := by
  refine F.ok S (fun vs H Q E h => ?_) fun cdv A outer s H vs Q E hr h => ?_
  · obtain ⟨ds, A, Q3, h1, _, h3, _⟩ := h
    rw [h1.length]; exact len _ _ _ _ h3
  · obtain ⟨ds, A3, Q3, h1, h2, h3, h4⟩ := h
    refine ⟨_, hbody cdv A outer s H E ⟨H, A3⟩ hr, start3 N ds, A3, _, Rel.start h2, slots_start h1, m ds A3 Q3 h3, ?_⟩
    exact ⟨fun z A' σ H' q r _ _ => h4 .non A' .non H' q r (.of (by rw [Rp])) (fun o => by simp [own] at o), fun d A' v H' q r rv al _ => h4 d A' v H' q r rv al, fun _ _ _ _ q => q.elim, fun _ _ _ _ q => q.elim⟩
end
end T3
set_option autoImplicit false
namespace T3
open PySem PySem.Spec PyProof.Rows L2

/-! ### data of the library -/
mutual
def pd : D → PyData
  | .non => .none | .bl b => .bool b | .int i => .int i | .str x => .str x | .tup xs => .tuple (pds xs) | .lst xs => .list (pds xs) | _ => .none
def pds : List D → List PyData
  | [] => []
  | x :: xs => pd x :: pds xs
end
mutual
/-- data all through -/
def pok : D → Bool
  | .non => true | .bl _ => true | .int _ => true | .str _ => true | .tup xs => poks xs | .lst xs => poks xs | _ => false
def poks : List D → Bool
  | [] => true
  | x :: xs => pok x && poks xs
end
mutual
def dep : D → Nat
  | .tup xs => deps xs + 1 | .lst xs => deps xs + 1 | _ => 0
def deps : List D → Nat
  | [] => 0
  | x :: xs => max (dep x) (deps xs)
end
mutual
theorem pd_depth : ∀ d : D, (pd d).depth = dep d
  | .non => by simp [pd, PyData.depth, dep]
  | .bl _ => by simp [pd, PyData.depth, dep]
  | .int _ => by simp [pd, PyData.depth, dep]
  | .str _ => by simp [pd, PyData.depth, dep]
  | .tup xs => by simp [pd, PyData.depth, dep, pds_depth xs]
  | .lst xs => by simp [pd, PyData.depth, dep, pds_depth xs]
  | .dct _ => by simp [pd, PyData.depth, dep]
  | .ref _ => by simp [pd, PyData.depth, dep]
  | .ml _ => by simp [pd, PyData.depth, dep]
  | .md _ => by simp [pd, PyData.depth, dep]
theorem pds_depth : ∀ ds : List D, PyData.depthAll (pds ds) = deps ds
  | [] => by simp [pds, PyData.depthAll, deps]
  | x :: xs => by simp [pds, PyData.depthAll, deps, pd_depth x, pds_depth xs]
end
mutual
theorem pd_plain : ∀ d : D, pok d = true → (pd d).plain = true
  | .non, _ => rfl
  | .bl _, _ => rfl
  | .int _, _ => rfl
  | .str _, _ => rfl
  | .tup xs, h => by rw [pd, PyData.plain]; exact pds_plain xs (by rwa [pok] at h)
  | .lst xs, h => by rw [pd, PyData.plain]; exact pds_plain xs (by rwa [pok] at h)
  | .dct _, h => by simp [pok] at h
  | .ref _, h => by simp [pok] at h
  | .ml _, h => by simp [pok] at h
  | .md _, h => by simp [pok] at h
theorem pds_plain : ∀ ds : List D, poks ds = true → PyData.plainAll (pds ds) = true
  | [], _ => rfl
  | x :: xs, h => by
    simp only [poks, Bool.and_eq_true] at h
    rw [pds, PyData.plainAll, pd_plain x h.1, pds_plain xs h.2]; rfl
end
section
variable {K : PySem.W.Frag} {w : World} {H : Hp}
mutual
theorem Rp.dp : ∀ {d : D} {v : V}, pok d = true → Rp K w H d v → Dp K H v (pd d)
  | .non, _, _, h => by rw [Rp] at h; subst h; exact .non
  | .bl b, _, _, h => by rw [Rp] at h; subst h; exact .bl b
  | .int i, _, _, h => by rw [Rp] at h; subst h; exact .int i
  | .str x, _, _, h => by rw [Rp] at h; subst h; exact .str x
  | .tup ds, _, o, h => by
    rw [Rp] at h
    obtain ⟨a, xs, rfl, s, r⟩ := h
    rw [pd]
    exact .tup s.sqt (Rps.dp (by rwa [pok] at o) r)
  | .lst ds, _, o, h => by
    rw [Rp] at h
    obtain ⟨a, xs, rfl, s, r⟩ := h
    rw [pd]
    exact .lst (SqF.sql s) (Rps.dp (by rwa [pok] at o) r)
  | .dct _, _, o, _ => by simp [pok] at o
  | .ref _, _, o, _ => by simp [pok] at o
  | .ml _, _, o, _ => by simp [pok] at o
  | .md _, _, o, _ => by simp [pok] at o
theorem Rps.dp : ∀ {ds : List D} {xs : List V}, poks ds = true → Rps K w H ds xs → DpAll K H xs (pds ds)
  | [], _, _, h => by rw [Rps] at h; subst h; exact .nil
  | d :: ds, _, o, h => by
    rw [Rps] at h
    obtain ⟨x, r, rfl, h1, h2⟩ := h
    simp only [poks, Bool.and_eq_true] at o
    rw [pds]
    exact .cons (Rp.dp o.1 h1) (Rps.dp o.2 h2)
end
end

/-! ### what stands behind a reference -/
/-- a value looked through: a list that several hold as its items now -/
def vw (A : AH) : D → D
  | .ref a => match A a with
    | some (.lst xs) => .lst xs
    | some (.dct kvs) => .dct kvs
    | _ => .ref a
  | d => d
theorem vw_of {A : AH} {d : D} (h : ∀ a, d ≠ .ref a) : vw A d = d := by cases d <;> first | rfl | exact absurd rfl (h _)
section
variable {K : PySem.W.Frag} {w : World} {C : Ct} {z : S3} {A : AH} {σ : L2.St} {H : Hp} {d : D} {v : V}
/-- a list to be read -/
theorem RpB.list (r : Rel K w C A H) (s : Slots K w C z A σ H) (h : RpB K w z σ H d v) {ds : List D} (e : vw A d = .lst ds) : ∃ a xs, v = .ref a ∧ SqL K H a xs ∧ Rps K w H ds xs := by
  rcases h with h | ⟨i, f, hi, o, rfl, hs⟩
  · cases d with
    | lst xs =>
      cases e
      rw [Rp] at h
      obtain ⟨a, xs, rfl, s, q⟩ := h
      exact ⟨a, xs, rfl, SqF.sql s, q⟩
    | ref a =>
      rw [Rp] at h
      subst h
      cases q : A a with
      | none => simp [vw, q] at e
      | some ob =>
        cases ob with
        | lst xs =>
          simp only [vw, q, D.lst.injEq] at e
          subst e
          obtain ⟨vs, h1, h2⟩ := r.heap a _ q
          exact ⟨a, vs, rfl, .of h1, h2⟩
        | dct kvs => simp [vw, q] at e
        | ins C fs => simp [vw, q] at e
    | _ => simp [vw] at e
  · obtain ⟨x, h1, h2⟩ := s.val i f hi
    rw [hs] at h1; cases h1
    cases f with
    | ml xs =>
      cases e
      obtain ⟨a, rfl, vs, h3, h4⟩ := h2
      exact ⟨a, vs, rfl, .of h3, h4⟩
    | md kvs => simp [frz, vw] at e
    | _ => simp [own] at o
theorem RpB.tup (h : RpB K w z σ H d v) {ds : List D} (e : vw A d = .tup ds) : ∃ a xs, v = .ref a ∧ SqS K H a xs ∧ Rps K w H ds xs := by
  rcases h with h | ⟨i, f, hi, o, rfl, hs⟩
  · cases d with
    | tup xs =>
      cases e
      rw [Rp] at h
      exact h
    | ref a =>
      cases q : A a with
      | none => simp [vw, q] at e
      | some ob => cases ob <;> simp [vw, q] at e
    | _ => simp [vw] at e
  · cases f <;> simp [own] at o <;> simp [frz, vw] at e
theorem RpB.flat (h : RpB K w z σ H d v) : (∀ b, d = .bl b → v = .bl b) ∧ (∀ i, d = .int i → v = .int i) ∧ (∀ x, d = .str x → v = .str x) ∧ (d = .non → v = .non) := by
  rcases h with h | ⟨i, f, hi, o, rfl, hs⟩
  · refine ⟨fun b e => ?_, fun b e => ?_, fun b e => ?_, fun e => ?_⟩ <;> (subst e; rw [Rp] at h; exact h)
  · refine ⟨fun b e => ?_, fun b e => ?_, fun b e => ?_, fun e => ?_⟩ <;> (cases f <;> simp [own] at o <;> simp [frz] at e)
theorem RpB.int {i : Int} (h : RpB K w z σ H (.int i) v) : v = .int i := h.flat.2.1 i rfl
theorem RpB.str {x : Str} (h : RpB K w z σ H (.str x) v) : v = .str x := h.flat.2.2.1 x rfl
theorem RpB.bl {b : Bool} (h : RpB K w z σ H (.bl b) v) : v = .bl b := h.flat.1 b rfl
theorem RpB.dp (r : Rel K w C A H) (s : Slots K w C z A σ H) (h : RpB K w z σ H d v) (o : pok (vw A d) = true) : Dp K H v (pd (vw A d)) := by
  cases e : vw A d with
  | lst ds =>
    obtain ⟨a, xs, rfl, h1, h2⟩ := h.list r s e
    rw [e, pok] at o
    rw [pd]
    exact .lst h1 (Rps.dp o h2)
  | tup ds =>
    obtain ⟨a, xs, rfl, h1, h2⟩ := h.tup (A := A) e
    rw [e, pok] at o
    rw [pd]
    exact .tup h1.sqt (Rps.dp o h2)
  | dct kvs => rw [e] at o; simp [pok] at o
  | ref a => rw [e] at o; simp [pok] at o
  | ml xs => rw [e] at o; simp [pok] at o
  | md xs => rw [e] at o; simp [pok] at o
  | _ =>
    have ed : d = vw A d := by
      cases d with
      | ref a =>
        exfalso
        cases q : A a with
        | none => simp [vw, q] at e
        | some ob => cases ob <;> simp [vw, q] at e
      | _ => rfl
    rw [ed, e] at h
    rcases h with h | ⟨i, f, hi, oo, ee, hs⟩
    · exact Rp.dp (by simp [pok]) h
    · cases f <;> simp [own] at oo <;> simp [frz] at ee
end
section
variable {K : PySem.W.Frag} {w : World} {z : S3} {σ : L2.St} {H : Hp}
theorem RpBs.one {d : D} {xs : List V} (h : RpBs K w z σ H [d] xs) : ∃ v, xs = [v] ∧ RpB K w z σ H d v := by
  cases h with | cons a b => cases b; exact ⟨_, rfl, a⟩
theorem RpBs.two {d e : D} {xs : List V} (h : RpBs K w z σ H [d, e] xs) : ∃ v u, xs = [v, u] ∧ RpB K w z σ H d v ∧ RpB K w z σ H e u := by
  cases h with | cons a b => cases b with | cons c d => cases d; exact ⟨_, _, rfl, a, c⟩
end

/-! ### == and != -/
/-- a == b, for data -/
def eqD (a b : D) : Bool := PyData.eqv (pd a) (pd b)
def okEq (a b : D) : Bool := pok a && pok b && (decide (dep a ≤ 60) || decide (dep b ≤ 60))
def fEq (A : AH) (a b : D) : Option D := if okEq (vw A a) (vw A b) = true then some (.bl (eqD (vw A a) (vw A b))) else none
def fNe (A : AH) (a b : D) : Option D := if okEq (vw A a) (vw A b) = true then some (.bl (!eqD (vw A a) (vw A b))) else none
section
variable {X : Cx} {C : Ct}
def rEqP (K : PySem.W.Frag) : R2 := fun x y H Q => ∃ d e, Dp K H x d ∧ Dp K H y e ∧ d.plain = true ∧ e.plain = true ∧ min d.depth e.depth ≤ 60 ∧ Q (.bl (PyData.eqv d e)) H
def rNeP (K : PySem.W.Frag) : R2 := fun x y H Q => ∃ d e, Dp K H x d ∧ Dp K H y e ∧ d.plain = true ∧ e.plain = true ∧ min d.depth e.depth ≤ 60 ∧ Q (.bl (!PyData.eqv d e)) H
theorem op_eqP (hu : X.A.units + 64 < cLine) : OpR X (compareOp .Eq) (rEqP X.K) := by
  intro pins s σ H x y v u Q I rx ry h
  obtain ⟨d, e, hd, he, sd, se, hm, q⟩ := h
  obtain ⟨as, r1⟩ := Dp.reads I d x v hd rx
  obtain ⟨bs, r2⟩ := Dp.reads I e y u he ry
  exact SeqAt.rcAt_plain r1 r2 sd se (by omega) _ _ _ _ ⟨.bl _, H, I, rfl, q⟩
theorem op_neP (hu : X.A.units + 64 < cLine) : OpR X (compareOp .NotEq) (rNeP X.K) := by
  intro pins s σ H x y v u Q I rx ry h
  obtain ⟨d, e, hd, he, sd, se, hm, q⟩ := h
  obtain ⟨as, r1⟩ := Dp.reads I d x v hd rx
  obtain ⟨bs, r2⟩ := Dp.reads I e y u he ry
  exact SeqAt.rcNe_plain r1 r2 sd se (by omega) _ _ _ _ ⟨.bl _, H, I, rfl, q⟩
theorem okEq_min {a b : D} (h : okEq a b = true) : pok a = true ∧ pok b = true ∧ min (pd a).depth (pd b).depth ≤ 60 := by
  simp only [okEq, Bool.and_eq_true, Bool.or_eq_true, decide_eq_true_eq] at h
  obtain ⟨⟨h1, h2⟩, h3⟩ := h
  rw [pd_depth, pd_depth]
  exact ⟨h1, h2, by omega⟩
theorem o_eq : Op2 X C (rEqP X.K) fEq := fun z A σ H d1 d2 d x y Q r s h1 h2 e q => by
  unfold fEq at e
  split at e
  · rename_i ho
    cases e
    obtain ⟨o1, o2, hm⟩ := okEq_min ho
    exact ⟨_, _, h1.dp r s o1, h2.dp r s o2, pd_plain _ o1, pd_plain _ o2, hm, q _ H (.same (by rw [Rp]; rfl))⟩
  · cases e
theorem o_ne : Op2 X C (rNeP X.K) fNe := fun z A σ H d1 d2 d x y Q r s h1 h2 e q => by
  unfold fNe at e
  split at e
  · rename_i ho
    cases e
    obtain ⟨o1, o2, hm⟩ := okEq_min ho
    exact ⟨_, _, h1.dp r s o1, h2.dp r s o2, pd_plain _ o1, pd_plain _ o2, hm, q _ H (.same (by rw [Rp]; rfl))⟩
  · cases e
end

/-! ### the order -/
def ltD (a b : D) : Bool := PySem.W.dataLt (pd a) (pd b)
def okLt (a b : D) : Bool := pok a && pok b && PySem.W.alike (pd a) (pd b) && (match a with | .non => false | _ => true) && (decide (dep a ≤ 60) || decide (dep b ≤ 60))
def fLt (_ : AH) (a b : D) : Option D := if okLt a b = true then some (.bl (ltD a b)) else none
def fGt (_ : AH) (a b : D) : Option D := if okLt a b = true then some (.bl (ltD b a)) else none
def fLe (_ : AH) (a b : D) : Option D := if okLt a b = true then some (.bl (!ltD b a)) else none
def fGe (_ : AH) (a b : D) : Option D := if okLt a b = true then some (.bl (!ltD a b)) else none
section
variable {X : Cx} {C : Ct}
def rOrd (K : PySem.W.Frag) (g : PyData → PyData → Bool) : R2 := fun x y H Q => ∃ d e, Dp K H x d ∧ Dp K H y e ∧ PySem.W.alike d e = true ∧ d ≠ .none ∧ min d.depth e.depth ≤ 60 ∧ Q (.bl (g d e)) H
theorem op_ltP (hu : X.A.units + 64 < cLine) : OpR X (compareOp .Lt) (rOrd X.K fun d e => PySem.W.dataLt d e) := by
  intro pins s σ H x y v u Q I rx ry h
  obtain ⟨d, e, hd, he, sd, se, hm, q⟩ := h
  obtain ⟨as, r1⟩ := Dp.reads I d x v hd rx
  obtain ⟨bs, r2⟩ := Dp.reads I e y u he ry
  exact PySem.W.lt_data r1 r2 sd se (by omega) ⟨.bl _, H, I, rfl, q⟩
theorem op_gtP (hu : X.A.units + 64 < cLine) : OpR X (compareOp .Gt) (rOrd X.K fun d e => PySem.W.dataLt e d) := by
  intro pins s σ H x y v u Q I rx ry h
  obtain ⟨d, e, hd, he, sd, se, hm, q⟩ := h
  obtain ⟨as, r1⟩ := Dp.reads I d x v hd rx
  obtain ⟨bs, r2⟩ := Dp.reads I e y u he ry
  exact PySem.W.gt_data r1 r2 sd se (by omega) ⟨.bl _, H, I, rfl, q⟩
theorem op_leP (hu : X.A.units + 64 < cLine) : OpR X (compareOp .LtE) (rOrd X.K fun d e => !PySem.W.dataLt e d) := by
  intro pins s σ H x y v u Q I rx ry h
  obtain ⟨d, e, hd, he, sd, se, hm, q⟩ := h
  obtain ⟨as, r1⟩ := Dp.reads I d x v hd rx
  obtain ⟨bs, r2⟩ := Dp.reads I e y u he ry
  exact PySem.W.le_data r1 r2 sd se (by omega) ⟨.bl _, H, I, rfl, q⟩
theorem op_geP (hu : X.A.units + 64 < cLine) : OpR X (compareOp .GtE) (rOrd X.K fun d e => !PySem.W.dataLt d e) := by
  intro pins s σ H x y v u Q I rx ry h
  obtain ⟨d, e, hd, he, sd, se, hm, q⟩ := h
  obtain ⟨as, r1⟩ := Dp.reads I d x v hd rx
  obtain ⟨bs, r2⟩ := Dp.reads I e y u he ry
  exact PySem.W.ge_data r1 r2 sd se (by omega) ⟨.bl _, H, I, rfl, q⟩
theorem okLt_min {a b : D} (h : okLt a b = true) : pok a = true ∧ pok b = true ∧ PySem.W.alike (pd a) (pd b) = true ∧ pd a ≠ .none ∧ min (pd a).depth (pd b).depth ≤ 60 := by
  simp only [okLt, Bool.and_eq_true, Bool.or_eq_true, decide_eq_true_eq] at h
  obtain ⟨⟨⟨⟨h1, h2⟩, h3⟩, h4⟩, h5⟩ := h
  rw [pd_depth, pd_depth]
  refine ⟨h1, h2, h3, ?_, by omega⟩
  cases a <;> simp [pd] <;> simp [pok] at h1 <;> simp at h4
theorem vw_pok {A : AH} {a : D} (h : pok a = true) : vw A a = a := by cases a <;> first | rfl | simp [pok] at h
theorem o_ord {g : PyData → PyData → Bool} {f : AH → D → D → Option D} (hf : ∀ A a b, f A a b = if okLt a b = true then some (.bl (g (pd a) (pd b))) else none) : Op2 X C (rOrd X.K g) f := fun z A σ H d1 d2 d x y Q r s h1 h2 e q => by
  rw [hf] at e
  split at e
  · rename_i ho
    cases e
    obtain ⟨o1, o2, ha, hn, hm⟩ := okLt_min ho
    have q1 := h1.dp r s (by rw [vw_pok o1]; exact o1)
    have q2 := h2.dp r s (by rw [vw_pok o2]; exact o2)
    rw [vw_pok o1] at q1
    rw [vw_pok o2] at q2
    exact ⟨_, _, q1, q2, ha, hn, hm, q _ H (.same (by rw [Rp]))⟩
  · cases e
theorem o_lt : Op2 X C (rOrd X.K fun d e => PySem.W.dataLt d e) fLt := o_ord fun _ _ _ => rfl
theorem o_gt : Op2 X C (rOrd X.K fun d e => PySem.W.dataLt e d) fGt := o_ord fun _ _ _ => rfl
theorem o_le : Op2 X C (rOrd X.K fun d e => !PySem.W.dataLt e d) fLe := o_ord fun _ _ _ => rfl
theorem o_ge : Op2 X C (rOrd X.K fun d e => !PySem.W.dataLt d e) fGe := o_ord fun _ _ _ => rfl
end

/-! ### is None -/
def fIsN (_ : AH) (a b : D) : Option D := match b with
  | .non => some (.bl (decide (a = .non)))
  | _ => none
def fNotN (_ : AH) (a b : D) : Option D := match b with
  | .non => some (.bl (!decide (a = .non)))
  | _ => none
section
variable {X : Cx} {C : Ct}
theorem RpB.isNon {K : PySem.W.Frag} {w : World} {z : S3} {σ : L2.St} {H : Hp} {d : D} {v : V} {C : Ct} {A : AH} (s : Slots K w C z A σ H) (h : RpB K w z σ H d v) : decide (v = .non) = decide (d = .non) := by
  rcases h with h | ⟨i, f, hi, o, rfl, hs⟩
  · cases d with
    | non => rw [Rp] at h; subst h; rfl
    | bl b => rw [Rp] at h; subst h; rfl
    | int b => rw [Rp] at h; subst h; rfl
    | str b => rw [Rp] at h; subst h; rfl
    | ref b => rw [Rp] at h; subst h; rfl
    | tup b => rw [Rp] at h; obtain ⟨a, xs, rfl, _⟩ := h; rfl
    | lst b => rw [Rp] at h; obtain ⟨a, xs, rfl, _⟩ := h; rfl
    | dct b => rw [Rp] at h; obtain ⟨a, xs, rfl, _⟩ := h; rfl
    | ml b => rw [Rp] at h; exact h.elim
    | md b => rw [Rp] at h; exact h.elim
  · obtain ⟨x, h1, h2⟩ := s.val i f hi
    rw [hs] at h1; cases h1
    obtain ⟨a, ob, rfl, _, _⟩ := h2.ob o
    cases f <;> simp [own] at o <;> rfl
theorem o_isN : Op2 X C (fun x y H Q => y = .non ∧ Q (.bl (decide (x = .non))) H) fIsN := fun z A σ H d1 d2 d x y Q r s h1 h2 e q => by
  cases d2 <;> simp [fIsN] at e
  subst e
  refine ⟨h2.flat.2.2.2 rfl, ?_⟩
  rw [h1.isNon s]
  exact q _ H (.same (by rw [Rp]))
theorem o_notN : Op2 X C (fun x y H Q => y = .non ∧ Q (.bl (!decide (x = .non))) H) fNotN := fun z A σ H d1 d2 d x y Q r s h1 h2 e q => by
  cases d2 <;> simp [fNotN] at e
  subst e
  refine ⟨h2.flat.2.2.2 rfl, ?_⟩
  rw [h1.isNon s]
  exact q _ H (.same (by rw [Rp]))
end

/-! ### numbers -/
def big64 (i : Int) : Bool := decide (-(2 ^ 64) < i) && decide (i < 2 ^ 64)
def fSub (_ : AH) : D → D → Option D
  | .int i, .int j => some (.int (i - j))
  | _, _ => none
def fFdiv (_ : AH) : D → D → Option D
  | .int i, .int j => if 0 < j ∧ j < 2 ^ 64 then some (.int (i / j)) else none
  | _, _ => none
def fMod (_ : AH) : D → D → Option D
  | .int i, .int j => if 0 < j then some (.int (i % j)) else none
  | _, _ => none
def fPow (_ : AH) : D → D → Option D
  | .int i, .int j => if 0 ≤ j ∧ j ≤ 1000 ∧ i.natAbs < 2 ^ 64 then some (.int (i ^ j.toNat)) else none
  | _, _ => none
def fShl (_ : AH) : D → D → Option D
  | .int i, .int j => if 0 ≤ j ∧ j ≤ 1000 ∧ i.natAbs < 2 ^ 64 then some (.int (i * 2 ^ j.toNat)) else none
  | _, _ => none
def fNeg (_ : AH) : D → Option D
  | .int i => some (.int (-i))
  | _ => none
section
variable {X : Cx} {C : Ct}
theorem o_int {Cn : Int → Int → Prop} {g : Int → Int → Int} {f : AH → D → D → Option D} (hf : ∀ A a b d, f A a b = some d → ∃ i j, a = .int i ∧ b = .int j ∧ Cn i j ∧ d = .int (g i j)) : Op2 X C (rI Cn fun i j => .int (g i j)) f := fun z A σ H d1 d2 d x y Q r s h1 h2 e q => by
  obtain ⟨i, j, rfl, rfl, hc, rfl⟩ := hf A d1 d2 d e
  exact ⟨i, j, h1.int, h2.int, hc, q _ H (.same (by rw [Rp]))⟩
theorem o_sub : Op2 X C (rI0 fun i j => .int (i - j)) fSub := fun z A σ H d1 d2 d x y Q r s h1 h2 e q => by
  cases d1 <;> simp [fSub] at e
  cases d2 <;> simp [fSub] at e
  subst e
  exact ⟨_, _, h1.int, h2.int, q _ H (.same (by rw [Rp]))⟩
theorem o_fdiv : Op2 X C (rI CDivW fun i j => .int (i / j)) fFdiv := o_int fun A a b d e => by
  cases a <;> simp [fFdiv] at e
  cases b <;> simp [fFdiv] at e
  rename_i i j
  obtain ⟨⟨h1, h2⟩, rfl⟩ := e
  refine ⟨i, j, rfl, rfl, ⟨h1, ?_⟩, rfl⟩
  have : j.natAbs < 2 ^ 64 := by omega
  exact Nat.lt_of_lt_of_le (PySem.Flt.log2_lt_of (by decide) this) (by decide)
theorem o_mod : Op2 X C (rI (fun _ j => 0 < j) fun i j => .int (i % j)) fMod := o_int fun A a b d e => by
  cases a <;> simp [fMod] at e
  cases b <;> simp [fMod] at e
  rename_i i j
  obtain ⟨h1, rfl⟩ := e
  exact ⟨i, j, rfl, rfl, h1, rfl⟩
theorem o_pow : Op2 X C (rI CPow fun i j => .int (i ^ j.toNat)) fPow := o_int fun A a b d e => by
  cases a <;> simp [fPow] at e
  cases b <;> simp [fPow] at e
  rename_i i j
  obtain ⟨⟨h1, h2, h3⟩, rfl⟩ := e
  exact ⟨i, j, rfl, rfl, ⟨h1, by omega, by omega⟩, rfl⟩
theorem o_shl : Op2 X C (rI CPow fun i j => .int (i * 2 ^ j.toNat)) fShl := o_int fun A a b d e => by
  cases a <;> simp [fShl] at e
  cases b <;> simp [fShl] at e
  rename_i i j
  obtain ⟨⟨h1, h2, h3⟩, rfl⟩ := e
  exact ⟨i, j, rfl, rfl, ⟨h1, by omega, by omega⟩, rfl⟩
theorem o_neg : Op1 X C (rU fun i => .int (-i)) fNeg := fun z A σ H d1 d x Q r s h1 e q => by
  cases d1 <;> simp [fNeg] at e
  subst e
  exact ⟨_, h1.int, q _ H (.same (by rw [Rp]))⟩
end
end T3
set_option autoImplicit false
namespace T3
open PySem PySem.Spec PyProof.Rows L2

/-! ### rules by values that the hand layer has for tracked lists alone -/
section
variable {X : Cx}
def rCatL (K : PySem.W.Frag) : R2 := fun x y H Q => ∃ l b xs zs, x = .ref l ∧ y = .ref b ∧ SqL K H l xs ∧ SqL K H b zs ∧ xs.length + zs.length ≤ sizeLine ∧ ∀ p, H p = none → Q (.ref p) (upd H p (.lst (xs ++ zs)))
theorem op_catL : OpR X (binaryOp .Add) (rCatL X.K) := by
  intro pins s σ H x y v u Q I rx ry h
  obtain ⟨l, b, xs, zs, rfl, rfl, hH, hB, hz, q⟩ := h
  cases rx
  cases ry
  obtain ⟨its, r, ⟨⟨c1, d1, t1, s1⟩, n, e, ec, ed, et⟩, hl⟩ := I.list hH
  obtain ⟨its2, r2, ⟨⟨c2, d2, t2, s2⟩, n2, e2, ec2, ed2, et2⟩, hl2⟩ := I.list hB
  simp only at ec ed et ec2 ed2 et2
  subst ec ed et ec2 ed2 et2
  have l1 := r.length
  have l2 := r2.length
  refine concat_meets ⟨_, e, rfl⟩ ⟨_, e2, rfl⟩ noFill_list_add seq_list_add PySem.F.slot_list_add PySem.F.entry_list_add (PySem.F.args_list_add_2 _ _) (list_addW l b its.toArray its2.toArray n n2 none none s1 s2 (by rw [List.size_toArray, List.size_toArray]; omega)) ⟨e, e2, ?_⟩
  have ea : its.toArray ++ its2.toArray = (its ++ its2).toArray := by simp
  rw [ea]
  exact ⟨.ref _, _, I.lnew (t' := s.toks) (r.append r2) (by rw [List.length_append]; omega), rfl, q _ I.fresh⟩
def rExtendR (K : PySem.W.Frag) : V → List V → Hp → VK → Prop := fun x vs H Q => ∃ l b xs zs, x = .ref l ∧ vs = [.ref b] ∧ H l = some (.lst xs) ∧ SqL K H b zs ∧ xs.length + zs.length ≤ sizeLine ∧ Q .non (upd H l (.lst (xs ++ zs)))
section
open PySem.AutoSeq1
theorem list_extendG (l : Addr) (items : Array Value) (n : Nat) (b : Addr) (items2 : Array Value) (n2 : Nat) (dd : Option Addr) (sl : Array (Option Value)) (hc0 : ¬(!items.isEmpty && Builtin.List.listTooLong (items.size + items2.size)) = true) (hc1 : items.size ≤ sizeLine) (hs2 : items.size + items2.size ≤ sizeLine + 1) :
    Meets (Builtin.«list.extend» ⟨[.ref l, .ref b], []⟩) (fun _ R s => s.heap.get? l = some { cls := .type "list", dict := none, data := .seq items n, slots := #[] } ∧ s.heap.get? b = some { cls := .type "list", dict := dd, data := .seq items2 n2, slots := sl } ∧ R (.ok (.ret Value.none)) { s with heap := s.heap.update l (Obj.mapSeq fun x => x ++ items2), toks := s.toks }) :=
  .of_wp fun prog w A R s h => by
    obtain ⟨hp, g, d, tk, os⟩ := s; obtain ⟨hl, hb, h⟩ := h; have f1 := AutoSeq1.idx_int; have f2 := AutoSeq1.sub_tuple_tuple; have f3 := AutoSeq1.sub_list_list; have f4 := AutoSeq1.sub_tuple_list; have f5 := AutoSeq1.sub_list_tuple;
    have hz' : (items ++ items2).size ≤ sizeLine + 1 := by rw [Array.size_append]; exact hs2
    wp_walk using (wpAny_updateSeq hl rfl (hz := hc1) (_hz' := hz')), wpAny_loadPart' hl, wpAny_loadPart' hb; exact ⟨_, rfl, h⟩
end
theorem mt_extendR : MtM X "list.extend" (rExtendR X.K) := by
  intro pins s σ H x vs v us Q I rx rv h
  obtain ⟨l, b, xs, zs, rfl, rfl, hH, hB, hz, q⟩ := h
  cases rx
  obtain ⟨u, rfl, ru⟩ := rv.one
  cases ru
  obtain ⟨z, its, n, r, hl, e⟩ := I.lstM hH
  obtain ⟨its2, r2, ⟨⟨c2, d2, t2, s2⟩, n2, e2, ec2, ed2, et2⟩, hz2⟩ := I.list hB
  simp only at ec2 ed2 et2
  subst ec2 ed2 et2
  have hl2 := r2.length
  have hsz : its.toArray.size + its2.toArray.size ≤ sizeLine := by rw [List.size_toArray, List.size_toArray]; omega
  have hlong : ¬ (!its.toArray.isEmpty && Builtin.List.listTooLong (its.toArray.size + its2.toArray.size)) = true := by
    rw [notLongL hsz, Bool.and_false]
    exact Bool.false_ne_true
  refine call_meets F.slot_list_extend ⟨_, e, rfl⟩ F.entry_list_extend (F.args_list_extend_2 _ _)
    (list_extendG l its.toArray n b its2.toArray n2 none s2 hlong (by rw [List.size_toArray]; omega) (by omega)) ⟨e, e2, ?_⟩
  refine ⟨.non, _, I.lset (its' := its ++ its2) hH e (by simp) (r.append r2) ?_, rfl, q⟩
  rw [List.length_append]
  omega
/-- a text times a number -/
def repS (x : Str) (k : Int) : Str := ⟨(List.replicate k.toNat x.cps).foldl (· ++ ·) #[]⟩
def rRepS : R2 := fun x y H Q => ∃ z k, x = .str z ∧ y = .int k ∧ k < 2 ^ 40 ∧ -(2 ^ 40) < k ∧ z.length * k.toNat ≤ 100000 ∧ Q (.str (repS z k)) H
theorem op_repS : OpR X (binaryOp .Mult) rRepS := by
  intro pins s σ H x y v u Q I rx ry h
  obtain ⟨z, k, rfl, rfl, h1, h2, h3, q⟩ := h
  obtain ⟨t, rfl⟩ := rx
  obtain ⟨t', rfl⟩ := ry
  refine PySem.P.mul_str (by rw [decide_eq_false (by omega), decide_eq_false (by omega)]; rfl) (fun hk _ => ?_) (fun hk _ => ?_) ?_
  · have hk' : 1 ≤ k := by omega
    have e1 : (z.length : Int) * k ≤ 100000 := by
      have : ((z.length * k.toNat : Nat) : Int) ≤ 100000 := by omega
      rw [Int.natCast_mul, Int.toNat_of_nonneg (by omega)] at this
      exact this
    intro hc
    have e2 : (2 ^ 63 - 1) / k * k ≤ 2 ^ 63 - 1 := Int.ediv_mul_le _ (by omega)
    have e3 : ((2 ^ 63 - 1) / k + 1) * k ≤ (z.length : Int) * k := Int.mul_le_mul_of_nonneg_right (by omega) (by omega)
    have e4 : 2 ^ 63 - 1 < ((2 ^ 63 - 1) / k + 1) * k := by
      have := Int.emod_lt_of_pos (2 ^ 63 - 1) (show 0 < k by omega)
      have e5 := Int.emod_add_mul_ediv (2 ^ 63 - 1) k
      rw [Int.add_mul, Int.one_mul, Int.mul_comm]
      omega
    omega
  · have hs := sizeLine_eq
    unfold Builtin.Str.tooLong
    first
      | exact decide_eq_false (by omega)
      | (simp; omega)
  · by_cases hk : k < 1
    · rw [if_pos hk]
      have e : repS z k = Str.empty := by
        have : k.toNat = 0 := by omega
        unfold repS; rw [this]; rfl
      rw [e] at q
      exact ⟨by decide, .str _, H, I.tok _, ⟨_, rfl⟩, q⟩
    · rw [if_neg hk]
      by_cases hc : (k == 1 || z.length == 0) = true
      · rw [if_pos hc]
        have e : repS z k = z := by
          rw [Bool.or_eq_true] at hc
          rcases hc with hc | hc
          · have : k.toNat = 1 := by have := eq_of_beq hc; omega
            unfold repS; rw [this]
            simp
          · have hz0 : z.cps = #[] := Array.eq_empty_of_size_eq_zero (by have := eq_of_beq hc; exact this)
            unfold repS
            have : ∀ n : Nat, (List.replicate n z.cps).foldl (· ++ ·) #[] = #[] := by
              intro n
              induction n with
              | zero => rfl
              | succ n ih => rw [List.replicate_succ, List.foldl_cons]; rw [hz0] at ih ⊢; exact ih
            rw [this]
            cases z; simp only at hz0; rw [hz0]
        rw [e] at q
        exact ⟨.str z, H, I, ⟨t, rfl⟩, q⟩
      · rw [if_neg hc]
        refine ⟨?_, .str _, H, I.tok _, ⟨_, rfl⟩, q⟩
        show ((List.replicate k.toNat z.cps).foldl (· ++ ·) #[]).size ≤ sizeLine
        have : ∀ (n : Nat) (acc : Array Nat), ((List.replicate n z.cps).foldl (· ++ ·) acc).size = acc.size + z.cps.size * n := by
          intro n
          induction n with
          | zero => intro acc; simp
          | succ n ih => intro acc; rw [List.replicate_succ, List.foldl_cons, ih, Array.size_append, Nat.mul_succ]; omega
        rw [this]
        have hs := sizeLine_eq
        have hz : z.length = z.cps.size := rfl
        rw [hz] at h3
        simp only [Array.size_empty]
        omega
end

/-! ### + -/
def lim (n : Nat) : Bool := decide (n ≤ sizeLine)
def fAdd (A : AH) (a b : D) : Option D := match vw A a, vw A b with
  | .int i, .int j => some (.int (i + j))
  | .str x, .str y => if lim (x.length + y.length) then some (.str (x ++ y)) else none
  | .lst xs, .lst ys => if lim (xs.length + ys.length) then some (.ml (xs ++ ys)) else none
  | .tup xs, .tup ys => if lim (xs.length + ys.length) then some (.tup (xs ++ ys)) else none
  | _, _ => none
section
variable {X : Cx} {C : Ct}
theorem vw_int {A : AH} {a : D} {i : Int} (h : vw A a = .int i) : a = .int i := by
  cases a with
  | ref a => cases q : A a with
    | none => simp [vw, q] at h
    | some ob => cases ob <;> simp [vw, q] at h
  | _ => first | exact h | simp [vw] at h
theorem vw_str {A : AH} {a : D} {i : Str} (h : vw A a = .str i) : a = .str i := by
  cases a with
  | ref a => cases q : A a with
    | none => simp [vw, q] at h
    | some ob => cases ob <;> simp [vw, q] at h
  | _ => first | exact h | simp [vw] at h
abbrev rAddA (K : PySem.W.Frag) : R2 := fun x y H Q => (rI0 (fun i j => V.int (i + j)) x y H Q ∨ ∃ i j, x = .str i ∧ y = .str j ∧ i.length + j.length ≤ sizeLine ∧ Q (.str (i ++ j)) H) ∨ (rCatL K x y H Q ∨ rCatS K x y H Q)
theorem op_addA : OpR X (binaryOp .Add) (rAddA X.K) := (OpR.or op_add op_add_str).or (op_catL.or op_catS)
theorem o_add : Op2 X C (rAddA X.K) fAdd := fun z A σ H d1 d2 d x y Q r s h1 h2 e q => by
  unfold fAdd at e
  split at e
  · rename_i i j e1 e2
    cases e
    rw [vw_int e1] at h1
    rw [vw_int e2] at h2
    exact .inl (.inl ⟨i, j, h1.int, h2.int, q _ H (.same (by rw [Rp]))⟩)
  · rename_i i j e1 e2
    split at e
    · rename_i hl
      cases e
      rw [vw_str e1] at h1
      rw [vw_str e2] at h2
      exact .inl (.inr ⟨i, j, h1.str, h2.str, of_decide_eq_true hl, q _ H (.same (by rw [Rp]))⟩)
    · cases e
  · rename_i xs ys e1 e2
    split at e
    · rename_i hl
      cases e
      obtain ⟨a, vs, rfl, q1, r1⟩ := h1.list r s e1
      obtain ⟨b, ws, rfl, q2, r2⟩ := h2.list r s e2
      refine .inr (.inl ⟨a, b, vs, ws, rfl, rfl, q1, q2, by rw [r1.length, r2.length]; exact of_decide_eq_true hl, fun p hp => q _ _ (.lst hp (r1.append r2))⟩)
    · cases e
  · rename_i xs ys e1 e2
    split at e
    · rename_i hl
      cases e
      obtain ⟨a, vs, rfl, q1, r1⟩ := h1.tup (A := A) e1
      obtain ⟨b, ws, rfl, q2, r2⟩ := h2.tup (A := A) e2
      have l1 := r1.length
      have l2 := r2.length
      refine .inr (.inr ⟨a, b, vs, ws, rfl, rfl, q1.sqt, q2.sqt, by rw [l1, l2]; exact of_decide_eq_true hl, fun hx => ?_, fun hx hy => ?_, fun hx hy p o hp ho => q _ _ (.tup hp ho (r1.append r2))⟩)
      · subst hx
        have : xs = [] := List.eq_nil_of_length_eq_zero (by simpa using l1.symm)
        subst this
        exact q _ H (.same (by rw [Rp]; exact ⟨b, ws, rfl, q2, r2⟩))
      · subst hy
        have : ys = [] := List.eq_nil_of_length_eq_zero (by simpa using l2.symm)
        subst this
        exact q _ H (.same (by rw [List.append_nil, Rp]; exact ⟨a, vs, rfl, q1, r1⟩))
    · cases e
  · cases e
end
/-! ### * -/
def fMul (_ : AH) : D → D → Option D
  | .int i, .int j => if big64 i || big64 j then some (.int (i * j)) else none
  | .str x, .int k => if decide (-(2 ^ 40) < k) && decide (k < 2 ^ 40) && decide (x.length * k.toNat ≤ 100000) then some (.str (repS x k)) else none
  | _, _ => none
section
variable {X : Cx} {C : Ct}
abbrev rMulA : R2 := fun x y H Q => rI CMul (fun i j => .int (i * j)) x y H Q ∨ rRepS x y H Q
theorem op_mulA : OpR X (binaryOp .Mult) rMulA := op_mul.or op_repS
theorem o_mul : Op2 X C rMulA fMul := fun z A σ H d1 d2 d x y Q r s h1 h2 e q => by
  unfold fMul at e
  split at e
  · rename_i i j
    split at e
    · rename_i hc
      cases e
      refine .inl ⟨i, j, h1.int, h2.int, ?_, q _ H (.same (by rw [Rp]))⟩
      simp only [big64, Bool.or_eq_true, Bool.and_eq_true, decide_eq_true_eq] at hc
      exact hc
    · cases e
  · rename_i x' k
    split at e
    · rename_i hc
      cases e
      simp only [Bool.and_eq_true, decide_eq_true_eq] at hc
      exact .inr ⟨x', k, h1.str, h2.int, hc.1.2, hc.1.1, hc.2, q _ H (.same (by rw [Rp]))⟩
    · cases e
  · cases e
end

/-! ### x[i] of what stands in a row -/
def fIx (A : AH) (a b : D) : Option D := match vw A a, b with
  | .lst xs, .int i => atI xs i
  | .tup xs, .int i => atI xs i
  | .str x, .int i => if lim x.length then (atI x.cps.toList i).map fun c => .str ⟨#[c]⟩ else none
  | _, _ => none
section
variable {X : Cx} {C : Ct}
theorem Rps.atI {K : PySem.W.Frag} {w : World} {H : Hp} {ds : List D} {vs : List V} {i : Int} {d : D} (r : Rps K w H ds vs) (h : L2.atI ds i = some d) : ∃ v, L2.atI vs i = some v ∧ Rp K w H d v := by
  unfold L2.atI at h ⊢
  rw [r.length]
  cases e : ixN ds.length i with
  | none => rw [e] at h; cases h
  | some j =>
    rw [e] at h
    exact r.get (show ds[j]? = some d from h)
theorem o_ix : Op2 X C (rIx X.K) fIx := fun z A σ H d1 d2 d x y Q r s h1 h2 e q => by
  unfold fIx at e
  split at e
  · rename_i xs i e1
    obtain ⟨a, vs, rfl, q1, r1⟩ := h1.list r s e1
    obtain ⟨v, hv, rv⟩ := Rps.atI r1 e
    exact .inl ⟨a, vs, i, v, rfl, h2.int, q1, hv, q _ H (.same rv)⟩
  · rename_i xs i e1
    obtain ⟨a, vs, rfl, q1, r1⟩ := h1.tup (A := A) e1
    obtain ⟨v, hv, rv⟩ := Rps.atI r1 e
    exact .inr (.inl ⟨a, vs, i, v, rfl, h2.int, q1.sqt, hv, q _ H (.same rv)⟩)
  · rename_i x' i e1
    split at e
    · rename_i hl
      rw [vw_str e1] at h1
      cases hc : L2.atI x'.cps.toList i with
      | none => rw [hc] at e; cases e
      | some c =>
        rw [hc] at e; cases e
        exact .inr (.inr ⟨x', i, c, h1.str, h2.int, of_decide_eq_true hl, hc, q _ H (.same (by rw [Rp]))⟩)
    · cases e
  · cases e
end

/-! ### x[a:b] -/
def cutD (xs : List D) (lo hi : Option Int) : List D := (xs.drop (HT.sIx xs.length 0 lo)).take (HT.sIx xs.length xs.length hi - HT.sIx xs.length 0 lo)
def fSl (A : AH) (a : D) (lo hi : Option Int) : Option D := match vw A a with
  | .lst xs => some (.ml (cutD xs lo hi))
  | .tup xs => some (.tup (cutD xs lo hi))
  | .str x => if lim x.length then some (.str (cutS x lo hi)) else none
  | _ => none
abbrev TO3 := S3 → AH → (Option Int → AH → Prop) → Prop
def lowO (K : PySem.W.Frag) (w : World) (C : Ct) (t : TO3) : TO := fun σ H Q => ∃ z A Q3, Rel K w C A H ∧ Slots K w C z A σ H ∧ t z A Q3 ∧
  ∀ o A' H', Q3 o A' → Rel K w C A' H' → Slots K w C z A' σ H' → Pers H H' → Q o H'
abbrev PO3 (X : Cx) (C : Ct) (e : Option Expr) (t : TO3) : Prop := PO X e (lowO X.K X.w C t)
def oNo : TO3 := fun _ A Q => Q none A
def oAt (t : TE3) : TO3 := fun z A Q => t z A fun d A' => ∃ i, d = .int i ∧ Q (some i) A'
def eSl (te : TE3) (tl th : TO3) : TE3 := fun z A Q => te z A fun d A1 => tl z A1 fun lo A2 => th z A2 fun hi A3 => ∃ r, fSl A3 d lo hi = some r ∧ Q r A3
section
variable {X : Cx} {C : Ct}
theorem PO.imp {e : Option Expr} {t t' : TO} (h : PO X e t) (i : ∀ σ H Q, t' σ H Q → t σ H Q) : PO X e t' := ⟨fun pins s σ H Q I q => h.run pins s σ H Q I (i σ H Q q)⟩
theorem po3_none : PO3 X C none oNo := PO.imp po_none fun σ H Q hq => by
  obtain ⟨z, A, Q3, r, s, q, f⟩ := hq
  exact f none A H q r s (.refl H)
theorem po3_some {e : Expr} {t : TE3} (h : PE3 X C e t) : PO3 X C (some e) (oAt t) := PO.imp (po_some h) fun σ H Q hq => by
  obtain ⟨z, A, Q3, r, s, q, f⟩ := hq
  refine ⟨z, A, _, r, s, q, fun d A' v H' q' r' s' p' t' => ?_⟩
  obtain ⟨i, rfl, q2⟩ := q'
  exact ⟨i, by have := t'.val; exact this, f _ A' H' q2 r' s' p'⟩
theorem Rps.cut {K : PySem.W.Frag} {w : World} {H : Hp} {ds : List D} {vs : List V} (r : Rps K w H ds vs) (lo hi : Option Int) : Rps K w H (cutD ds lo hi) (cutV vs lo hi) := by
  unfold cutD cutV
  rw [r.length]
  exact (r.drop _).take _
abbrev rSlAll (K : PySem.W.Frag) : V → Option Int → Option Int → Hp → VK → Prop := fun x lo hi H Q => rSlL K x lo hi H Q ∨ (T3.rSlS K x lo hi H Q ∨ L2.rSlS x lo hi H Q)
theorem pe3_slice {e : Expr} {lo hi : Option Expr} {te : TE3} {tl th : TO3} {p2 pos : Pos} (he : PB3 X C e te) (hl : PO3 X C lo tl) (hu : PO3 X C hi th) : PE3 X C (.Subscript e (.Slice lo hi none p2) pos) (eSl te tl th) :=
  PE.imp (pe_slice (sl_list.or (sl_tupS.or sl_str)) he hl hu) fun σ H Q hq => by
    obtain ⟨z, A, Q3, r, s, q, f⟩ := hq
    refine ⟨z, A, _, r, s, q, fun d A1 v H1 q1 r1 s1 p1 t1 => ⟨z, A1, _, r1, s1, q1, fun o A2 H2 q2 r2 s2 p2 => ⟨z, A2, _, r2, s2, q2, fun o' A3 H3 q3 r3 s3 p3 => ?_⟩⟩⟩
    obtain ⟨res, he, q4⟩ := q3
    have hb := (t1.later p2).later p3
    have pp := (p1.trans p2).trans p3
    have fin : ∀ v H', Gv X.K X.w H3 H' res v → Q v H' := fun v H' g => low.gv r3 s3 f pp q4 g
    unfold fSl at he
    split at he
    · rename_i xs e1
      cases he
      obtain ⟨a, vs, rfl, h1, hr⟩ := hb.list r3 s3 e1
      exact .inl ⟨a, vs, rfl, h1, fun p hp => fin _ _ (.lst hp (hr.cut _ _))⟩
    · rename_i xs e1
      cases he
      obtain ⟨a, vs, rfl, h1, hr⟩ := hb.tup (A := A3) e1
      refine .inr (.inl ⟨a, vs, rfl, h1.sqt, fun hw => ?_, fun _ p o hp ho => fin _ _ (.tup hp ho (hr.cut _ _))⟩)
      refine fin _ _ (.same ?_)
      have e : cutD xs o o' = xs := by
        unfold cutD
        rw [hr.length] at hw
        rw [hw.1, hw.2]; simp
      rw [e, Rp]
      exact ⟨a, vs, rfl, h1, hr⟩
    · rename_i x e1
      split at he
      · rename_i hl
        cases he
        rw [vw_str e1] at hb
        exact .inr (.inr ⟨x, hb.str, of_decide_eq_true hl, fin _ _ (.same (by rw [Rp]))⟩)
      · cases he
    · cases he
end

/-! ### in -/
def oneSign (x : Str) : Option Nat := match x.cps.toList with
  | [c] => some c | _ => none
/-- x in c: rows of data; a text of one sign in a text -/
def fIn (A : AH) (a b : D) : Option Bool := match vw A b with
  | .lst ys => if pok (vw A a) && poks ys && (decide (deps ys ≤ 60) || decide (dep (vw A a) ≤ 60)) then some (ys.any fun y => eqD y (vw A a)) else none
  | .tup ys => if pok (vw A a) && poks ys && (decide (deps ys ≤ 60) || decide (dep (vw A a) ≤ 60)) then some (ys.any fun y => eqD y (vw A a)) else none
  | .str y => match a with
    | .str x => (oneSign x).map fun c => decide (c ∈ y.cps.toList)
    | _ => none
  | _ => none
section
variable {X : Cx} {C : Ct}
def rInD2 (K : PySem.W.Frag) (g : Bool → Bool) : R2 := fun x y H Q => ∃ (d : PyData) (es : List PyData), Dp K H x d ∧ (Dp K H y (.list es) ∨ Dp K H y (.tuple es)) ∧ d.plain = true ∧ PyData.plainAll es = true ∧ min (PyData.depthAll es) d.depth ≤ 60 ∧ Q (.bl (g (es.any fun y => PyData.eqv y d))) H
theorem op_inD2 (hu : X.A.units + 64 < cLine) : OpR X (compareOp .In) (rInD2 X.K id) := by
  intro pins s σ H x y v u Q I rx ry h
  obtain ⟨d, es, hd, he, sd, se, hm, q⟩ := h
  obtain ⟨as, r1⟩ := Dp.reads I d x v hd rx
  rcases he with he | he
  · obtain ⟨bs, r2⟩ := Dp.reads I (.list es) y u he ry
    exact SeqAt.in_list_data r2 r1 se sd (by omega) ⟨.bl _, H, I, rfl, q⟩
  · obtain ⟨bs, r2⟩ := Dp.reads I (.tuple es) y u he ry
    exact SeqAt.in_tuple_data r2 r1 se sd (by omega) ⟨.bl _, H, I, rfl, q⟩
theorem op_notInD2 (hu : X.A.units + 64 < cLine) : OpR X (compareOp .NotIn) (rInD2 X.K not) := by
  intro pins s σ H x y v u Q I rx ry h
  obtain ⟨d, es, hd, he, sd, se, hm, q⟩ := h
  obtain ⟨as, r1⟩ := Dp.reads I d x v hd rx
  rcases he with he | he
  · obtain ⟨bs, r2⟩ := Dp.reads I (.list es) y u he ry
    exact SeqAt.notIn_list_data r2 r1 se sd (by omega) ⟨.bl _, H, I, rfl, q⟩
  · obtain ⟨bs, r2⟩ := Dp.reads I (.tuple es) y u he ry
    exact SeqAt.notIn_tuple_data r2 r1 se sd (by omega) ⟨.bl _, H, I, rfl, q⟩
theorem any_pds (d : D) : ∀ ys : List D, (pds ys).any (fun y => PyData.eqv y (pd d)) = ys.any fun y => eqD y d
  | [] => by simp [pds]
  | y :: ys => by simp [pds, any_pds d ys, eqD]
abbrev rInAll (K : PySem.W.Frag) (g : Bool → Bool) : R2 := fun x y H Q => rInD2 K g x y H Q ∨ ∃ (c : Nat) (z : Str), x = .str ⟨#[c]⟩ ∧ y = .str z ∧ Q (.bl (g (decide (c ∈ z.cps.toList)))) H
theorem op_inAll (hu : X.A.units + 64 < cLine) : OpR X (compareOp .In) (rInAll X.K id) := (op_inD2 hu).or op_in_sign
theorem op_notInAll (hu : X.A.units + 64 < cLine) : OpR X (compareOp .NotIn) (rInAll X.K not) := (op_notInD2 hu).or op_notIn_sign
def fInB (g : Bool → Bool) (A : AH) (a b : D) : Option D := (fIn A a b).map fun k => .bl (g k)
theorem o_inAll (g : Bool → Bool) : Op2 X C (rInAll X.K g) (fInB g) := fun z A σ H d1 d2 d x y Q r s h1 h2 e q => by
  unfold fInB at e
  cases hb : fIn A d1 d2 with
  | none => rw [hb] at e; cases e
  | some b =>
    rw [hb] at e; cases e
    unfold fIn at hb
    split at hb
    · rename_i ys e2
      split at hb
      · rename_i hc
        cases hb
        simp only [Bool.and_eq_true, Bool.or_eq_true, decide_eq_true_eq] at hc
        obtain ⟨⟨c1, c2⟩, c3⟩ := hc
        have q2 := h2.dp r s (by rw [e2, pok]; exact c2)
        rw [e2, pd] at q2
        refine .inl ⟨pd (vw A d1), pds ys, h1.dp r s c1, .inl q2, pd_plain _ c1, pds_plain _ c2, by rw [pd_depth, pds_depth]; omega, ?_⟩
        rw [any_pds]
        exact q _ H (.same (by rw [Rp]))
      · cases hb
    · rename_i ys e2
      split at hb
      · rename_i hc
        cases hb
        simp only [Bool.and_eq_true, Bool.or_eq_true, decide_eq_true_eq] at hc
        obtain ⟨⟨c1, c2⟩, c3⟩ := hc
        have q2 := h2.dp r s (by rw [e2, pok]; exact c2)
        rw [e2, pd] at q2
        refine .inl ⟨pd (vw A d1), pds ys, h1.dp r s c1, .inr q2, pd_plain _ c1, pds_plain _ c2, by rw [pd_depth, pds_depth]; omega, ?_⟩
        rw [any_pds]
        exact q _ H (.same (by rw [Rp]))
      · cases hb
    · rename_i y' e2
      split at hb
      · rename_i x'
        rw [vw_str e2] at h2
        cases ho : oneSign x' with
        | none => rw [ho] at hb; cases hb
        | some c =>
          rw [ho] at hb; cases hb
          have ex : x' = ⟨#[c]⟩ := by
            unfold oneSign at ho
            split at ho
            · rename_i c' hc
              cases ho
              cases x' with
              | mk cps => simp only at hc; rw [show cps = #[c] from by apply Array.toList_inj.mp; rw [hc]]
            · cases ho
          subst ex
          exact .inr ⟨c, y', h1.str, h2.str, q _ H (.same (by rw [Rp]))⟩
      · cases hb
    · cases hb
end

/-! ### len, list(), tuple(), all, any, ord -/
def fLen (A : AH) : List D → Option D
  | [a] => match vw A a with
    | .lst xs => some (.int xs.length)
    | .tup xs => some (.int xs.length)
    | .str x => if lim x.length then some (.int x.length) else none
    | _ => none
  | _ => none
def fList (A : AH) : List D → Option D
  | [a] => match vw A a with
    | .lst xs => some (.ml xs)
    | .tup xs => some (.ml xs)
    | _ => none
  | _ => none
def fTuple (A : AH) : List D → Option D
  | [a] => match vw A a with
    | .lst xs => some (.tup xs)
    | .tup xs => some (.tup xs)
    | _ => none
  | _ => none
def bls : List D → Option (List Bool)
  | [] => some []
  | .bl b :: xs => (bls xs).map (b :: ·)
  | _ :: _ => none
def fAll (A : AH) : List D → Option D
  | [a] => match vw A a with
    | .lst xs => (bls xs).map fun bs => .bl (bs.all id)
    | _ => none
  | _ => none
def fAny (A : AH) : List D → Option D
  | [a] => match vw A a with
    | .lst xs => (bls xs).map fun bs => .bl (bs.any id)
    | _ => none
  | _ => none
def fOrd (_ : AH) : List D → Option D
  | [.str x] => if x.length = 1 then some (.int (x.cps.getD 0 0 : Nat)) else none
  | _ => none
def fMax2 (_ : AH) : List D → Option D
  | [.int i, .int j] => some (.int (if j > i then j else i))
  | _ => none
def fMin2 (_ : AH) : List D → Option D
  | [.int i, .int j] => some (.int (if j < i then j else i))
  | _ => none
section
variable {X : Cx} {C : Ct}
abbrev rLenA (K : PySem.W.Frag) : List V → Hp → VK → Prop := fun xs H Q => (∃ p ys, xs = [.ref p] ∧ (SqL K H p ys ∨ SqT K H p ys) ∧ Q (.int ys.length) H) ∨ ∃ z, xs = [.str z] ∧ z.length ≤ sizeLine ∧ Q (.int z.length) H
theorem call_lenA : CallR X (.builtin "len") (rLenA X.K) := CallR.or call_len_seq call_len_str
theorem o_len : OpN X C (rLenA X.K) fLen := fun z A σ H ds d xs Q r s h e q => by
  unfold fLen at e
  split at e
  · obtain ⟨v, rfl, hb⟩ := h.one
    split at e
    · rename_i ys e1
      cases e
      obtain ⟨a, vs, rfl, h1, hr⟩ := hb.list r s e1
      refine .inl ⟨a, vs, rfl, .inl h1, ?_⟩
      rw [hr.length]
      exact q _ H (.same (by rw [Rp]))
    · rename_i ys e1
      cases e
      obtain ⟨a, vs, rfl, h1, hr⟩ := hb.tup (A := A) e1
      refine .inl ⟨a, vs, rfl, .inr h1.sqt, ?_⟩
      rw [hr.length]
      exact q _ H (.same (by rw [Rp]))
    · rename_i x e1
      split at e
      · rename_i hl
        cases e
        rw [vw_str e1] at hb
        exact .inr ⟨x, by rw [hb.str], of_decide_eq_true hl, q _ H (.same (by rw [Rp]))⟩
      · cases e
    · cases e
  · cases e
theorem o_list : OpN X C (fun xs H Q => ∃ p ys, xs = [.ref p] ∧ (SqL X.K H p ys ∨ SqT X.K H p ys) ∧ ∀ l, H l = none → Q (.ref l) (upd H l (.lst ys))) fList := fun z A σ H ds d xs Q r s h e q => by
  unfold fList at e
  split at e
  · obtain ⟨v, rfl, hb⟩ := h.one
    split at e
    · rename_i ys e1
      cases e
      obtain ⟨a, vs, rfl, h1, hr⟩ := hb.list r s e1
      exact ⟨a, vs, rfl, .inl h1, fun l hl => q _ _ (.lst hl hr)⟩
    · rename_i ys e1
      cases e
      obtain ⟨a, vs, rfl, h1, hr⟩ := hb.tup (A := A) e1
      exact ⟨a, vs, rfl, .inr h1.sqt, fun l hl => q _ _ (.lst hl hr)⟩
    · cases e
  · cases e
theorem o_tuple : OpN X C (rTupleS X.K) fTuple := fun z A σ H ds d xs Q r s h e q => by
  unfold fTuple at e
  split at e
  · obtain ⟨v, rfl, hb⟩ := h.one
    split at e
    · rename_i ys e1
      cases e
      obtain ⟨a, vs, rfl, h1, hr⟩ := hb.list r s e1
      exact ⟨a, vs, rfl, .inl ⟨h1, fun l o hl ho => q _ _ (.tup hl ho hr)⟩⟩
    · rename_i ys e1
      cases e
      obtain ⟨a, vs, rfl, h1, hr⟩ := hb.tup (A := A) e1
      exact ⟨a, vs, rfl, .inr ⟨h1.sqt, q _ H (.same (by rw [Rp]; exact ⟨a, vs, rfl, h1, hr⟩))⟩⟩
    · cases e
  · cases e
theorem bls_vals {K : PySem.W.Frag} {w : World} {H : Hp} : ∀ {ds : List D} {bs : List Bool} {vs : List V}, bls ds = some bs → Rps K w H ds vs → vs = bs.map V.bl
  | [], bs, vs, e, r => by cases e; rw [Rps] at r; exact r
  | .bl b :: ds, bs, vs, e, r => by
    rw [bls] at e
    cases h : bls ds with
    | none => rw [h] at e; cases e
    | some cs =>
      rw [h] at e; cases e
      rw [Rps] at r
      obtain ⟨x, q, rfl, h1, h2⟩ := r
      rw [Rp] at h1
      rw [h1, bls_vals h h2]; rfl
  | .non :: _, _, _, e, _ => by cases e
  | .int _ :: _, _, _, e, _ => by cases e
  | .str _ :: _, _, _, e, _ => by cases e
  | .tup _ :: _, _, _, e, _ => by cases e
  | .lst _ :: _, _, _, e, _ => by cases e
  | .dct _ :: _, _, _, e, _ => by cases e
  | .ref _ :: _, _, _, e, _ => by cases e
  | .ml _ :: _, _, _, e, _ => by cases e
  | .md _ :: _, _, _, e, _ => by cases e
theorem o_all : OpN X C (rAll X.K) fAll := fun z A σ H ds d xs Q r s h e q => by
  unfold fAll at e
  split at e
  · obtain ⟨v, rfl, hb⟩ := h.one
    split at e
    · rename_i ys e1
      obtain ⟨a, vs, rfl, h1, hr⟩ := hb.list r s e1
      cases hc : bls ys with
      | none => rw [hc] at e; cases e
      | some bs =>
        rw [hc] at e; cases e
        rw [bls_vals hc hr] at h1
        exact ⟨a, bs, rfl, h1, q _ H (.same (by rw [Rp]))⟩
    · cases e
  · cases e
theorem o_any : OpN X C (rAny X.K) fAny := fun z A σ H ds d xs Q r s h e q => by
  unfold fAny at e
  split at e
  · obtain ⟨v, rfl, hb⟩ := h.one
    split at e
    · rename_i ys e1
      obtain ⟨a, vs, rfl, h1, hr⟩ := hb.list r s e1
      cases hc : bls ys with
      | none => rw [hc] at e; cases e
      | some bs =>
        rw [hc] at e; cases e
        rw [bls_vals hc hr] at h1
        exact ⟨a, bs, rfl, h1, q _ H (.same (by rw [Rp]))⟩
    · cases e
  · cases e
theorem o_ordN : OpN X C (fun xs H Q => ∃ x, xs = [.str x] ∧ x.length = 1 ∧ Q (.int (x.cps.getD 0 0 : Nat)) H) fOrd := fun z A σ H ds d xs Q r s h e q => by
  unfold fOrd at e
  split at e
  · obtain ⟨v, rfl, hb⟩ := h.one
    split at e
    · rename_i hl
      cases e
      exact ⟨_, by rw [hb.str], hl, q _ H (.same (by rw [Rp]))⟩
    · cases e
  · cases e
theorem o_max2 : OpN X C (fun xs H Q => ∃ i j, xs = [.int i, .int j] ∧ Q (.int (if j > i then j else i)) H) fMax2 := fun z A σ H ds d xs Q r s h e q => by
  unfold fMax2 at e
  split at e
  · cases e
    obtain ⟨v, u, rfl, h1, h2⟩ := h.two
    exact ⟨_, _, by rw [h1.int, h2.int], q _ H (.same (by rw [Rp]))⟩
  · cases e
theorem o_min2 : OpN X C (fun xs H Q => ∃ i j, xs = [.int i, .int j] ∧ Q (.int (if j < i then j else i)) H) fMin2 := fun z A σ H ds d xs Q r s h e q => by
  unfold fMin2 at e
  split at e
  · cases e
    obtain ⟨v, u, rfl, h1, h2⟩ := h.two
    exact ⟨_, _, by rw [h1.int, h2.int], q _ H (.same (by rw [Rp]))⟩
  · cases e
end

/-! ### isinstance(x, T) -/
def tyD (A : AH) : D → Option String
  | .non => some "NoneType" | .bl _ => some "bool" | .int _ => some "int" | .str _ => some "str" | .tup _ => some "tuple" | .lst _ => some "list"
  | .ref a => match A a with
    | some (.lst _) => some "list"
    | _ => none
  | _ => none
def isT (t T : String) : Bool := t == T || (t == "bool" && T == "int")
theorem kit_ok : ∀ t ∈ ["NoneType", "bool", "int", "str", "tuple", "list"], ∀ T ∈ ["bool", "int", "str", "tuple", "list"], kitB t T = some (isT t T) := by decide +kernel
def fIsi (T : String) (A : AH) (a : D) : Option D := (tyD A a).map fun t => .bl (isT t T)
def fIsiL (Ts : List String) (A : AH) (a : D) : Option D := (tyD A a).map fun t => .bl (Ts.any (isT t))
section
variable {X : Cx} {C : Ct}
theorem tyD_mem {A : AH} {d : D} {t : String} (h : tyD A d = some t) : t ∈ ["NoneType", "bool", "int", "str", "tuple", "list"] := by
  cases d with
  | ref a =>
    unfold tyD at h
    simp only at h
    split at h <;> cases h
    simp
  | _ => first | (cases h; simp) | cases h
theorem tyD_ok {K : PySem.W.Frag} {w : World} {z : S3} {A : AH} {σ : L2.St} {H : Hp} {d : D} {v : V} {t : String} (r : Rel K w C A H) (s : Slots K w C z A σ H) (h : RpB K w z σ H d v) (e : tyD A d = some t) : TyX K H v (.type t) := by
  have lst : ∀ {a : Addr} {xs : List V}, SqL K H a xs → TyX K H (.ref a) (.type "list") := fun {a xs} q => by
    rcases q with (q | ⟨o, q⟩) | ⟨o, its, n, h1, h2, _⟩
    · exact .base (.lst q)
    · exact .base (.frz q)
    · exact .kList h1 h2
  have tup : ∀ {a : Addr} {xs : List V}, SqT K H a xs → TyX K H (.ref a) (.type "tuple") := fun {a xs} q => by
    rcases q with (q | ⟨o, q⟩) | ⟨o, its, n, h1, h2, _⟩
    · exact .base (.tup q)
    · exact .fTuple q
    · exact .kTuple h1 h2
  rcases h with h | ⟨i, f, hi, o, rfl, hs⟩
  · cases d with
    | non => cases e; rw [Rp] at h; subst h; exact .base .non
    | bl b => cases e; rw [Rp] at h; subst h; exact .base (.bl b)
    | int b => cases e; rw [Rp] at h; subst h; exact .base (.int b)
    | str b => cases e; rw [Rp] at h; subst h; exact .base (.str b)
    | tup ds => cases e; rw [Rp] at h; obtain ⟨a, xs, rfl, q, _⟩ := h; exact tup q.sqt
    | lst ds => cases e; rw [Rp] at h; obtain ⟨a, xs, rfl, q, _⟩ := h; exact lst (SqF.sql q)
    | ref a =>
      rw [Rp] at h; subst h
      unfold tyD at e
      simp only at e
      split at e
      · rename_i xs ea
        cases e
        obtain ⟨vs, h1, _⟩ := r.heap a _ ea
        exact lst (.of h1)
      · cases e
    | _ => cases e
  · obtain ⟨x, h1, h2⟩ := s.val i f hi
    rw [hs] at h1; cases h1
    cases f with
    | ml xs =>
      cases e
      obtain ⟨a, rfl, vs, h3, _⟩ := h2
      exact lst (.of h3)
    | md kvs => cases e
    | _ => simp [own] at o
theorem pe3_isi {T : Str} {n : String} {p pos p2 : Pos} {e : Expr} {t : TE3} (hg : Gl X "isinstance") (hm : X.mg "isinstance" = none) (hgT : Gl X T) (hmT : X.mg T = none) (hvT : bootBuiltins T = some (.type n)) (hn : n ∈ ["bool", "int", "str", "tuple", "list"]) (he : PB3 X C e t)
    (hnT : T ≠ "__name__" := by decide) (hdT : (T == ("__debug__" : Str)) = false := by decide)
    (hv : bootBuiltins "isinstance" = some (.builtin "isinstance") := by decide +kernel)
    (hs : starEach [e, .Name T p2] X.env = (false, eval e X.env) :: starEach [.Name T p2] X.env := by rfl) (hs2 : starEach [.Name T p2] X.env = (false, eval (.Name T p2) X.env) :: starEach [] X.env := by rfl) (hpl : (backTo pos (starEach [.Name T p2] X.env)).any (·.1) = false := by rfl) :
    PE3 X C (.Call (.Name "isinstance" p) [e, .Name T p2] [] pos) (e1 (fIsi n) t) :=
  PE.imp (pe_callB call_isi hg hm hv (pa_cons he (pa_cons (pe_bltn (v := .ty n) hgT hmT hvT rfl hnT hdT) pa_nil hs2) hs) (by decide) (by decide) hs hpl) fun σ H Q hq => by
    obtain ⟨z, A, Q3, r, s, q, f⟩ := hq
    refine ⟨z, A, _, r, s, q, fun d A1 v H1 q1 r1 s1 p1 t1 => ?_⟩
    obtain ⟨d', hd, q3⟩ := q1
    unfold fIsi at hd
    cases ht : tyD A1 d with
    | none => rw [ht] at hd; cases hd
    | some t' =>
      rw [ht] at hd; cases hd
      show rIsi X.K [v, .ty n] H1 Q
      exact ⟨v, .ty n, .type t', .type n, _, rfl, .ty n, tyD_ok r1 s1 t1 ht, kit_ty (kit_ok t' (tyD_mem ht) n hn), low.gv r1 s1 f p1 q3 (.same (by rw [Rp]))⟩
end
end T3
set_option autoImplicit false
namespace T3
open PySem PySem.Spec PyProof.Rows L2

section
variable {X : Cx} {C : Ct}
/-! ### a < b < c -/
theorem pe3_chain {op op' : CmpOp} {r r' : R2} {f g : AH → D → D → Option D} {a b c : Expr} {ta tb tc : TE3} {pos : Pos} (ho : OpR X (compareOp op) r) (ho' : OpR X (compareOp op') r') (h : Op2 X C r f) (h' : Op2 X C r' g) (ha : PB3 X C a ta) (hb : PB3 X C b tb) (hc : PB3 X C c tc)
    (hm : lastMarks [op, op'] [b, c] = false := by with_unfolding_all rfl) : PE3 X C (.Compare a [op, op'] [b, c] pos) (e3 f g ta tb tc) := PE.imp (pe_chain ho ho' ha hb hc hm) fun _ _ _ hq => low_chain h h' hq
theorem lowTV {t : TE3} {σ : L2.St} {H : Hp} {Q : Bool → Hp → Prop} (hq : lowT X.K X.w C (tV t) σ H Q) : low X.K X.w C t σ H fun x H' => ∃ k, x = .bl k ∧ Q k H' := by
  obtain ⟨z, A, Q3, r, s, q, f⟩ := hq
  refine ⟨z, A, _, r, s, q, fun d A' v H' q' r' s' p' t' => ?_⟩
  obtain ⟨b, rfl, q2⟩ := q'
  exact ⟨b, by have := t'.val; exact this, f b A' H' q2 r' s' p'⟩
theorem pt3_chain {op op' : CmpOp} {r r' : R2} {f g : AH → D → D → Option D} {a b c : Expr} {ta tb tc : TE3} {pos : Pos} (ho : OpR X (compareOp op) r) (ho' : OpR X (compareOp op') r') (h : Op2 X C r f) (h' : Op2 X C r' g) (ha : PB3 X C a ta) (hb : PB3 X C b tb) (hc : PB3 X C c tc)
    (hm : lastMarks [op, op'] [b, c] = false := by with_unfolding_all rfl) : PT3 X C (.Compare a [op, op'] [b, c] pos) (tV (e3 f g ta tb tc)) := PT.imp (pt_chain ho ho' ha hb hc hm) fun _ _ _ hq => low_chain h h' (lowTV hq)
/-- names of the module that hold numbers and texts -/
theorem pe3_gi {x : Str} {i : Int} {t : Tok} {pos : Pos} (hg : Gl X x) (hm : X.mg x = some (.int i t)) (hd : (x == ("__debug__" : Str)) = false := by decide) : PE3 X C (.Name x pos) (eC (.int i)) := pe3_c (pe_glob hg hm (v := .int i) ⟨t, rfl⟩ hd) fun _ => by rw [Rp]
theorem pe3_gs {x y : Str} {t : Tok} {pos : Pos} (hg : Gl X x) (hm : X.mg x = some (.str y t)) (hd : (x == ("__debug__" : Str)) = false := by decide) : PE3 X C (.Name x pos) (eC (.str y)) := pe3_c (pe_glob hg hm (v := .str y) ⟨t, rfl⟩ hd) fun _ => by rw [Rp]
end

/-! ### methods of texts -/
def okS (_ : AH) (d : D) : Bool := match d with
  | .str _ => true | _ => false
section
variable {X : Cx} {C : Ct}
theorem tyOk_str (x : Str) (H : Hp) : TyOk X "str" (.str x) H := fun pins σ s v I r => by
  obtain ⟨t, rfl⟩ := r
  exact ⟨typeIs_str s x t, fun _ e => nomatch e⟩
theorem mtn_str {r : V → List V → Hp → VK → Prop} {f : AH → D → List D → Option D}
    (act : ∀ (z : S3) (A : AH) (σ : L2.St) (H : Hp) (a : Str) (ds : List D) (d : D) (xs : List V) (Q : VK), Rel X.K X.w C A H → Slots X.K X.w C z A σ H → RpBs X.K X.w z σ H ds xs → f A (.str a) ds = some d → (∀ v H', Gv X.K X.w H H' d v → Q v H') → r (.str a) xs H Q)
    (hf : ∀ A d ds r, f A d ds = some r → okS A d = true) : MtN X C "str" r okS f where
  ty := fun z A σ H d x _ _ h o => by
    cases d <;> simp [okS] at o
    rw [h.str]; exact tyOk_str _ _
  act := fun z A σ H d0 ds d x xs Q r s h0 hs e q => by
    have o := hf _ _ _ _ e
    cases d0 <;> simp [okS] at o
    rw [h0.str]
    exact act z A σ H _ ds d xs Q r s hs e q
def fFind (_ : AH) : D → List D → Option D
  | .str a, [.str b] => some (.int (Txt.find a b))
  | _, _ => none
def fStarts (_ : AH) : D → List D → Option D
  | .str a, [.str b] => some (.bl (Txt.startswith a b))
  | _, _ => none
def fEnds (_ : AH) : D → List D → Option D
  | .str a, [.str b] => some (.bl (Txt.endswith a b))
  | _, _ => none
theorem m_find : MtN X C "str" (fun x xs H Q => ∃ a b, x = .str a ∧ xs = [.str b] ∧ Q (.int (Txt.find a b)) H) okS fFind :=
  mtn_str (fun z A σ H a ds d xs Q r s h e q => by
    unfold fFind at e
    split at e
    · cases e
      rename_i e1
      cases e1
      obtain ⟨v, rfl, hb⟩ := h.one
      exact ⟨_, _, rfl, by rw [hb.str], q _ H (.same (by rw [Rp]))⟩
    · cases e) fun A d ds r e => by
    unfold fFind at e
    split at e
    · rfl
    · cases e
theorem m_starts : MtN X C "str" (fun x xs H Q => ∃ a b, x = .str a ∧ xs = [.str b] ∧ Q (.bl (Txt.startswith a b)) H) okS fStarts :=
  mtn_str (fun z A σ H a ds d xs Q r s h e q => by
    unfold fStarts at e
    split at e
    · cases e
      rename_i e1
      cases e1
      obtain ⟨v, rfl, hb⟩ := h.one
      exact ⟨_, _, rfl, by rw [hb.str], q _ H (.same (by rw [Rp]))⟩
    · cases e) fun A d ds r e => by
    unfold fStarts at e
    split at e
    · rfl
    · cases e
end

/-! ### methods of lists that change them -/
def okL : Ob → Bool
  | .lst _ => true | _ => false
def gAppend : Ob → List D → Option (Ob × D)
  | .lst xs, [d] => if xs.length < sizeLine then some (.lst (xs ++ [d]), .non) else none
  | _, _ => none
def gExtend : Ob → List D → Option (Ob × D)
  | .lst xs, [.lst ys] => if xs.length + ys.length ≤ sizeLine then some (.lst (xs ++ ys), .non) else none
  | _, _ => none
def gPop : Ob → List D → Option (Ob × D)
  | .lst xs, [] => (xs[xs.length - 1]?).map fun d => (.lst xs.dropLast, d)
  | _, _ => none
def gPopAt : Ob → List D → Option (Ob × D)
  | .lst xs, [.int i] => if -(2 ^ 63) ≤ i ∧ i < 2 ^ 63 then (ixN xs.length i).bind fun k => (xs[k]?).map fun d => (.lst (xs.eraseIdx k), d) else none
  | _, _ => none
def gReverse : Ob → List D → Option (Ob × D)
  | .lst xs, [] => some (.lst xs.reverse, .non)
  | _, _ => none
def gClear : Ob → List D → Option (Ob × D)
  | .lst _, [] => some (.lst [], .non)
  | _, _ => none
section
variable {X : Cx} {C : Ct}
theorem tyOk_list {a : Addr} {xs : List V} {H : Hp} (h : SqL X.K H a xs) : TyOk X "list" (.ref a) H := fun pins σ s v I r => by
  cases r
  obtain ⟨its, _, pl, _⟩ := I.list h
  refine ⟨pl.isList.typeIs, fun a e => ?_⟩
  cases e
  obtain ⟨o, n, e, c, hd, _⟩ := pl
  exact ⟨o, e, hd⟩
theorem Rps.dropLast {K : PySem.W.Frag} {w : World} {H : Hp} {ds : List D} {vs : List V} (h : Rps K w H ds vs) : Rps K w H ds.dropLast vs.dropLast := by
  rw [List.dropLast_eq_take, List.dropLast_eq_take, h.length]
  exact h.take _
theorem mtc_ty {H : Hp} {a : Addr} {ob : Ob} (h : RpO X.K X.w H a ob) (o : okL ob = true) : TyOk X "list" (.ref a) H := by
  cases ob with
  | lst ds => obtain ⟨xs, h1, _⟩ := h; exact tyOk_list (.of h1)
  | _ => simp [okL] at o
theorem m_append : MtC X "list" rAppend okL gAppend where
  ty := fun H a ob h o => mtc_ty h o
  act := fun H a ob ob' ds d xs Q h hs e q => by
    unfold gAppend at e
    split at e
    · split at e
      · rename_i hl
        cases e
        obtain ⟨vs, h1, h2⟩ := h
        rw [Rps] at hs
        obtain ⟨x, r, rfl, hx, hr⟩ := hs
        rw [Rps] at hr
        subst hr
        have pe := pers_upd (u := .lst (vs ++ [x])) h1 chg_lst
        exact ⟨a, vs, x, rfl, rfl, h1, by rw [h2.length]; exact hl, q _ _ ⟨_, upd_same, (h2.pers pe).append (Rps.one (hx.pers pe))⟩ (by rw [Rp])⟩
      · cases e
    · cases e
theorem m_extend : MtC X "list" (rExtendR X.K) okL gExtend where
  ty := fun H a ob h o => mtc_ty h o
  act := fun H a ob ob' ds d xs Q h hs e q => by
    unfold gExtend at e
    split at e
    · split at e
      · rename_i hl
        cases e
        obtain ⟨vs, h1, h2⟩ := h
        rw [Rps] at hs
        obtain ⟨x, r, rfl, hx, hr⟩ := hs
        rw [Rps] at hr
        subst hr
        rw [Rp] at hx
        obtain ⟨b, ws, rfl, hb, h3⟩ := hx
        have pe := pers_upd (u := .lst (vs ++ ws)) h1 chg_lst
        exact ⟨a, b, vs, ws, rfl, rfl, h1, SqF.sql hb, by rw [h2.length, h3.length]; exact hl, q _ _ ⟨_, upd_same, (h2.pers pe).append (h3.pers pe)⟩ (by rw [Rp])⟩
      · cases e
    · cases e
theorem m_pop : MtC X "list" rPop okL gPop where
  ty := fun H a ob h o => mtc_ty h o
  act := fun H a ob ob' ds d xs Q h hs e q => by
    unfold gPop at e
    split at e
    · rename_i ys
      obtain ⟨vs, h1, h2⟩ := h
      rw [Rps] at hs
      subst hs
      cases hg : ys[ys.length - 1]? with
      | none => rw [hg] at e; cases e
      | some y =>
        rw [hg] at e; cases e
        obtain ⟨v, hv, rv⟩ := h2.get hg
        have pe := pers_upd (u := .lst vs.dropLast) h1 chg_lst
        exact ⟨a, vs, v, rfl, rfl, h1, by rw [h2.length]; exact hv, q _ _ ⟨_, upd_same, Rps.dropLast (h2.pers pe)⟩ (rv.pers pe)⟩
    · cases e
theorem m_reverse : MtC X "list" rReverse okL gReverse where
  ty := fun H a ob h o => mtc_ty h o
  act := fun H a ob ob' ds d xs Q h hs e q => by
    unfold gReverse at e
    split at e
    · obtain ⟨vs, h1, h2⟩ := h
      rw [Rps] at hs
      subst hs
      cases e
      exact ⟨a, vs, rfl, rfl, h1, q _ _ ⟨_, upd_same, (h2.pers (pers_upd h1 chg_lst)).reverse⟩ (by rw [Rp])⟩
    · cases e
theorem m_clear : MtC X "list" rClear okL gClear where
  ty := fun H a ob h o => mtc_ty h o
  act := fun H a ob ob' ds d xs Q h hs e q => by
    unfold gClear at e
    split at e
    · obtain ⟨vs, h1, h2⟩ := h
      rw [Rps] at hs
      subst hs
      cases e
      exact ⟨a, vs, rfl, rfl, h1, q _ _ ⟨_, upd_same, Rps.nil⟩ (by rw [Rp])⟩
    · cases e
/-- xs[i] = v -/
def gSet : Ob → D → D → Option Ob
  | .lst xs, .int i, d => (ixN xs.length i).map fun k => .lst (xs.set k d)
  | _, _, _ => none
theorem s_set : SetC X rSetL gSet := fun H a ob ob' k v x y Q h hk hv e q => by
  unfold gSet at e
  split at e
  · rename_i xs i
    obtain ⟨vs, h1, h2⟩ := h
    cases hj : ixN xs.length i with
    | none => rw [hj] at e; cases e
    | some j =>
      rw [hj] at e; cases e
      rw [Rp] at hk
      have pe := pers_upd (u := .lst (vs.set j y)) h1 chg_lst
      exact ⟨a, vs, i, j, rfl, hk, h1, by rw [h2.length]; exact hj, q _ ⟨_, upd_same, (h2.pers pe).set j (hv.pers pe)⟩⟩
  · cases e
end
end T3
set_option autoImplicit false
namespace T3
open PySem PySem.Spec PyProof.Rows L2

/-! ### a def that the module holds -/
def Def3 (P : Program) (w : World) (K : PySem.W.Frag) (mg : Str → Option Value) (base : Heap) (x : Str) (k : Nat) (ps : List Str) (sp : Sp3) : Prop :=
  ∃ (f : Addr) (fd : FuncData), FnOk P w K mg base CX0 k f fd ps (lsp K w sp) ∧ mg x = some (.ref f) ∧ PySem.W.keepIn K (.ref f) = true ∧ L2.Binds K fd ps []
section
variable {X : Cx} {C : Ct} {k : Nat} {ps : List Str} {sp : Sp3} {x : Str} {p pos : Pos} {e : Expr} {es : List Expr} {t : TA3}
theorem pe3_def (G : Def3 X.prog X.w X.K X.mg X.base x k ps sp) (hr : Room k X.A) (hg : Gl X x) (ha : PA3 X C (e :: es) t) (hdb : (x == ("__debug__" : Str)) = false := by decide)
    (he : starEach (e :: es) X.env = (false, eval e X.env) :: starEach es X.env := by rfl) (hpl : (backTo pos (starEach es X.env)).any (·.1) = false := by rfl) : PE3 X C (.Call (.Name x p) (e :: es) [] pos) (eCall sp [] t) := by
  obtain ⟨f, fd, F, hm, hk, hb⟩ := G
  exact pe3_call (dvs := []) F hr hg hm hk hb .nil (fun _ => Rps.nil) ha hdb he hpl
theorem pe3_def0 (G : Def3 X.prog X.w X.K X.mg X.base x k ps sp) (hr : Room k X.A) (hg : Gl X x) (hdb : (x == ("__debug__" : Str)) = false := by decide) : PE3 X C (.Call (.Name x p) [] [] pos) (eCall sp [] aNil) := by
  obtain ⟨f, fd, F, hm, hk, hb⟩ := G
  exact pe3_call0 F hr hg hm hk hb hdb
theorem pe3_gsE {y : Str} (hg : Gl X x) (hm : ∃ t, X.mg x = some (.str y t)) (hd : (x == ("__debug__" : Str)) = false := by decide) : PE3 X C (.Name x pos) (eC (.str y)) := by
  obtain ⟨t, hm⟩ := hm
  exact pe3_gs hg hm hd
theorem pe3_giE {i : Int} (hg : Gl X x) (hm : ∃ t, X.mg x = some (.int i t)) (hd : (x == ("__debug__" : Str)) = false := by decide) : PE3 X C (.Name x pos) (eC (.int i)) := by
  obtain ⟨t, hm⟩ := hm
  exact pe3_gi hg hm hd
end

/-! ### the law's own call -/
def script (ns : List Int) : D := .lst (ns.map .int)
theorem Rps.ints {K : PySem.W.Frag} {w : World} {H : Hp} : ∀ ns : List Int, Rps K w H (ns.map .int) (ns.map V.int)
  | [] => Rps.nil
  | n :: ns => Rps.cons (by rw [Rp]) (Rps.ints ns)
theorem law_sp {K : PySem.W.Frag} {w : World} {sp : Sp3} {H : Hp} {a : Addr} {ns : List Int}
    (h : ∀ Q : D → AH → Prop, (∀ A, Q (.bl true) A) → sp [script ns] (fun _ => none) Q fun _ _ _ => False) (hO : Only H) (hS : SqL K H a (ns.map V.int)) : lsp K w sp [.ref a] H (fun v _ => v = .bl true) fun _ _ _ => False := by
  have hF : SqF K H a (ns.map V.int) := by
    rcases hS with (q | ⟨o, q⟩) | q
    · rcases hO a with n | ⟨o, xs, n⟩ <;> (rw [n] at q; cases q)
    · exact .inl ⟨o, q⟩
    · exact .inr q
  refine ⟨[script ns], fun _ => none, fun d _ => d = .bl true, Rps.one ?_, (fun _ _ e => nomatch e), h _ fun _ => rfl, fun d A' v H' e _ rv _ => ?_⟩
  · unfold script
    rw [Rp]
    exact ⟨a, _, rfl, hF, Rps.ints ns⟩
  · subst e
    exact rv

/-! ### is True, is False -/
def fIsB (_ : AH) : D → D → Option D
  | .bl a, .bl b => some (.bl (decide (a = b)))
  | _, _ => none
def fNotB (_ : AH) : D → D → Option D
  | .bl a, .bl b => some (.bl (!decide (a = b)))
  | _, _ => none
section
variable {X : Cx} {C : Ct}
theorem o_isB : Op2 X C (fun x y H Q => ∃ a b, x = .bl a ∧ y = .bl b ∧ Q (.bl (decide (a = b))) H) fIsB := fun z A σ H d1 d2 d x y Q r s h1 h2 e q => by
  unfold fIsB at e
  split at e
  · cases e
    exact ⟨_, _, h1.bl, h2.bl, q _ H (.same (by rw [Rp]))⟩
  · cases e
theorem o_notB : Op2 X C (fun x y H Q => ∃ a b, x = .bl a ∧ y = .bl b ∧ Q (.bl (!decide (a = b))) H) fNotB := fun z A σ H d1 d2 d x y Q r s h1 h2 e q => by
  unfold fNotB at e
  split at e
  · cases e
    exact ⟨_, _, h1.bl, h2.bl, q _ H (.same (by rw [Rp]))⟩
  · cases e
end
end T3
set_option autoImplicit false
namespace T3
open PySem PySem.Spec PyProof.Rows L2

/-! ### the readings, to be worked out by simp -/
section
variable (z : S3) (A : AH) (Q : D → AH → Prop) (E : Ends3)
@[simp] theorem ap_eV (i : Nat) : eV i z A Q = ∃ d, z[i]? = some (some d) ∧ own d = false ∧ Q d A := rfl
@[simp] theorem ap_eB (i : Nat) : eB i z A Q = ∃ d, z[i]? = some (some d) ∧ Q (frz d) A := rfl
@[simp] theorem ap_eC (d : D) : eC d z A Q = Q d A := rfl
@[simp] theorem ap_fz (t : TE3) : fz t z A Q = t z A (fun d A' => Q (frz d) A') := rfl
@[simp] theorem ap_aNil (Q : List D → AH → Prop) : aNil z A Q = Q [] A := rfl
@[simp] theorem ap_aCons (t : TE3) (u : TA3) (Q : List D → AH → Prop) : aCons t u z A Q = t z A (fun d A1 => u z A1 fun ds A2 => Q (d :: ds) A2) := rfl
@[simp] theorem ap_eTup (t : TA3) : eTup t z A Q = t z A (fun ds A' => ds.length ≤ sizeLine ∧ Q (.tup ds) A') := rfl
@[simp] theorem ap_eLst (t : TA3) : eLst t z A Q = t z A (fun ds A' => ds.length ≤ sizeLine ∧ Q (.ml ds) A') := rfl
@[simp] theorem ap_e2 (f : AH → D → D → Option D) (ta tb : TE3) : e2 f ta tb z A Q = ta z A (fun d1 A1 => tb z A1 fun d2 A2 => ∃ d, f A2 d1 d2 = some d ∧ Q d A2) := rfl
@[simp] theorem ap_e1 (f : AH → D → Option D) (ta : TE3) : e1 f ta z A Q = ta z A (fun d1 A1 => ∃ d, f A1 d1 = some d ∧ Q d A1) := rfl
@[simp] theorem ap_eN (f : AH → List D → Option D) (ta : TA3) : eN f ta z A Q = ta z A (fun ds A1 => ∃ d, f A1 ds = some d ∧ Q d A1) := rfl
@[simp] theorem ap_e3 (f g : AH → D → D → Option D) (ta tb tc : TE3) : e3 f g ta tb tc z A Q = ta z A (fun d1 A1 => tb z A1 fun d2 A2 => ∃ b, f A2 d1 d2 = some (.bl b) ∧ if b = true then tc z A2 fun d3 A3 => ∃ d, g A3 d2 d3 = some d ∧ Q d A3 else Q (.bl false) A2) := rfl
@[simp] theorem ap_eM (ok : AH → D → Bool) (f : AH → D → List D → Option D) (to : TE3) (ta : TA3) : eM ok f to ta z A Q = to z A (fun d0 A1 => ok A1 d0 = true ∧ ta z A1 fun ds A2 => ∃ d, f A2 d0 ds = some d ∧ Q d A2) := rfl
@[simp] theorem ap_eSl (te : TE3) (tl th : TO3) : eSl te tl th z A Q = te z A (fun d A1 => tl z A1 fun lo A2 => th z A2 fun hi A3 => ∃ r, fSl A3 d lo hi = some r ∧ Q r A3) := rfl
@[simp] theorem ap_oNo (Q : Option Int → AH → Prop) : oNo z A Q = Q none A := rfl
@[simp] theorem ap_oAt (t : TE3) (Q : Option Int → AH → Prop) : oAt t z A Q = t z A (fun d A' => ∃ i, d = .int i ∧ Q (some i) A') := rfl
@[simp] theorem ap_tV (t : TE3) (Q : Bool → AH → Prop) : tV t z A Q = t z A (fun d A' => ∃ b, d = .bl b ∧ Q b A') := rfl
@[simp] theorem ap_tNot (t : TT3) (Q : Bool → AH → Prop) : tNot3 t z A Q = t z A (fun b A' => Q (!b) A') := rfl
@[simp] theorem ap_tAnd (t u : TT3) (Q : Bool → AH → Prop) : tAnd3 t u z A Q = t z A (fun b A' => if b = true then u z A' Q else Q false A') := rfl
@[simp] theorem ap_tOr (t u : TT3) (Q : Bool → AH → Prop) : tOr3 t u z A Q = t z A (fun b A' => if b = true then Q true A' else u z A' Q) := rfl
@[simp] theorem ap_tYes (Q : Bool → AH → Prop) : tYes3 z A Q = Q true A := rfl
@[simp] theorem ap_eAnd (t u : TE3) : eAnd t u z A Q = t z A (fun d A' => ∃ b, d = .bl b ∧ if b = true then u z A' Q else Q (.bl false) A') := rfl
@[simp] theorem ap_eOr (t u : TE3) : eOr t u z A Q = t z A (fun d A' => ∃ b, d = .bl b ∧ if b = true then Q (.bl true) A' else u z A' Q) := rfl
@[simp] theorem ap_eNot (t : TE3) : eNot t z A Q = t z A (fun d A' => ∃ b, d = .bl b ∧ Q (.bl (!b)) A') := rfl
@[simp] theorem ap_eCall (sp : Sp3) (dfl : List D) (t : TA3) : eCall sp dfl t z A Q = t z A (fun ds A' => sp (ds ++ dfl) A' Q (fun _ _ _ => False)) := rfl
@[simp] theorem ap_eSh (t : TE3) : eSh t z A Q = t z A (fun d A' => ∃ ob, obOf d = some ob ∧ ∀ a, A' a = none → Q (.ref a) (put A' a ob)) := rfl
@[simp] theorem ap_sNil : sNil E z A = E.nx z A := rfl
@[simp] theorem ap_sSeq (t u : TS3) : sSeq t u E z A = t { E with nx := u E } z A := rfl
@[simp] theorem ap_sBreak : sBreak E z A = E.bk z A := rfl
@[simp] theorem ap_sCont : sCont E z A = E.ct z A := rfl
@[simp] theorem ap_sDrop (t : TE3) : sDrop t E z A = t z A (fun _ A' => E.nx z A') := rfl
@[simp] theorem ap_sRet (t : TE3) : sRet t E z A = t z A E.rt := rfl
@[simp] theorem ap_sRetV (i : Nat) : sRetV i E z A = ∃ d, z[i]? = some (some d) ∧ E.rt d A := rfl
@[simp] theorem ap_sRetN : sRetN E z A = E.rt .non A := rfl
@[simp] theorem ap_sIf (c : TT3) (t u : TS3) : sIf c t u E z A = c z A (fun b A' => if b = true then t E z A' else u E z A') := rfl
@[simp] theorem ap_sSet (i : Nat) (t : TE3) : sSet i t E z A = t z A (fun d A' => E.nx (z.set i (some d)) A') := rfl
@[simp] theorem ap_sSetR (i : Nat) (t : TE3) : sSetR i t E z A = t z A (fun d A' => shareD z i d A' E.nx) := rfl
@[simp] theorem share_ml (i : Nat) (xs : List D) (k : S3 → AH → Prop) : shareD z i (.ml xs) A k = ∀ a, A a = none → k (z.set i (some (.ref a))) (put A a (.lst xs)) := rfl
@[simp] theorem share_md (i : Nat) (xs : List (D × D)) (k : S3 → AH → Prop) : shareD z i (.md xs) A k = ∀ a, A a = none → k (z.set i (some (.ref a))) (put A a (.dct xs)) := rfl
@[simp] theorem share_bl (i : Nat) (b : Bool) (k : S3 → AH → Prop) : shareD z i (.bl b) A k = k (z.set i (some (.bl b))) A := rfl
@[simp] theorem held_nil : Held A [] = True := eq_true fun _ h => nomatch h
@[simp] theorem held_one (a : Addr) (xs : List D) : Held A [(a, xs)] = (A a = some (.lst xs)) := by simp [Held]
@[simp] theorem ap_sFz (i : Nat) (t : TS3) : sFz i t E z A = ∃ d, z[i]? = some (some d) ∧ t E (z.set i (some (frz d))) A := rfl
@[simp] theorem ap_sFor (t : TI3) (p : Pat) (tb : TS3) : sFor t p tb E z A = t z A (fun items ws A' => forW p tb E ws items z A') := rfl
@[simp] theorem ap_forNil (p : Pat) (tb : TS3) (ws : Ws) : forW p tb E ws [] z A = (Held A ws ∧ E.nx z A) := rfl
@[simp] theorem ap_iS (t : TE3) (Q : List D → Ws → AH → Prop) : iS t z A Q = t z A (fun d A' => withItems (itemsW A' (frz d)) fun xs ws => Q xs ws A') := rfl
@[simp] theorem with_some (xs : List D) (ws : Ws) (k : List D → Ws → Prop) : withItems (some (xs, ws)) k = k xs ws := rfl
@[simp] theorem ap_iR1 (t : TA3) (Q : List D → Ws → AH → Prop) : iR1 t z A Q = t z A (fun ds A' => ∃ j, ds = [.int j] ∧ small62 j ∧ Q (rng 0 j.toNat) [] A') := rfl
@[simp] theorem ap_iR2 (t : TA3) (Q : List D → Ws → AH → Prop) : iR2 t z A Q = t z A (fun ds A' => ∃ i j, ds = [.int i, .int j] ∧ small62 i ∧ small62 j ∧ Q (rng i (j - i).toNat) [] A') := rfl
@[simp] theorem ap_sAsgP (p : Pat) (t : TE3) : sAsgP p t E z A = t z A (fun d A' => ∃ z', setP p (frz d) z = some z' ∧ E.nx z' A') := rfl
@[simp] theorem ap_sM (i : Nat) (ok : Ob → Bool) (g : Ob → List D → Option (Ob × D)) (ta : TA3) (k : D → TS3) : sM i ok g ta k E z A = ∃ d0 ob, z[i]? = some (some d0) ∧ obOf d0 = some ob ∧ ok ob = true ∧ ta z A fun ds A2 => ∃ ob' d, g ob ds = some (ob', d) ∧ obOf (dOf ob') = some ob' ∧ k d E (z.set i (some (dOf ob'))) A2 := rfl
@[simp] theorem ap_kDrop (d : D) : kDrop d E z A = E.nx z A := rfl
@[simp] theorem ap_eMR (ok : Ob → Bool) (g : Ob → List D → Option (Ob × D)) (to : TE3) (ta : TA3) : eMR ok g to ta z A Q = to z A (fun d0 A1 => ∃ a ob, d0 = .ref a ∧ A1 a = some ob ∧ ok ob = true ∧ ta z A1 fun ds A2 => ∃ ob1 ob' d, A2 a = some ob1 ∧ g ob1 ds = some (ob', d) ∧ Q d (put A2 a ob')) := rfl
@[simp] theorem ap_sPut (i : Nat) (g : Ob → D → D → Option Ob) (tk tv : TE3) : sPut i g tk tv E z A = ((∃ d, z[i]? = some (some d)) ∧ tv z A fun v A1 => tk z A1 fun k A2 => ∃ d0 ob ob', z[i]? = some (some d0) ∧ obOf d0 = some ob ∧ g ob (frz k) (frz v) = some ob' ∧ obOf (dOf ob') = some ob' ∧ E.nx (z.set i (some (dOf ob'))) A2) := rfl
@[simp] theorem ap_sPutR (g : Ob → D → D → Option Ob) (to tk tv : TE3) : sPutR g to tk tv E z A = tv z A (fun v A1 => to z A1 fun d0 A2 => tk z A2 fun k A3 => ∃ a ob ob', frz d0 = .ref a ∧ A3 a = some ob ∧ g ob (frz k) (frz v) = some ob' ∧ E.nx z (put A3 a ob')) := rfl
@[simp] theorem ap_eLc (t : TI3) (p : Pat) (tt : TT3) (te : TE3) (vs : List Nat) : eLc t p tt te vs z A Q = ((∀ i ∈ vs, ∀ d, z[i]? = some (some d) → own d = false) ∧ t z A fun items ws A' => lcW p tt te (wipe3 z vs) ws items [] A' Q) := rfl
@[simp] theorem ap_nm (i : Nat) (d : D) : setP (.nm i) d z = some (z.set i (some d)) := rfl
theorem ap_tp (is : List Nat) (ds : List D) : setP (.tp is) (.tup ds) z = if ds.length = is.length then some (setAll z is ds) else none := rfl
@[simp] theorem ap_set0 (ds : List D) : setAll z [] ds = z := by cases ds <;> rfl
@[simp] theorem ap_setS (i : Nat) (is : List Nat) (d : D) (ds : List D) : setAll z (i :: is) (d :: ds) = setAll (z.set i (some d)) is ds := rfl
@[simp] theorem ap_wipe0 : wipe3 z [] = z := rfl
@[simp] theorem ap_wipeS (v : Nat) (vs : List Nat) : wipe3 z (v :: vs) = (wipe3 z vs).set v none := rfl
theorem for_cons (p : Pat) (tb : TS3) (ws : Ws) (x : D) (xs : List D) : forW p tb E ws (x :: xs) z A = (Held A ws ∧ ∃ z', setP p x z = some z' ∧ tb { E with nx := forW p tb E ws xs, ct := forW p tb E ws xs, bk := E.nx } z' A) := rfl
end
@[simp] theorem frz_non : frz .non = .non := rfl
@[simp] theorem frz_bl (b : Bool) : frz (.bl b) = .bl b := rfl
@[simp] theorem frz_int (b : Int) : frz (.int b) = .int b := rfl
@[simp] theorem frz_str (b : Str) : frz (.str b) = .str b := rfl
@[simp] theorem frz_tup (b : List D) : frz (.tup b) = .tup b := rfl
@[simp] theorem frz_lst (b : List D) : frz (.lst b) = .lst b := rfl
@[simp] theorem frz_dct (b : List (D × D)) : frz (.dct b) = .dct b := rfl
@[simp] theorem frz_ref (b : Addr) : frz (.ref b) = .ref b := rfl
@[simp] theorem frz_ml (b : List D) : frz (.ml b) = .lst b := rfl
@[simp] theorem frz_md (b : List (D × D)) : frz (.md b) = .dct b := rfl
@[simp] theorem own_non : own .non = false := rfl
@[simp] theorem own_bl (b : Bool) : own (.bl b) = false := rfl
@[simp] theorem own_int (b : Int) : own (.int b) = false := rfl
@[simp] theorem own_str (b : Str) : own (.str b) = false := rfl
@[simp] theorem own_tup (b : List D) : own (.tup b) = false := rfl
@[simp] theorem own_lst (b : List D) : own (.lst b) = false := rfl
@[simp] theorem own_dct (b : List (D × D)) : own (.dct b) = false := rfl
@[simp] theorem own_ref (b : Addr) : own (.ref b) = false := rfl
@[simp] theorem own_ml (b : List D) : own (.ml b) = true := rfl
@[simp] theorem own_md (b : List (D × D)) : own (.md b) = true := rfl
@[simp] theorem ob_ml (b : List D) : obOf (.ml b) = some (.lst b) := rfl
@[simp] theorem ob_md (b : List (D × D)) : obOf (.md b) = some (.dct b) := rfl
@[simp] theorem d_lst (b : List D) : dOf (.lst b) = .ml b := rfl
@[simp] theorem d_dct (b : List (D × D)) : dOf (.dct b) = .md b := rfl
section
variable (A : AH)
@[simp] theorem vw_non : vw A .non = .non := rfl
@[simp] theorem vw_bl' (b : Bool) : vw A (.bl b) = .bl b := rfl
@[simp] theorem vw_int' (b : Int) : vw A (.int b) = .int b := rfl
@[simp] theorem vw_str' (b : Str) : vw A (.str b) = .str b := rfl
@[simp] theorem vw_tup (b : List D) : vw A (.tup b) = .tup b := rfl
@[simp] theorem vw_lst (b : List D) : vw A (.lst b) = .lst b := rfl
@[simp] theorem vw_dct (b : List (D × D)) : vw A (.dct b) = .dct b := rfl
@[simp] theorem items_lst (b : List D) : itemsOf (.lst b) = some b := rfl
@[simp] theorem items_tup (b : List D) : itemsOf (.tup b) = some b := rfl
@[simp] theorem items_str (b : Str) : itemsOf (.str b) = some (signs b) := rfl
@[simp] theorem itemsW_lst (b : List D) : itemsW A (.lst b) = some (b, []) := rfl
@[simp] theorem itemsW_tup (b : List D) : itemsW A (.tup b) = some (b, []) := rfl
@[simp] theorem itemsW_str (b : Str) : itemsW A (.str b) = some (signs b, []) := rfl
theorem itemsW_ref {a : Addr} {b : List D} (h : A a = some (.lst b)) : itemsW A (.ref a) = some (b, [(a, b)]) := by simp [itemsW, h]
@[simp] theorem ok_str (b : Str) : okS A (.str b) = true := rfl
@[simp] theorem ok_lst (b : List D) : okL (.lst b) = true := rfl
theorem frz_of_own {d : D} (h : own d = false) : frz d = d := frz_of h

/-! ### operations at known shapes -/
@[simp] theorem okLt_int (a b : Int) : okLt (.int a) (.int b) = true := by simp [okLt, pok, pd, PySem.W.alike, dep]
@[simp] theorem okLt_str (a b : Str) : okLt (.str a) (.str b) = true := by simp [okLt, pok, pd, PySem.W.alike, dep]
@[simp] theorem ltD_int (a b : Int) : ltD (.int a) (.int b) = decide (a < b) := by
  unfold ltD
  rw [pd, pd]
  exact PySem.W.dataLt_int a b
@[simp] theorem fLt_int (a b : Int) : fLt A (.int a) (.int b) = some (.bl (decide (a < b))) := by simp [fLt]
@[simp] theorem fGt_int (a b : Int) : fGt A (.int a) (.int b) = some (.bl (decide (b < a))) := by simp [fGt]
@[simp] theorem fLe_int (a b : Int) : fLe A (.int a) (.int b) = some (.bl (decide (a ≤ b))) := by
  have h : a ≤ b ↔ ¬ b < a := by omega
  simp only [fLe, okLt_int, ltD_int, if_true, h, decide_not]
@[simp] theorem fGe_int (a b : Int) : fGe A (.int a) (.int b) = some (.bl (decide (b ≤ a))) := by
  have h : b ≤ a ↔ ¬ a < b := by omega
  simp only [fGe, okLt_int, ltD_int, if_true, h, decide_not]
@[simp] theorem fSub_int (a b : Int) : fSub A (.int a) (.int b) = some (.int (a - b)) := rfl
@[simp] theorem fAdd_int (a b : Int) : fAdd A (.int a) (.int b) = some (.int (a + b)) := rfl
@[simp] theorem fNeg_int (a : Int) : fNeg A (.int a) = some (.int (-a)) := rfl
@[simp] theorem fAdd_str (a b : Str) : fAdd A (.str a) (.str b) = if lim (a.length + b.length) then some (.str (a ++ b)) else none := rfl
@[simp] theorem fAdd_lst (a b : List D) : fAdd A (.lst a) (.lst b) = if lim (a.length + b.length) then some (.ml (a ++ b)) else none := rfl
@[simp] theorem fAdd_tup (a b : List D) : fAdd A (.tup a) (.tup b) = if lim (a.length + b.length) then some (.tup (a ++ b)) else none := rfl
theorem fMul_int (a b : Int) : fMul A (.int a) (.int b) = if big64 a || big64 b then some (.int (a * b)) else none := rfl
@[simp] theorem fMod_int (a b : Int) : fMod A (.int a) (.int b) = if 0 < b then some (.int (a % b)) else none := rfl
@[simp] theorem fFdiv_int (a b : Int) : fFdiv A (.int a) (.int b) = if 0 < b ∧ b < 2 ^ 64 then some (.int (a / b)) else none := rfl
@[simp] theorem fLen_lst (a : List D) : fLen A [.lst a] = some (.int a.length) := rfl
@[simp] theorem fLen_tup (a : List D) : fLen A [.tup a] = some (.int a.length) := rfl
@[simp] theorem fLen_str (a : Str) : fLen A [.str a] = if lim a.length then some (.int a.length) else none := rfl
@[simp] theorem fList_lst (a : List D) : fList A [.lst a] = some (.ml a) := rfl
@[simp] theorem fList_tup (a : List D) : fList A [.tup a] = some (.ml a) := rfl
@[simp] theorem fTuple_lst (a : List D) : fTuple A [.lst a] = some (.tup a) := rfl
@[simp] theorem fTuple_tup (a : List D) : fTuple A [.tup a] = some (.tup a) := rfl
@[simp] theorem fAll_lst (a : List D) : fAll A [.lst a] = (bls a).map fun bs => .bl (bs.all id) := rfl
@[simp] theorem fAny_lst (a : List D) : fAny A [.lst a] = (bls a).map fun bs => .bl (bs.any id) := rfl
@[simp] theorem fIx_lst (a : List D) (i : Int) : fIx A (.lst a) (.int i) = L2.atI a i := rfl
@[simp] theorem fIx_tup (a : List D) (i : Int) : fIx A (.tup a) (.int i) = L2.atI a i := rfl
@[simp] theorem fIx_str (a : Str) (i : Int) : fIx A (.str a) (.int i) = if lim a.length then (L2.atI a.cps.toList i).map fun c => .str ⟨#[c]⟩ else none := rfl
@[simp] theorem fSl_lst (a : List D) (lo hi : Option Int) : fSl A (.lst a) lo hi = some (.ml (cutD a lo hi)) := rfl
@[simp] theorem fSl_tup (a : List D) (lo hi : Option Int) : fSl A (.tup a) lo hi = some (.tup (cutD a lo hi)) := rfl
@[simp] theorem fSl_str (a : Str) (lo hi : Option Int) : fSl A (.str a) lo hi = if lim a.length then some (.str (cutS a lo hi)) else none := rfl
@[simp] theorem fFind_str (a b : Str) : fFind A (.str a) [.str b] = some (.int (Txt.find a b)) := rfl
@[simp] theorem fStarts_str (a b : Str) : fStarts A (.str a) [.str b] = some (.bl (Txt.startswith a b)) := rfl
@[simp] theorem fIsN_non (a : D) : fIsN A a .non = some (.bl (decide (a = .non))) := rfl
@[simp] theorem fNotN_non (a : D) : fNotN A a .non = some (.bl (!decide (a = .non))) := rfl
@[simp] theorem bls_map {α : Type} (f : α → Bool) : ∀ xs : List α, bls (xs.map fun x => D.bl (f x)) = some (xs.map f)
  | [] => rfl
  | x :: xs => by simp [bls, bls_map f xs]
@[simp] theorem bls_comp {α : Type} (f : α → Bool) (xs : List α) : bls (xs.map (D.bl ∘ f)) = some (xs.map f) := bls_map f xs
@[simp] theorem fIsB_bl (a b : Bool) : fIsB A (.bl a) (.bl b) = some (.bl (decide (a = b))) := rfl
@[simp] theorem fNotB_bl (a b : Bool) : fNotB A (.bl a) (.bl b) = some (.bl (!decide (a = b))) := rfl
@[simp] theorem isT_self (t : String) : isT t t = true := by simp [isT]
end

/-! ### == at known shapes -/
mutual
theorem eqv_refl : ∀ a : D, pok a = true → PyData.eqv (pd a) (pd a) = true
  | .non, _ => by simp [pd, PyData.eqv]
  | .bl _, _ => by simp [pd, PyData.eqv]
  | .int _, _ => by simp [pd, PyData.eqv]
  | .str _, _ => by simp [pd, PyData.eqv]
  | .tup xs, h => by rw [pd, PyData.eqv]; exact eqvs_refl xs (by rwa [pok] at h)
  | .lst xs, h => by rw [pd, PyData.eqv]; exact eqvs_refl xs (by rwa [pok] at h)
  | .dct _, h => by simp [pok] at h
  | .ref _, h => by simp [pok] at h
  | .ml _, h => by simp [pok] at h
  | .md _, h => by simp [pok] at h
theorem eqvs_refl : ∀ a : List D, poks a = true → PyData.eqvAll (pds a) (pds a) = true
  | [], _ => by simp [pds, PyData.eqvAll]
  | x :: xs, h => by
    simp only [poks, Bool.and_eq_true] at h
    rw [pds, PyData.eqvAll, eqv_refl x h.1, eqvs_refl xs h.2]; rfl
end
mutual
/-- no truths within -/
def nb : D → Bool
  | .non => true | .int _ => true | .str _ => true | .tup xs => nbs xs | .lst xs => nbs xs | _ => false
def nbs : List D → Bool
  | [] => true
  | x :: xs => nb x && nbs xs
end
mutual
theorem nb_pok : ∀ a : D, nb a = true → pok a = true
  | .non, _ => rfl
  | .int _, _ => rfl
  | .str _, _ => rfl
  | .tup xs, h => by rw [pok]; exact nbs_poks xs (by rwa [nb] at h)
  | .lst xs, h => by rw [pok]; exact nbs_poks xs (by rwa [nb] at h)
  | .bl _, h => by simp [nb] at h
  | .dct _, h => by simp [nb] at h
  | .ref _, h => by simp [nb] at h
  | .ml _, h => by simp [nb] at h
  | .md _, h => by simp [nb] at h
theorem nbs_poks : ∀ a : List D, nbs a = true → poks a = true
  | [], _ => rfl
  | x :: xs, h => by
    simp only [nbs, Bool.and_eq_true] at h
    rw [poks, nb_pok x h.1, nbs_poks xs h.2]; rfl
end
mutual
theorem eqv_eq : ∀ a b : D, nb a = true → nb b = true → PyData.eqv (pd a) (pd b) = true → a = b
  | .non, b, _, hb, h => by cases b <;> simp_all [pd, PyData.eqv, nb]
  | .int _, b, _, hb, h => by cases b <;> simp_all [pd, PyData.eqv, nb]
  | .str _, b, _, hb, h => by cases b <;> simp_all [pd, PyData.eqv, nb]
  | .tup xs, b, ha, hb, h => by
    cases b with
    | tup ys =>
      rw [nb] at ha hb
      rw [pd, pd, PyData.eqv] at h
      rw [eqvs_eq xs ys ha hb h]
    | _ => simp_all [pd, PyData.eqv, nb]
  | .lst xs, b, ha, hb, h => by
    cases b with
    | lst ys =>
      rw [nb] at ha hb
      rw [pd, pd, PyData.eqv] at h
      rw [eqvs_eq xs ys ha hb h]
    | _ => simp_all [pd, PyData.eqv, nb]
  | .bl _, _, ha, _, _ => by simp [nb] at ha
  | .dct _, _, ha, _, _ => by simp [nb] at ha
  | .ref _, _, ha, _, _ => by simp [nb] at ha
  | .ml _, _, ha, _, _ => by simp [nb] at ha
  | .md _, _, ha, _, _ => by simp [nb] at ha
theorem eqvs_eq : ∀ a b : List D, nbs a = true → nbs b = true → PyData.eqvAll (pds a) (pds b) = true → a = b
  | [], [], _, _, _ => rfl
  | [], _ :: _, _, _, h => by simp [pds, PyData.eqvAll] at h
  | _ :: _, [], _, _, h => by simp [pds, PyData.eqvAll] at h
  | x :: xs, y :: ys, ha, hb, h => by
    simp only [nbs, Bool.and_eq_true] at ha hb
    simp only [pds, PyData.eqvAll, Bool.and_eq_true] at h
    rw [eqv_eq x y ha.1 hb.1 h.1, eqvs_eq xs ys ha.2 hb.2 h.2]
end
/-- data without truths: equal just when the same -/
theorem eqD_nb {a b : D} (ha : nb a = true) (hb : nb b = true) : eqD a b = decide (a = b) := by
  unfold eqD
  by_cases h : a = b
  · subst h; rw [eqv_refl a (nb_pok a ha)]; simp
  · cases e : PyData.eqv (pd a) (pd b) with
    | true => exact absurd (eqv_eq a b ha hb e) h
    | false => simp [h]
@[simp] theorem eqD_bl (a b : Bool) : eqD (.bl a) (.bl b) = (a == b) := by simp [eqD, pd, PyData.eqv]
@[simp] theorem eqD_int (a b : Int) : eqD (.int a) (.int b) = decide (a = b) := by rw [eqD_nb rfl rfl]; simp
@[simp] theorem eqD_str (a b : Str) : eqD (.str a) (.str b) = decide (a = b) := by rw [eqD_nb rfl rfl]; simp
section
variable (A : AH)
@[simp] theorem fEq_bl (a b : Bool) : fEq A (.bl a) (.bl b) = some (.bl (a == b)) := by simp [fEq, okEq, pok, dep]
@[simp] theorem fNe_bl (a b : Bool) : fNe A (.bl a) (.bl b) = some (.bl (a != b)) := by simp [fNe, okEq, pok, dep, bne]
@[simp] theorem fEq_int (a b : Int) : fEq A (.int a) (.int b) = some (.bl (decide (a = b))) := by simp [fEq, okEq, pok, dep]
@[simp] theorem fNe_int (a b : Int) : fNe A (.int a) (.int b) = some (.bl (!decide (a = b))) := by simp [fNe, okEq, pok, dep]
@[simp] theorem fEq_str (a b : Str) : fEq A (.str a) (.str b) = some (.bl (decide (a = b))) := by simp [fEq, okEq, pok, dep]
@[simp] theorem fNe_str (a b : Str) : fNe A (.str a) (.str b) = some (.bl (!decide (a = b))) := by simp [fNe, okEq, pok, dep]
theorem fEq_nb {a b : D} (ha : nb (vw A a) = true) (hb : nb (vw A b) = true) (hd : dep (vw A a) ≤ 60) : fEq A a b = some (.bl (decide (vw A a = vw A b))) := by
  simp [fEq, okEq, nb_pok _ ha, nb_pok _ hb, hd, eqD_nb ha hb]
theorem fNe_nb {a b : D} (ha : nb (vw A a) = true) (hb : nb (vw A b) = true) (hd : dep (vw A a) ≤ 60) : fNe A a b = some (.bl (!decide (vw A a = vw A b))) := by
  simp [fNe, okEq, nb_pok _ ha, nb_pok _ hb, hd, eqD_nb ha hb]
end

/-! ### loops and comprehensions by what they keep -/
theorem for_rule {p : Pat} {tb : TS3} {E : Ends3} {ws : Ws} (I : Nat → S3 → AH → Prop) (hw : ∀ n z A, I n z A → Held A ws) : ∀ (items : List D) (k : Nat) (z : S3) (A : AH), I k z A →
    (∀ (i : Nat) (x : D), items[i]? = some x → ∀ (z : S3) (A : AH), I (k + i) z A → ∃ z', setP p x z = some z' ∧ ∀ E' : Ends3, (∀ d A, E.rt d A → E'.rt d A) → (∀ z A, E.nx z A → E'.bk z A) → (∀ z A, I (k + i + 1) z A → E'.nx z A) → (∀ z A, I (k + i + 1) z A → E'.ct z A) → tb E' z' A) →
    (∀ (z : S3) (A : AH), I (k + items.length) z A → E.nx z A) → forW p tb E ws items z A
  | [], k, z, A, h, _, q => ⟨hw _ _ _ h, q z A h⟩
  | x :: xs, k, z, A, h, step, q => by
    obtain ⟨z', e, hb⟩ := step 0 x rfl z A h
    have go : ∀ (z : S3) (A : AH), I (k + 0 + 1) z A → forW p tb E ws xs z A := fun z A hi => by
      refine for_rule I hw xs (k + 1) z A hi (fun i y hy z A hI => ?_) fun z A hI => q z A (by rw [List.length_cons, show k + (xs.length + 1) = k + 1 + xs.length by omega]; exact hI)
      have := step (i + 1) y hy z A (by rw [show k + (i + 1) = k + 1 + i by omega]; exact hI)
      rwa [show k + (i + 1) = k + 1 + i by omega] at this
    exact ⟨hw _ _ _ h, z', e, hb _ (fun _ _ h => h) (fun _ _ h => h) go go⟩
/-- a loop from its start; the lists that it walks are held by others -/
theorem for_invW {p : Pat} {tb : TS3} {E : Ends3} {ws : Ws} {items : List D} {z : S3} {A : AH} (I : Nat → S3 → AH → Prop) (hw : ∀ n z A, I n z A → Held A ws) (h0 : I 0 z A)
    (step : ∀ (i : Nat) (x : D), items[i]? = some x → ∀ (z : S3) (A : AH), I i z A → ∃ z', setP p x z = some z' ∧ ∀ E' : Ends3, (∀ d A, E.rt d A → E'.rt d A) → (∀ z A, E.nx z A → E'.bk z A) → (∀ z A, I (i + 1) z A → E'.nx z A) → (∀ z A, I (i + 1) z A → E'.ct z A) → tb E' z' A)
    (fin : ∀ (z : S3) (A : AH), I items.length z A → E.nx z A) : forW p tb E ws items z A := by
  refine for_rule I hw items 0 z A h0 (fun i x hx z A hI => ?_) fun z A hI => fin z A (by rwa [Nat.zero_add] at hI)
  rw [Nat.zero_add] at hI ⊢
  exact step i x hx z A hI
/-- a loop from its start -/
theorem for_inv {p : Pat} {tb : TS3} {E : Ends3} {items : List D} {z : S3} {A : AH} (I : Nat → S3 → AH → Prop) (h0 : I 0 z A)
    (step : ∀ (i : Nat) (x : D), items[i]? = some x → ∀ (z : S3) (A : AH), I i z A → ∃ z', setP p x z = some z' ∧ ∀ E' : Ends3, (∀ d A, E.rt d A → E'.rt d A) → (∀ z A, E.nx z A → E'.bk z A) → (∀ z A, I (i + 1) z A → E'.nx z A) → (∀ z A, I (i + 1) z A → E'.ct z A) → tb E' z' A)
    (fin : ∀ (z : S3) (A : AH), I items.length z A → E.nx z A) : forW p tb E [] items z A := for_invW I (fun _ _ A _ => by rw [held_nil]; trivial) h0 step fin
/-- a comprehension without if -/
theorem lc_mapW {p : Pat} {te : TE3} {z0 : S3} {A : AH} {Q : D → AH → Prop} {ws : Ws} (hw : Held A ws) (f : D → D) : ∀ (items acc : List D), acc.length + items.length ≤ sizeLine → (∀ x ∈ items, ∃ z', setP p x z0 = some z' ∧ ∀ R : D → AH → Prop, R (f x) A → te z' A R) →
    Q (.ml (acc ++ items.map fun x => frz (f x))) A → lcW p tYes3 te z0 ws items acc A Q
  | [], acc, _, _, q => ⟨hw, by simpa using q⟩
  | x :: xs, acc, hl, h, q => by
    obtain ⟨z', e, hx⟩ := h x List.mem_cons_self
    simp only [List.length_cons] at hl
    refine ⟨hw, z', e, hx _ ⟨by omega, ?_⟩⟩
    refine lc_mapW hw f xs _ (by rw [List.length_append, List.length_cons, List.length_nil]; omega) (fun y hy => h y (List.mem_cons_of_mem _ hy)) ?_
    simpa using q
theorem lc_map {p : Pat} {te : TE3} {z0 : S3} {A : AH} {Q : D → AH → Prop} (f : D → D) (items acc : List D) (hl : acc.length + items.length ≤ sizeLine) (h : ∀ x ∈ items, ∃ z', setP p x z0 = some z' ∧ ∀ R : D → AH → Prop, R (f x) A → te z' A R)
    (q : Q (.ml (acc ++ items.map fun x => frz (f x))) A) : lcW p tYes3 te z0 [] items acc A Q := lc_mapW (by rw [held_nil]; trivial) f items acc hl h q
/-- .. with an if -/
theorem lc_filterW {p : Pat} {tt : TT3} {te : TE3} {z0 : S3} {A : AH} {Q : D → AH → Prop} {ws : Ws} (hw : Held A ws) (g : D → Bool) (f : D → D) : ∀ (items acc : List D), acc.length + items.length ≤ sizeLine →
    (∀ x ∈ items, ∃ z', setP p x z0 = some z' ∧ (∀ R : Bool → AH → Prop, R (g x) A → tt z' A R) ∧ (g x = true → ∀ R : D → AH → Prop, R (f x) A → te z' A R)) →
    Q (.ml (acc ++ (items.filter g).map fun x => frz (f x))) A → lcW p tt te z0 ws items acc A Q
  | [], acc, _, _, q => ⟨hw, by simpa using q⟩
  | x :: xs, acc, hl, h, q => by
    obtain ⟨z', e, ht, hx⟩ := h x List.mem_cons_self
    simp only [List.length_cons] at hl
    refine ⟨hw, z', e, ht _ ?_⟩
    cases hg : g x with
    | true =>
      rw [if_pos rfl]
      refine hx hg _ ⟨by omega, ?_⟩
      refine lc_filterW hw g f xs _ (by rw [List.length_append, List.length_cons, List.length_nil]; omega) (fun y hy => h y (List.mem_cons_of_mem _ hy)) ?_
      simpa [List.filter_cons, hg] using q
    | false =>
      rw [if_neg (by simp)]
      refine lc_filterW hw g f xs _ (by omega) (fun y hy => h y (List.mem_cons_of_mem _ hy)) ?_
      simpa [List.filter_cons, hg] using q
theorem lc_filter {p : Pat} {tt : TT3} {te : TE3} {z0 : S3} {A : AH} {Q : D → AH → Prop} (g : D → Bool) (f : D → D) (items acc : List D) (hl : acc.length + items.length ≤ sizeLine)
    (h : ∀ x ∈ items, ∃ z', setP p x z0 = some z' ∧ (∀ R : Bool → AH → Prop, R (g x) A → tt z' A R) ∧ (g x = true → ∀ R : D → AH → Prop, R (f x) A → te z' A R))
    (q : Q (.ml (acc ++ (items.filter g).map fun x => frz (f x))) A) : lcW p tt te z0 [] items acc A Q := lc_filterW (by rw [held_nil]; trivial) g f items acc hl h q
theorem signs_mem {x : Str} {d : D} (h : d ∈ signs x) : ∃ c, c ∈ x.cps.toList ∧ d = .str ⟨#[c]⟩ := by
  unfold signs at h
  obtain ⟨c, hc, rfl⟩ := List.mem_map.mp h
  exact ⟨c, hc, rfl⟩
/-- a sign is found where it stands -/
theorem find_sign (x : Str) (c : Nat) : Txt.find x ⟨#[c]⟩ < 0 ↔ c ∉ x.cps.toList := by
  have key : ∀ i : Nat, StrLaws.At x ⟨#[c]⟩ x.length i ↔ x.cps.toList[i]? = some c := fun i => by
    rw [← atS_iff]
    unfold atS
    have e1 : (⟨#[c]⟩ : Str).length = 1 := rfl
    have e2 : x.length = x.cps.toList.length := by simp [Str.length]
    rw [e1, e2]
    have e3 : ((i : Int) + ((1 : Nat) : Int) - (i : Int)).toNat = 1 := by omega
    have e4 : ((i : Int)).toNat = i := by omega
    rw [e3, e4]
    generalize x.cps.toList = l
    by_cases hi : i < l.length
    · rw [List.drop_eq_getElem_cons hi, List.getElem?_eq_getElem hi]
      have : ¬ ((l.length : Int) < (i : Int) + 1) := by omega
      generalize l.drop (i + 1) = t
      generalize l[i] = v
      simp [this]
    · rw [List.getElem?_eq_none (by omega)]
      have : ((l.length : Int) < (i : Int) + 1) := by omega
      simp [this]
  rcases find_whole x ⟨#[c]⟩ with ⟨e, h⟩ | ⟨i, e, h, _⟩
  · rw [e]
    refine ⟨fun _ hm => ?_, fun _ => by decide⟩
    obtain ⟨i, hi⟩ := List.mem_iff_getElem?.mp hm
    exact h i ((key i).mpr hi)
  · rw [e]
    refine ⟨fun h2 => by omega, fun hm => ?_⟩
    exact absurd (List.mem_iff_getElem?.mpr ⟨i, (key i).mp h⟩) hm
end T3
set_option autoImplicit false
namespace T3
open PySem PySem.Spec PyProof.Rows L2

/-! ### dicts whose keys are numbers, texts, None and tuples of such, mixed -/
/-- the value is this key, shallow enough -/
def Nk (h : Heap) (k : NestedKey) (v : Value) : Prop := NestedIs h k v ∧ k.depth ≤ 8
/-- the entries hold these keys -/
def KeysAre (w : World) (h : Heap) (ks : List NestedKey) (es : Array DictEntry) : Prop :=
  es.size = ks.length ∧ ∀ (j : Nat) (k : NestedKey), ks[j]? = some k → ∃ e, es[j]? = some e ∧ Nk h k e.key ∧ e.hash = k.hash w
theorem Nk.isStr {h : Heap} {k : NestedKey} {v : Value} {x : Str} (i : Nk h k v) : v.isStr x = decide (k = .text x) := by
  rcases i with ⟨i, _⟩
  cases i <;> simp [Value.isStr]
  · rw [Bool.eq_iff_iff]; simp
section
variable {prog : Program} {w : World} {A : Around} {E : Value → Shared → Prop} {s : Shared} {d : Addr} {v : Value} {k : NestedKey} {ks : List NestedKey} {es : Array DictEntry} {ep : Nat} {o : Obj}
theorem eq_nk {k' : NestedKey} {u : Value} {Q : Bool → Shared → Prop} (hu : A.units + 8 < cLine) (h1 : Nk s.heap k' u) (h2 : Nk s.heap k v) (q : Q (decide (k' = k)) s) : wpAny (model prog w) A (eqBool u v) Q E s :=
  eqAt_key k' k A s u v h1.1 h2.1 (by have := h1.2; have := h2.2; omega) _ _ _ _ (by rw [← NestedKey.decide_eq]; exact q)
theorem quiet_nk {Q : Bool → Shared → Prop} (h : Nk s.heap k v) (q : Q true s) : wpAny (model prog w) A (eqIsQuiet 8 v) Q E s := quiet_key k v 8 s h.1 h.2 A E Q q
theorem KeysAre.key {i : Nat} {e : DictEntry} (hk : KeysAre w s.heap ks es) (he : es[i]? = some e) : ∃ k', ks[i]? = some k' ∧ Nk s.heap k' e.key ∧ e.hash = k'.hash w := by
  have hi : i < ks.length := by rw [← hk.1]; exact (Array.getElem?_eq_some_iff.mp he).1
  obtain ⟨e', h1, h2, h3⟩ := hk.2 i ks[i] (List.getElem?_eq_getElem hi)
  rw [he] at h1; cases h1
  exact ⟨_, List.getElem?_eq_getElem hi, h2, h3⟩
/-- where a hash stands -/
def spots (w : World) (es : Array DictEntry) (k : NestedKey) : List Nat := placesWithHash es.size (fun i => es[i]?.map (·.hash)) (k.hash w)
theorem spots_mem {i : Nat} : i ∈ spots w es k ↔ i < es.size ∧ es[i]?.map (·.hash) = some (k.hash w) := by
  unfold spots placesWithHash
  rw [List.mem_filter, List.mem_range, beq_iff_eq]
theorem spots_nodup : (spots w es k).Nodup := by
  unfold spots placesWithHash
  exact List.Pairwise.filter _ List.nodup_range
/-- a place of the key is such a place -/
theorem spots_key {j : Nat} (hk : KeysAre w s.heap ks es) (hj : ks[j]? = some k) : j ∈ spots w es k := by
  obtain ⟨e, he, _, hh⟩ := hk.2 j k hj
  refine spots_mem.mpr ⟨(Array.getElem?_eq_some_iff.mp he).1, ?_⟩
  rw [he, Option.map_some, hh]
theorem stored_nk (hk : KeysAre w s.heap ks es) : ∀ u ∈ (spots w es k).filterMap (fun i => es[i]?.map (·.key)), ∃ k', Nk s.heap k' u := by
  intro u hu
  obtain ⟨i, _, hi⟩ := List.mem_filterMap.mp hu
  cases he : es[i]? with
  | none => rw [he] at hi; cases hi
  | some e =>
    rw [he] at hi
    cases hi
    obtain ⟨k', _, h, _⟩ := hk.key he
    exact ⟨k', h⟩
theorem tells_nk {vs : List Value} {Q : Bool → Shared → Prop} (h : Nk s.heap k v) (hs : ∀ u ∈ vs, ∃ k', Nk s.heap k' u) (q : Q false s) : wpAny (model prog w) A (tableMayTell v vs) Q E s := by
  unfold tableMayTell
  split
  · exact wpAny_pure q
  · refine wpAny_bind (quiet_nk h ?_)
    rw [if_neg (by simp)]
    refine wpAny_bind (wpAny_forIn_list _ (fun rest r s' => s' = s ∧ r = (none, ()) ∧ ∀ u ∈ rest, ∃ k', Nk s.heap k' u) _ ?_ ?_ _ _ ⟨rfl, rfl, hs⟩)
    · rintro u rest r s' ⟨rfl, rfl, hr⟩
      obtain ⟨k', hu⟩ := hr u List.mem_cons_self
      refine wpAny_bind (quiet_nk hu ?_)
      rw [if_neg (by simp)]
      exact wpAny_pure ⟨rfl, rfl, fun x hx => hr x (List.mem_cons_of_mem _ hx)⟩
    · rintro r s' ⟨rfl, rfl, _⟩
      exact wpAny_pure q
/-- the walk over places, when all is carried by value -/
theorem plain_nk {Q : Option Nat → Shared → Prop} (hu : A.units + 8 < cLine) (hkey : Nk s.heap k v) (ho : s.heap.get? d = some o) (hd : o.data = .dict es ep) (hk : KeysAre w s.heap ks es) (hn : ks.Nodup)
    (q0 : k ∉ ks → Q none s) (q1 : ∀ j, ks[j]? = some k → Q (some j) s) : wpAny (model prog w) A (dictWalkPlain d v (k.hash w) es (spots w es k)) Q E s := by
  unfold dictWalkPlain
  refine wpAny_bind (wpAny_forIn_list _ (fun rest b s' => s' = s ∧ b = (none, ()) ∧ ∃ pre, spots w es k = pre ++ rest ∧ ∀ j ∈ pre, ks[j]? ≠ some k) _ ?_ ?_ _ _ ⟨rfl, rfl, [], rfl, fun _ h => (nomatch h)⟩)
  · rintro i rest b s' ⟨rfl, rfl, pre, hp, hno⟩
    have hi : i ∈ spots w es k := by rw [hp]; simp
    obtain ⟨hlt, hh⟩ := spots_mem.mp hi
    have he := Array.getElem?_eq_getElem hlt
    obtain ⟨k', hk1, hk2, hk3⟩ := hk.key he
    rw [he, Option.map_some, Option.some.injEq] at hh
    simp only [he]
    rw [if_pos (by rw [hh]; exact beq_self_eq_true _)]
    refine wpAny_bind (wpAny_dictEpoch ho hd (wpAny_bind (eq_nk hu hk2 hkey (wpAny_bind (wpAny_dictEpoch ho hd ?_)))))
    rw [if_neg (by simp)]
    by_cases e : k' = k
    · rw [decide_eq_true e]
      exact wpAny_bind (wpAny_rule (wpAny_pure (wpAny_pure (q1 i (by rw [hk1, e])))))
    · rw [decide_eq_false e]
      refine wpAny_bind (wpAny_rule (wpAny_pure ⟨rfl, rfl, pre ++ [i], by rw [hp]; simp, fun j hj => ?_⟩))
      rcases List.mem_append.mp hj with h | h
      · exact hno j h
      · rw [List.mem_singleton.mp h, hk1]
        exact fun z => e (Option.some.inj z)
  · rintro b s' ⟨rfl, rfl, pre, hp, hno⟩
    rw [List.append_nil] at hp
    refine wpAny_pure (q0 fun hm => ?_)
    obtain ⟨j, hj⟩ := List.mem_iff_getElem?.mp hm
    exact hno j (by rw [← hp]; exact spots_key hk hj) hj
theorem wp_ite {α : Type} {c : Prop} [Decidable c] {a b : Sem α} {Q : α → Shared → Prop} (h1 : c → wpAny (model prog w) A a Q E s) (h2 : ¬ c → wpAny (model prog w) A b Q E s) : wpAny (model prog w) A (if c then a else b) Q E s := by
  by_cases h : c
  · rw [if_pos h]; exact h1 h
  · rw [if_neg h]; exact h2 h
/-- THE SEARCH -/
theorem find_nk {Q : Option Nat → Shared → Prop} (hu : A.units + 8 < cLine) (hkey : Nk s.heap k v) (ho : s.heap.get? d = some o) (hd : o.data = .dict es ep) (hk : KeysAre w s.heap ks es) (hn : ks.Nodup)
    (q0 : k ∉ ks → Q none s) (q1 : ∀ j, ks[j]? = some k → Q (some j) s) : wpAny (model prog w) A (dictFind d v (k.hash w)) Q E s := by
  have one : ∀ i j : Nat, ks[i]? = some k → ks[j]? = some k → i = j := fun i j h1 h2 => by
    have l1 := (List.getElem?_eq_some_iff.mp h1).1
    exact (List.getElem?_inj l1 hn).mp (h1.trans h2.symm)
  unfold dictFind
  try with_reducible refine wpAny_holding ?_
  refine wpAny_bind (wpAny_dictEntries ho hd ?_)
  dsimp only
  have hany : ∀ a, v = .ref a → ¬ (es.any fun e => e.key == v && e.hash != k.hash w) = true := fun a ea h => by
    obtain ⟨i, hi, hb⟩ := Array.any_eq_true.mp h
    obtain ⟨k', _, h2, h3⟩ := hk.key (Array.getElem?_eq_getElem hi)
    simp only [Bool.and_eq_true, beq_iff_eq, bne_iff_ne, ne_eq] at hb
    rw [hb.1] at h2
    rw [NestedIs.inj _ _ _ h2.1 hkey.1] at h3
    exact hb.2 h3
  have hv : v = .none ∨ (∃ b, v = .bool b) ∨ (∃ i t, v = .int i t) ∨ (∃ x t, v = .str x t ∧ k = .text x) ∨ ∃ a, v = .ref a := by
    rcases hkey with ⟨i, _⟩
    cases i
    · exact .inl rfl
    · exact .inr (.inl ⟨_, rfl⟩)
    · exact .inr (.inr (.inl ⟨_, _, rfl⟩))
    · exact .inr (.inr (.inr (.inl ⟨_, _, rfl, rfl⟩)))
    · exact .inr (.inr (.inr (.inr ⟨_, rfl⟩)))
  rcases hv with rfl | ⟨b, rfl⟩ | ⟨i, t, rfl⟩ | ⟨x, t, rfl, hkx⟩ | ⟨a, rfl⟩
  case' inr.inr.inr.inl =>
    dsimp only
    refine wp_ite (fun hstr => ?_) fun hstr => ?_
    · skip
      unfold foundByValue
      cases hf : es.findIdx? (fun e => e.key.isStr x) with
      | none =>
        refine wpAny_pure (q0 fun hm => ?_)
        obtain ⟨j, hj⟩ := List.mem_iff_getElem?.mp hm
        obtain ⟨e, he, h1, _⟩ := hk.2 j _ hj
        have := Array.findIdx?_eq_none_iff.mp hf e (Array.mem_of_getElem? he)
        rw [h1.isStr, decide_eq_true hkx] at this
        cases this
      | some i =>
        obtain ⟨hlt, hi, _⟩ := Array.findIdx?_eq_some_iff_getElem.mp hf
        obtain ⟨k', hk1, hk2, hk3⟩ := hk.key (Array.getElem?_eq_getElem hlt)
        rw [hk2.isStr, decide_eq_true_iff, ← hkx] at hi
        simp only [Array.getElem?_eq_getElem hlt]
        refine wpAny_bind (wpAny_dictEpoch ho hd (wpAny_bind (eq_nk hu hk2 hkey (wpAny_bind (wpAny_dictEpoch ho hd ?_)))))
        rw [if_neg (by simp), decide_eq_true hi]
        exact wpAny_bind (wpAny_rule (wpAny_pure (q1 i (by rw [hk1, hi]))))
  all_goals (
    try dsimp only
    refine wp_ite (fun hall => ?_) fun hall => ?_
    · first
        | exact plain_nk hu hkey ho hd hk hn q0 q1
        | exact wpAny_bind (plain_nk hu hkey ho hd hk hn (fun h => wpAny_pure (q0 h)) fun j h => wpAny_pure (q1 j h))
    · try rw [if_neg (hany _ rfl)]
      refine wp_ite (fun hone => ?_) fun hone => ?_
      all_goals (
        first | refine wpAny_bind (wpAny_pure ?_) | refine wpAny_bind (tells_nk hkey (stored_nk hk) ?_)
        rw [if_neg (by simp)]
        refine wpAny_bind (wpAny_forIn_list _ (fun rest b s' => s' = s ∧ ∃ pre hit, b = (none, hit) ∧ spots w es k = pre ++ rest ∧ ((hit = none ∧ ∀ j ∈ pre, ks[j]? ≠ some k) ∨ ∃ j, hit = some j ∧ j ∈ pre ∧ ks[j]? = some k)) _ ?_ ?_ _ _ ⟨rfl, [], none, rfl, rfl, .inl ⟨rfl, fun _ h => (nomatch h)⟩⟩)
        · rintro i rest b s' ⟨rfl, pre, hit, rfl, hp, hh⟩
          have hi : i ∈ spots w es k := by rw [hp]; simp
          obtain ⟨hlt, hash⟩ := spots_mem.mp hi
          have he := Array.getElem?_eq_getElem hlt
          obtain ⟨k', hk1, hk2, hk3⟩ := hk.key he
          rw [he, Option.map_some, Option.some.injEq] at hash
          simp only [he]
          rw [if_pos (by rw [hash]; exact beq_self_eq_true _)]
          refine wpAny_bind (wpAny_dictEpoch ho hd (wpAny_bind (eq_nk hu hk2 hkey (wpAny_bind (wpAny_dictEpoch ho hd ?_)))))
          rw [if_neg (by simp)]
          refine wp_ite (fun hs => ?_) fun hs => ?_
          · have ek := of_decide_eq_true hs
            rw [ek] at hk1
            rcases hh with ⟨rfl, hno⟩ | ⟨j, rfl, hj1, hj2⟩
            · rw [if_neg (by simp)]
              refine wpAny_bind (wpAny_rule (wp_ite (fun _ => wpAny_pure (wpAny_pure (q1 i hk1))) fun _ => ?_))
              exact wpAny_pure ⟨rfl, pre ++ [i], some i, rfl, by rw [hp]; simp, .inr ⟨i, rfl, by simp, hk1⟩⟩
            · exfalso
              have hn2 := spots_nodup (w := w) (es := es) (k := k)
              rw [hp] at hn2
              rw [one _ _ hj2 hk1] at hj1
              exact (List.nodup_append.mp hn2).2.2 i hj1 i List.mem_cons_self rfl
          · have ek : ¬ k' = k := fun z => hs (decide_eq_true z)
            refine wpAny_bind (wpAny_rule ?_)
            rw [if_neg (by simp)]
            refine wpAny_pure ⟨rfl, pre ++ [i], hit, rfl, by rw [hp]; simp, ?_⟩
            rcases hh with ⟨rfl, hno⟩ | ⟨j, rfl, hj1, hj2⟩
            · refine .inl ⟨rfl, fun j hj => ?_⟩
              rcases List.mem_append.mp hj with h | h
              · exact hno j h
              · rw [List.mem_singleton.mp h, hk1]
                exact fun z => ek (Option.some.inj z)
            · exact .inr ⟨j, rfl, List.mem_append_left _ hj1, hj2⟩
        · rintro b s' ⟨rfl, pre, hit, rfl, hp, hh⟩
          rw [List.append_nil] at hp
          rcases hh with ⟨rfl, hno⟩ | ⟨j, rfl, _, hj⟩
          · refine wpAny_pure (q0 fun hm => ?_)
            obtain ⟨j, hj⟩ := List.mem_iff_getElem?.mp hm
            exact hno j (by rw [← hp]; exact spots_key hk hj) hj
          · exact wpAny_pure (q1 j hj)))
end
end T3
set_option autoImplicit false
namespace T3
open PySem PySem.Spec PyProof.Rows L2

/-! ### dicts as rows of pairs -/
def dget : List (D × D) → D → Option D
  | [], _ => none
  | (k', d) :: r, k => if k' = k then some d else dget r k
def dput : List (D × D) → D → D → List (D × D)
  | [], k, d => [(k, d)]
  | (k', d') :: r, k, d => if k' = k then (k, d) :: r else (k', d') :: dput r k d
theorem dget_none {k : D} : ∀ {kvs : List (D × D)}, k ∉ kvs.map (·.1) → dget kvs k = none
  | [], _ => rfl
  | (k', d) :: r, h => by
    simp only [List.map_cons, List.mem_cons, not_or] at h
    rw [dget, if_neg (fun e => h.1 e.symm), dget_none h.2]
theorem dget_at {k d : D} : ∀ {kvs : List (D × D)} {j : Nat}, (kvs.map (·.1)).Nodup → kvs[j]? = some (k, d) → dget kvs k = some d
  | [], _, _, e => by simp at e
  | (k', d') :: r, j, hn, e => by
    rw [List.map_cons, List.nodup_cons] at hn
    cases j with
    | zero => simp at e; rw [dget, if_pos e.1, e.2]
    | succ j =>
      have e' : r[j]? = some (k, d) := by simpa using e
      rw [dget, if_neg, dget_at hn.2 e']
      rintro rfl
      exact hn.1 (List.mem_map.mpr ⟨_, List.mem_of_getElem? e', rfl⟩)
theorem dput_new {k d : D} : ∀ {kvs : List (D × D)}, k ∉ kvs.map (·.1) → dput kvs k d = kvs ++ [(k, d)]
  | [], _ => rfl
  | (k', d') :: r, h => by
    simp only [List.map_cons, List.mem_cons, not_or] at h
    rw [dput, if_neg (fun e => h.1 e.symm), dput_new h.2]; rfl
theorem dput_old {k d d0 : D} : ∀ {kvs : List (D × D)} {j : Nat}, (kvs.map (·.1)).Nodup → kvs[j]? = some (k, d0) → dput kvs k d = kvs.set j (k, d)
  | [], _, _, e => by simp at e
  | (k', d') :: r, j, hn, e => by
    rw [List.map_cons, List.nodup_cons] at hn
    cases j with
    | zero => simp at e; rw [dput, if_pos e.1]; rfl
    | succ j =>
      have e' : r[j]? = some (k, d0) := by simpa using e
      rw [dput, if_neg, dput_old hn.2 e']; rfl
      rintro rfl
      exact hn.1 (List.mem_map.mpr ⟨_, List.mem_of_getElem? e', rfl⟩)
theorem dput_mem {k d : D} {p : D × D} : ∀ {kvs : List (D × D)}, p ∈ dput kvs k d → p = (k, d) ∨ p ∈ kvs
  | [], h => by simp [dput] at h; exact .inl h
  | (k', d') :: r, h => by
    rw [dput] at h
    split at h
    · rcases List.mem_cons.mp h with h | h
      · exact .inl h
      · exact .inr (List.mem_cons_of_mem _ h)
    · rcases List.mem_cons.mp h with h | h
      · rw [h]; exact .inr List.mem_cons_self
      · rcases dput_mem h with h | h
        · exact .inl h
        · exact .inr (List.mem_cons_of_mem _ h)
theorem dput_keys {k d x : D} : ∀ {kvs : List (D × D)}, x ∈ (dput kvs k d).map (·.1) ↔ x = k ∨ x ∈ kvs.map (·.1)
  | [] => by simp [dput]
  | (k', d') :: r => by
    rw [dput]
    split
    · rename_i e; subst e; simp
    · rw [List.map_cons, List.mem_cons, dput_keys (kvs := r), List.map_cons, List.mem_cons]
      constructor
      · rintro (h | h | h)
        · exact .inr (.inl h)
        · exact .inl h
        · exact .inr (.inr h)
      · rintro (h | h | h)
        · exact .inr (.inl h)
        · exact .inl h
        · exact .inr (.inr h)
theorem dput_nodup {k d : D} : ∀ {kvs : List (D × D)}, (kvs.map (·.1)).Nodup → ((dput kvs k d).map (·.1)).Nodup
  | [], _ => by simp [dput]
  | (k', d') :: r, h => by
    rw [List.map_cons, List.nodup_cons] at h
    rw [dput]
    split
    · rename_i e; subst e; rw [List.map_cons, List.nodup_cons]; exact h
    · rename_i e
      rw [List.map_cons, List.nodup_cons]
      refine ⟨fun hm => ?_, dput_nodup h.2⟩
      rcases dput_keys.mp hm with z | z
      · exact e z
      · exact h.1 z
theorem DOk.put {kvs : List (D × D)} {k d : D} (h : DOk kvs) (hk : kfit k = true) : DOk (dput kvs k d) := by
  refine ⟨fun p hp => ?_, dput_nodup h.2⟩
  rcases dput_mem hp with rfl | hp
  · exact hk
  · exact h.1 p hp
theorem dput_length {k d : D} : ∀ {kvs : List (D × D)}, (dput kvs k d).length ≤ kvs.length + 1
  | [] => by simp [dput]
  | (k', d') :: r => by
    rw [dput]
    split
    · simp
    · have := dput_length (k := k) (d := d) (kvs := r)
      simp only [List.length_cons]; omega
theorem dget_put_same {k d : D} : ∀ {kvs : List (D × D)}, dget (dput kvs k d) k = some d
  | [] => by simp [dput, dget]
  | (k', d') :: r => by
    rw [dput]
    split
    · simp [dget]
    · rename_i h; rw [dget, if_neg h, dget_put_same]
theorem dget_put_ne {k k2 d : D} (h : k2 ≠ k) : ∀ {kvs : List (D × D)}, dget (dput kvs k d) k2 = dget kvs k2
  | [] => by simp [dput, dget, Ne.symm h]
  | (k', d') :: r => by
    rw [dput]
    split
    · rename_i e; subst e; rw [dget, dget, if_neg (Ne.symm h), if_neg (Ne.symm h)]
    · rw [dget, dget, dget_put_ne h]

/-! ### the search's answers -/
section
variable {prog : Program} {w : World} {A : Around} {E : Value → Shared → Prop} {s : Shared} {a : Addr} {u v : Value} {k : NestedKey} {ks : List NestedKey} {es : Array DictEntry} {ep : Nat} {o : Obj}
theorem KeysAre.toks {n : Nat} (h : KeysAre w s.heap ks es) : KeysAre w ({ s with toks := n } : Shared).heap ks es := h
theorem get_nk {Q : Option Value → Shared → Prop} (hu : A.units + 8 < cLine) (hkey : Nk s.heap k u) (ho : s.heap.get? a = some o) (hd : o.data = .dict es ep) (hk : KeysAre w s.heap ks es) (hn : ks.Nodup)
    (q0 : k ∉ ks → ∀ n, Q none { s with toks := n }) (q1 : ∀ (j : Nat) (e : DictEntry), ks[j]? = some k → es[j]? = some e → ∀ n, Q (some e.val) { s with toks := n }) : wpAny (model prog w) A (dictGet a u) Q E s := by
  unfold dictGet
  try with_reducible refine wpAny_holding ?_
  refine wpAny_bind (pyHash_key k u A s _ hkey.1 (by have := hkey.2; omega) (wpAny_bind (find_nk (s := { s with toks := s.toks + k.draws }) hu hkey ho hd hk hn (fun h => ?_) fun j hj => ?_)))
  · exact wpAny_pure (q0 h _)
  · obtain ⟨e, he, _⟩ := hk.2 j k hj
    refine wpAny_bind (wpAny_dictEntries (s := { s with toks := s.toks + k.draws }) ho hd ?_)
    rw [he]
    exact wpAny_pure (q1 j e hj he _)
/-- what a store makes of the heap -/
def Wrote (s : Shared) (a : Addr) (es' : Array DictEntry) (h' : Heap) : Prop := ∃ o' ep', h'.get? a = some o' ∧ o'.ExactDict ∧ o'.data = .dict es' ep' ∧ Heap.SameBut a s.heap h'
theorem set_nk {Q : Unit → Shared → Prop} (hu : A.units + 8 < cLine) (hkey : Nk s.heap k u) (ho : s.heap.get? a = some o) (hc : o.ExactDict) (hd : o.data = .dict es ep) (hk : KeysAre w s.heap ks es) (hn : ks.Nodup) (hz : es.size ≤ sizeLine)
    (q0 : k ∉ ks → ∀ h' n, Wrote s a (es.push ⟨k.hash w, u, v⟩) h' → Q () { s with heap := h', toks := n })
    (q1 : ∀ j, ks[j]? = some k → ∀ h' n, Wrote s a (es.modify j fun e => { e with val := v }) h' → Q () { s with heap := h', toks := n }) : wpAny (model prog w) A (dictSet a u v) Q E s := by
  unfold dictSet
  try with_reducible refine wpAny_holding ?_
  refine wpAny_bind (pyHash_key k u A s _ hkey.1 (by have := hkey.2; omega) ?_)
  unfold dictSetHashed
  try with_reducible refine wpAny_holding ?_
  refine wpAny_bind (find_nk (s := { s with toks := s.toks + k.draws }) hu hkey ho hd hk hn (fun h => ?_) fun j hj => ?_)
  · exact wpAny_bind (wpAny_rule (wpAny_updateDictKeys (hz := hz) (s := { s with toks := s.toks + k.draws }) ho hd
      (q0 h _ _ ⟨_, _, Heap.get?_update_self _ ho (Obj.isFreed_of_dict (Obj.data_mapDictKeys hd _)), hc.mapDictKeys _, Obj.data_mapDictKeys hd _, Heap.SameBut.update ..⟩)))
  · exact wpAny_bind (wpAny_rule (wpAny_bind (wpAny_updateDict (s := { s with toks := s.toks + k.draws }) ho hd (wpAny_point
      (q1 j hj _ _ ⟨_, _, Heap.get?_update_self _ ho (Obj.isFreed_of_dict (Obj.data_mapDict hd _)), hc.mapDict _, Obj.data_mapDict hd _, Heap.SameBut.update ..⟩)))))
theorem dflt_nk {Q : Value → Shared → Prop} (hu : A.units + 8 < cLine) (hkey : Nk s.heap k u) (ho : s.heap.get? a = some o) (hc : o.ExactDict) (hd : o.data = .dict es ep) (hk : KeysAre w s.heap ks es) (hn : ks.Nodup) (hz : es.size ≤ sizeLine)
    (q0 : k ∉ ks → ∀ h' n, Wrote s a (es.push ⟨k.hash w, u, v⟩) h' → Q v { s with heap := h', toks := n })
    (q1 : ∀ (j : Nat) (e : DictEntry), ks[j]? = some k → es[j]? = some e → ∀ n, Q e.val { s with toks := n }) : wpAny (model prog w) A (dictSetDefault a u v) Q E s := by
  unfold dictSetDefault
  try with_reducible refine wpAny_holding ?_
  refine wpAny_bind (pyHash_key k u A s _ hkey.1 (by have := hkey.2; omega) ?_)
  refine wpAny_bind (find_nk (s := { s with toks := s.toks + k.draws }) hu hkey ho hd hk hn (fun h => ?_) fun j hj => ?_)
  · exact wpAny_bind (wpAny_rule (wpAny_bind (wpAny_updateDictKeys (hz := hz) (s := { s with toks := s.toks + k.draws }) ho hd
      (wpAny_pure (q0 h _ _ ⟨_, _, Heap.get?_update_self _ ho (Obj.isFreed_of_dict (Obj.data_mapDictKeys hd _)), hc.mapDictKeys _, Obj.data_mapDictKeys hd _, Heap.SameBut.update ..⟩)))))
  · obtain ⟨e, he, _⟩ := hk.2 j k hj
    refine wpAny_bind (wpAny_dictEntries (s := { s with toks := s.toks + k.draws }) ho hd ?_)
    rw [he]
    exact wpAny_bind (wpAny_rule (wpAny_pure (q1 j e hj he _)))
end

/-! ### the dict at an address, in the abstract -/
/-- the dict at a, to be read -/
def DtR (K : PySem.W.Frag) (w : World) (H : Hp) (a : Addr) (kvs : List (D × D)) : Prop := ∃ es, (H a = some (dh a es) ∨ ∃ o, H a = some (.frz o (dh a es))) ∧ DOk kvs ∧ Rpk K w H kvs es
section
variable {X : Cx} {pins : List (Addr × Obj)} {σ : L2.St} {H : Hp} {s : Shared}
mutual
theorem nk_is (I : Inv X pins σ H s) : ∀ {d : D} {x : V} {u : Value}, kok d = true → Rp X.K X.w H d x → RelV x u → NestedIs s.heap (dk d) u
  | .non, _, _, _, h, r => by rw [Rp] at h; subst h; cases r; exact .none
  | .int i, _, _, _, h, r => by rw [Rp] at h; subst h; obtain ⟨t, rfl⟩ := r; exact .int i t
  | .str i, _, _, _, h, r => by rw [Rp] at h; subst h; obtain ⟨t, rfl⟩ := r; exact .text i t
  | .tup ds, _, _, o, h, r => by
    rw [Rp] at h
    obtain ⟨a, xs, rfl, hs, hr⟩ := h
    cases r
    obtain ⟨its, rv, ⟨ob, e1, e2, n, e3⟩, _⟩ := I.tuple hs.sqt
    rw [dk]
    exact .tup e1 e2 e3 (by simpa using nks_are I (by rwa [kok] at o) hr rv)
  | .bl _, _, _, o, _, _ => by simp [kok] at o
  | .lst _, _, _, o, _, _ => by simp [kok] at o
  | .dct _, _, _, o, _, _ => by simp [kok] at o
  | .ref _, _, _, o, _, _ => by simp [kok] at o
  | .ml _, _, _, o, _, _ => by simp [kok] at o
  | .md _, _, _, o, _, _ => by simp [kok] at o
theorem nks_are (I : Inv X pins σ H s) : ∀ {ds : List D} {xs : List V} {us : List Value}, koks ds = true → Rps X.K X.w H ds xs → Vals xs us → NestedAll s.heap (dks ds) us
  | [], _, _, _, h, r => by rw [Rps] at h; subst h; cases r; exact .nil
  | d :: ds, _, _, o, h, r => by
    rw [Rps] at h
    obtain ⟨x, q, rfl, h1, h2⟩ := h
    simp only [koks, Bool.and_eq_true] at o
    cases r with
    | cons a b => exact .cons (nk_is I o.1 h1 a) (nks_are I o.2 h2 b)
end
theorem kfit_of {d : D} (h : kfit d = true) : kok d = true ∧ (dk d).depth ≤ 8 := by
  simpa [kfit] using h
theorem nk_of (I : Inv X pins σ H s) {d : D} {x : V} {u : Value} (o : kfit d = true) (h : Rp X.K X.w H d x) (r : RelV x u) : Nk s.heap (dk d) u := ⟨nk_is I (kfit_of o).1 h r, (kfit_of o).2⟩
/-- entries and pairs -/
theorem ent_at : ∀ {kvs : List (D × D)} {es : List (Int × V × V)} {ens : List DictEntry} {j : Nat} {k d : D}, Rpk X.K X.w H kvs es → EntsAre es ens → kvs[j]? = some (k, d) →
    ∃ e x y, ens[j]? = some e ∧ e.hash = (dk k).hash X.w ∧ RelV x e.key ∧ Rp X.K X.w H k x ∧ RelV y e.val ∧ Rp X.K X.w H d y
  | [], _, _, _, _, _, _, _, e => by simp at e
  | (k', d') :: r, _, _, j, k, d, hr, he, e => by
    rw [Rpk] at hr
    obtain ⟨x, y, q, rfl, h1, h2, h3⟩ := hr
    cases he with
    | cons a b c t =>
      cases j with
      | zero =>
        simp only [List.getElem?_cons_zero, Option.some.injEq, Prod.mk.injEq] at e
        obtain ⟨rfl, rfl⟩ := e
        exact ⟨_, x, y, rfl, a, b, h1, c, h2⟩
      | succ j => exact ent_at (j := j) h3 t (by simpa using e)
theorem rpk_length : ∀ {kvs : List (D × D)} {es : List (Int × V × V)}, Rpk X.K X.w H kvs es → es.length = kvs.length
  | [], _, h => by rw [Rpk] at h; subst h; rfl
  | (k, d) :: r, _, h => by
    rw [Rpk] at h
    obtain ⟨x, y, q, rfl, _, _, h3⟩ := h
    rw [List.length_cons, List.length_cons, rpk_length h3]
theorem keys_nodup : ∀ {kvs : List (D × D)}, DOk kvs → (kvs.map fun p => dk p.1).Nodup
  | [], _ => by simp
  | (k, d) :: r, h => by
    have h2 := h.2
    rw [List.map_cons, List.nodup_cons] at h2
    rw [List.map_cons, List.nodup_cons]
    refine ⟨fun hm => ?_, keys_nodup ⟨fun p hp => h.1 p (List.mem_cons_of_mem _ hp), h2.2⟩⟩
    obtain ⟨p, hp, e⟩ := List.mem_map.mp hm
    have ek := dk_inj p.1 k (kfit_of (h.1 p (List.mem_cons_of_mem _ hp))).1 (kfit_of (h.1 (k, d) List.mem_cons_self)).1 e
    exact h2.1 (List.mem_map.mpr ⟨p, hp, ek⟩)
theorem key_place {kvs : List (D × D)} {k : D} {j : Nat} (h : DOk kvs) (hk : kfit k = true) (e : (kvs.map fun p => dk p.1)[j]? = some (dk k)) : ∃ d, kvs[j]? = some (k, d) := by
  rw [List.getElem?_map] at e
  cases q : kvs[j]? with
  | none => rw [q] at e; cases e
  | some p =>
    rw [q] at e
    simp only [Option.map_some, Option.some.injEq] at e
    have := dk_inj p.1 k (kfit_of (h.1 p (List.mem_of_getElem? q))).1 (kfit_of hk).1 e
    exact ⟨p.2, by rw [← this]⟩
theorem key_none {kvs : List (D × D)} {k : D} (e : dk k ∉ kvs.map fun p => dk p.1) : k ∉ kvs.map (·.1) := fun hm => by
  obtain ⟨p, hp, rfl⟩ := List.mem_map.mp hm
  exact e (List.mem_map.mpr ⟨p, hp, rfl⟩)
/-- the dict in the heap -/
theorem dict_at (I : Inv X pins σ H s) {a : Addr} {kvs : List (D × D)} (h : DtR X.K X.w H a kvs) : ∃ (o : Obj) (arr : Array DictEntry) (ep : Nat) (es : List (Int × V × V)), s.heap.get? a = some o ∧ o.ExactDict ∧ o.data = .dict arr ep ∧ (a == sysModules) = false ∧
    arr.size = kvs.length ∧ arr.size ≤ sizeLine ∧ EntsAre es arr.toList ∧ Rpk X.K X.w H kvs es ∧ KeysAre X.w s.heap (kvs.map fun p => dk p.1) arr ∧ (kvs.map fun p => dk p.1).Nodup := by
  obtain ⟨es, hH, hk, hr⟩ := h
  have de : DE a es s.heap := by
    rcases hH with hH | ⟨o, hH⟩
    · exact (show ObjOk X.prog X.w H s.heap a (.ext (DE a es)) from I.hok a _ hH).1
    · exact (show ObjOk X.prog X.w H s.heap a (.ext (DE a es)) from (I.hok a _ hH).2).1
  obtain ⟨hz, hm, o, arr, ep, ho, hc, hd, ea⟩ := de
  have l1 := rpk_length hr
  have l2 := ea.length
  simp only [Array.length_toList] at l2
  refine ⟨o, arr, ep, es, ho, hc, hd, hm, by omega, by omega, ea, hr, ⟨by simp; omega, fun j k' e => ?_⟩, keys_nodup hk⟩
  rw [List.getElem?_map] at e
  cases q : kvs[j]? with
  | none => rw [q] at e; cases e
  | some p =>
    rw [q] at e; cases e
    obtain ⟨en, x, y, h1, h2, h3, h4, _, _⟩ := ent_at (k := p.1) (d := p.2) hr ea q
    exact ⟨en, by simpa using h1, nk_of I (hk.1 p (List.mem_of_getElem? q)) h4 h3, h2⟩
theorem DtR.ok {K : PySem.W.Frag} {w : World} {a : Addr} {kvs : List (D × D)} (h : DtR K w H a kvs) : DOk kvs := h.choose_spec.2.1
/-- the dict's new content -/
theorem wrote_ok {P : Program} {w : World} {a : Addr} {arr : Array DictEntry} {es : List (Int × V × V)} {h' : Heap} (hw : Wrote s a arr h') (hm : (a == sysModules) = false) (hz : es.length ≤ sizeLine) (ea : EntsAre es arr.toList) : ObjOk P w H h' a (dh a es) := by
  obtain ⟨o, ep, ho, hc, hd, _⟩ := hw
  refine ⟨⟨hz, hm, o, arr, ep, ho, hc, hd, ea⟩, ⟨o, ho⟩, fun h1 h2 de k => ?_⟩
  obtain ⟨z, m, o1, arr1, ep1, e1, e2, e3, e4⟩ := de
  exact ⟨z, m, o1, arr1, ep1, k _ e1, e2, e3, e4⟩
theorem ents_push : ∀ {es : List (Int × V × V)} {ens : List DictEntry} {e : DictEntry} {n : Int} {x y : V}, EntsAre es ens → e.hash = n → RelV x e.key → RelV y e.val → EntsAre (es ++ [(n, x, y)]) (ens ++ [e])
  | _, _, _, _, _, _, .nil, h1, h2, h3 => .cons h1 h2 h3 .nil
  | _, _, _, _, _, _, .cons a b c t, h1, h2, h3 => .cons a b c (ents_push t h1 h2 h3)
theorem ents_set : ∀ {es : List (Int × V × V)} {ens : List DictEntry} {j : Nat} {n : Int} {x y0 y : V} {v : Value}, EntsAre es ens → es[j]? = some (n, x, y0) → RelV y v → EntsAre (es.set j (n, x, y)) (ens.modify j fun e => { e with val := v })
  | _, _, _, _, _, _, _, _, .nil, e, _ => by simp at e
  | _, _, 0, _, _, _, _, _, .cons a b c t, e, r => by
    simp only [List.getElem?_cons_zero, Option.some.injEq, Prod.mk.injEq] at e
    obtain ⟨rfl, rfl, rfl⟩ := e
    exact .cons a b r t
  | _, _, j + 1, _, _, _, _, _, .cons a b c t, e, r => .cons a b c (ents_set (j := j) t (by simpa using e) r)
theorem rpk_push {K : PySem.W.Frag} {w : World} {k d : D} {x y : V} : ∀ {kvs : List (D × D)} {es : List (Int × V × V)}, Rpk K w H kvs es → Rp K w H k x → Rp K w H d y → Rpk K w H (kvs ++ [(k, d)]) (es ++ [((dk k).hash w, x, y)])
  | [], _, h, h1, h2 => by
    rw [Rpk] at h; subst h
    show Rpk K w H [(k, d)] [_]
    rw [Rpk]; exact ⟨x, y, [], rfl, h1, h2, by rw [Rpk]⟩
  | (k', d') :: r, _, h, h1, h2 => by
    rw [Rpk] at h
    obtain ⟨x', y', q, rfl, a, b, c⟩ := h
    show Rpk K w H ((k', d') :: (r ++ [(k, d)])) (_ :: (q ++ [_]))
    rw [Rpk]
    exact ⟨x', y', _, rfl, a, b, rpk_push c h1 h2⟩
theorem rpk_set {K : PySem.W.Frag} {w : World} {k d d0 : D} {y : V} : ∀ {kvs : List (D × D)} {es : List (Int × V × V)} {j : Nat}, Rpk K w H kvs es → kvs[j]? = some (k, d0) → Rp K w H d y →
    ∃ x y0, es[j]? = some ((dk k).hash w, x, y0) ∧ Rpk K w H (kvs.set j (k, d)) (es.set j ((dk k).hash w, x, y))
  | [], _, _, _, e, _ => by simp at e
  | (k', d') :: r, _, 0, h, e, h2 => by
    rw [Rpk] at h
    obtain ⟨x', y', q, rfl, a, b, c⟩ := h
    simp only [List.getElem?_cons_zero, Option.some.injEq, Prod.mk.injEq] at e
    obtain ⟨rfl, rfl⟩ := e
    refine ⟨x', y', rfl, ?_⟩
    show Rpk K w H ((k', d) :: r) (_ :: q)
    rw [Rpk]
    exact ⟨x', y, q, rfl, a, h2, c⟩
  | (k', d') :: r, _, j + 1, h, e, h2 => by
    rw [Rpk] at h
    obtain ⟨x', y', q, rfl, a, b, c⟩ := h
    obtain ⟨x, y0, e1, e2⟩ := rpk_set (j := j) c (by simpa using e) h2
    refine ⟨x, y0, by simpa using e1, ?_⟩
    show Rpk K w H ((k', d') :: (r.set j (k, d))) (_ :: (q.set j _))
    rw [Rpk]
    exact ⟨x', y', _, rfl, a, b, e2⟩
end
end T3
set_option autoImplicit false
namespace T3
open PySem PySem.Spec PyProof.Rows L2

section
variable {X : Cx}
theorem in1_units {A : Around} (hu : A.units + 64 < cLine) : A.in1.units + 8 < cLine := by
  show A.units + 1 + 8 < _
  omega
/-! ### d[k], k in d -/
def rIxDk (K : PySem.W.Frag) (w : World) : R2 := fun x y H Q => ∃ a kvs k d, x = .ref a ∧ DtR K w H a kvs ∧ kfit k = true ∧ Rp K w H k y ∧ dget kvs k = some d ∧ ∀ v, Rp K w H d v → Q v H
theorem mem_of_dget {k d : D} : ∀ {kvs : List (D × D)}, dget kvs k = some d → k ∈ kvs.map (·.1)
  | [], h => by cases h
  | (k', d') :: r, h => by
    rw [dget] at h
    split at h
    · rename_i e; subst e; simp
    · rw [List.map_cons]; exact List.mem_cons_of_mem _ (mem_of_dget h)
theorem dk_mem {kvs : List (D × D)} {k : D} (h : k ∈ kvs.map (·.1)) : dk k ∈ kvs.map fun p => dk p.1 := by
  obtain ⟨p, hp, rfl⟩ := List.mem_map.mp h
  exact List.mem_map.mpr ⟨p, hp, rfl⟩
theorem dt_typeIs {s : Shared} {a : Addr} {o : Obj} (ho : s.heap.get? a = some o) (hc : o.ExactDict) : s.TypeIs (.ref a) "dict" := ⟨o, ho, hc.1⟩
section
variable {pins : List (Addr × Obj)} {σ : L2.St} {H : Hp} {s : Shared} {a : Addr} {kvs : List (D × D)} {k : D} {y : V} {u : Value}
/-- the entry's value, in the abstract -/
theorem dget_place (hu : X.A.units + 64 < cLine) (I : Inv X pins σ H s) (hD : DtR X.K X.w H a kvs) (hf : kfit k = true) (hk : Rp X.K X.w H k y) (r : RelV y u) {A : Around} (hA : A.units + 8 < cLine) {E : Value → Shared → Prop} {Q : Option Value → Shared → Prop}
    (q0 : dget kvs k = none → ∀ n, Q none { s with toks := n }) (q1 : ∀ d v w, dget kvs k = some d → Rp X.K X.w H d v → RelV v w → ∀ n, Q (some w) { s with toks := n }) : wpAny (model X.prog X.w) A (dictGet a u) Q E s := by
  obtain ⟨o, arr, ep, es, ho, hc, hd, hm, hz, hz2, ea, er, ka, kn⟩ := dict_at I hD
  refine get_nk hA (nk_of I hf hk r) ho hd ka kn (fun h => q0 (dget_none (key_none h))) fun j e hj he => ?_
  obtain ⟨d, hj2⟩ := key_place hD.ok hf hj
  obtain ⟨e2, x, v, h1, _, _, _, h5, h6⟩ := ent_at (X := X) er ea hj2
  rw [Array.getElem?_toList, he] at h1
  cases h1
  exact q1 d v _ (dget_at hD.ok.2 hj2) h6 h5
end
theorem ix_dk (hu : X.A.units + 64 < cLine) : IxR X (rIxDk X.K X.w) := by
  intro value slice pins s σ H x y v u Q I rx ry h hs
  obtain ⟨a, kvs, k, d, rfl, hD, hf, hk, hg, q⟩ := h
  cases rx
  obtain ⟨o, arr, ep, es, ho, hc, hd, hm, hz, hz2, ea, er, ka, kn⟩ := dict_at I hD
  have ty := dt_typeIs ho hc
  refine tail_any ty slot_dict_getitem.lookup ?_ hs
  unfold getItem
  try with_reducible refine wpAny_holding ?_
  refine wpAny_bind (wpAny_sequenceKey ty (by decide) ?_)
  refine wpAny_bind (wpAny_callSpecial?_slot (name := Str.ofString "__getitem__") ty slot_dict_getitem (wpAny_call_entry slot_dict_getitem ty entry_dict_getitem ?_ (args_dict_getitem _ _)))
  show wpAny _ _ (dictGet a u >>= _) _ _ s
  refine wpAny_bind (dget_place hu I hD hf hk ry (in1_units hu) (fun h => ?_) fun d' v w h1 h2 h3 n => ?_)
  · rw [h] at hg; cases hg
  · rw [hg] at h1; cases h1
    exact wpAny_pure ⟨w, rfl, wpAny_pure ⟨v, H, I.tok _, h3, q v h2⟩⟩
def rInDk (K : PySem.W.Frag) (w : World) (g : Bool → Bool) : R2 := fun x y H Q => ∃ a kvs k, y = .ref a ∧ DtR K w H a kvs ∧ kfit k = true ∧ Rp K w H k x ∧ Q (.bl (g (dget kvs k).isSome)) H
theorem has_dk (hu : X.A.units + 64 < cLine) {pins : List (Addr × Obj)} {σ : L2.St} {H : Hp} {s : Shared} {a : Addr} {kvs : List (D × D)} {k : D} {x : V} {v : Value} {Q : Bool → Shared → Prop} (I : Inv X pins σ H s) (hD : DtR X.K X.w H a kvs) (hf : kfit k = true) (hk : Rp X.K X.w H k x) (r : RelV x v)
    (q : ∀ n, Q (dget kvs k).isSome { s with toks := n }) : wpAny (model X.prog X.w) X.A (contains (.ref a) v) Q X.xe s := by
  obtain ⟨o, arr, ep, es, ho, hc, hd, hm, hz, hz2, ea, er, ka, kn⟩ := dict_at I hD
  have ty := dt_typeIs ho hc
  refine wpAny_contains_slot ty PySem.F.slot_dict_contains ?_
  refine call_meetsIn PySem.F.slot_dict_contains ty PySem.F.entry_dict_contains (PySem.F.args_dict_contains_2 _ _) (S := fun A' R s' => A' = X.A ∧ s' = s ∧ ∀ n, R (.ok (.ret (.bool (dget kvs k).isSome))) { s with toks := n }) (fun A' R s' hS => ?_) ⟨rfl, rfl, fun n => wpAny_truthy_bool (q n)⟩
  obtain ⟨rfl, rfl, hq⟩ := hS
  show wpAny _ _ (dictGet a v >>= _) _ _ _
  refine wpAny_bind (dget_place hu I hD hf hk r (in1_units hu) (fun h n => ?_) fun d' v' w h1 h2 h3 n => ?_)
  · rw [h] at hq
    show wpAny _ _ (Builtin.Dict.pendingKey? a v >>= _) _ _ _
    exact wpAny_bind (wpAny_pendingKey_other hm (wpAny_pure (hq n)))
  · rw [h1] at hq
    show wpAny _ _ (ret (.bool true)) _ _ _
    exact wpAny_pure (hq n)
theorem op_in_dk (hu : X.A.units + 64 < cLine) : OpR X (compareOp .In) (rInDk X.K X.w id) := by
  intro pins s σ H x y v u Q I rx ry h
  obtain ⟨a, kvs, k, rfl, hD, hf, hk, q⟩ := h
  cases ry
  show wpAny _ _ (do return Value.bool (← contains (.ref a) v)) _ _ s
  exact wpAny_bind (has_dk hu I hD hf hk rx fun n => wpAny_pure ⟨.bl (id (dget kvs k).isSome), H, I.tok _, rfl, q⟩)
theorem op_notIn_dk (hu : X.A.units + 64 < cLine) : OpR X (compareOp .NotIn) (rInDk X.K X.w not) := by
  intro pins s σ H x y v u Q I rx ry h
  obtain ⟨a, kvs, k, rfl, hD, hf, hk, q⟩ := h
  cases ry
  show wpAny _ _ (do return Value.bool (!(← contains (.ref a) v))) _ _ s
  exact wpAny_bind (has_dk hu I hD hf hk rx fun n => wpAny_pure ⟨.bl (not (dget kvs k).isSome), H, I.tok _, rfl, q⟩)
/-- d.get(k), d.get(k, other) -/
def rGetDk (K : PySem.W.Frag) (w : World) : V → List V → Hp → VK → Prop := fun x xs H Q => ∃ a kvs k y d0 y0, x = .ref a ∧ (xs = [y, y0] ∨ (xs = [y] ∧ y0 = .non)) ∧ DtR K w H a kvs ∧ kfit k = true ∧ Rp K w H k y ∧ Rp K w H d0 y0 ∧ ∀ v, Rp K w H ((dget kvs k).getD d0) v → Q v H
theorem mt_get_dk (hu : X.A.units + 64 < cLine) : MtR X "dict.get" (rGetDk X.K X.w) := by
  intro pins s σ H x xs v us Q I rx rxs h
  obtain ⟨a, kvs, k, y, d0, y0, rfl, hxs, hD, hf, hk, h0, q⟩ := h
  cases rx
  obtain ⟨o, arr, ep, es, ho, hc, hd, hm, hz, hz2, ea, er, ka, kn⟩ := dict_at I hD
  have ty := dt_typeIs ho hc
  rcases hxs with rfl | ⟨rfl, rfl⟩
  · cases rxs with | cons r1 r2 =>
    cases r2 with | cons r2 r3 =>
    cases r3
    rename_i u u0
    refine call_meetsIn PySem.F.slot_dict_get ty PySem.F.entry_dict_get (PySem.F.args_dict_get_3 _ _ _) (S := fun A' R s' => A' = X.A ∧ s' = s ∧ ∀ n v w, Rp X.K X.w H ((dget kvs k).getD d0) v → RelV v w → R (.ok (.ret w)) { s with toks := n }) (fun A' R s' hS => ?_) ⟨rfl, rfl, fun n v w hv hw => ⟨v, H, I.tok _, hw, q v hv⟩⟩
    obtain ⟨rfl, rfl, hq⟩ := hS
    show wpAny _ _ (dictGet a u >>= _) _ _ _
    refine wpAny_bind (dget_place hu I hD hf hk r1 (in1_units hu) (fun h n => ?_) fun d' v' w h1 h2 h3 n => ?_)
    · rw [h] at hq
      show wpAny _ _ (Builtin.Dict.missed a u >>= _) _ _ _
      exact wpAny_bind (wpAny_missed_other hm (wpAny_pure (hq n _ _ h0 r2)))
    · rw [h1] at hq
      exact wpAny_pure (hq n _ _ h2 h3)
  · cases rxs with | cons r1 r2 =>
    cases r2
    rename_i u
    refine call_meetsIn PySem.F.slot_dict_get ty PySem.F.entry_dict_get (PySem.F.args_dict_get_2 _ _) (S := fun A' R s' => A' = X.A ∧ s' = s ∧ ∀ n v w, Rp X.K X.w H ((dget kvs k).getD d0) v → RelV v w → R (.ok (.ret w)) { s with toks := n }) (fun A' R s' hS => ?_) ⟨rfl, rfl, fun n v w hv hw => ⟨v, H, I.tok _, hw, q v hv⟩⟩
    obtain ⟨rfl, rfl, hq⟩ := hS
    show wpAny _ _ (dictGet a u >>= _) _ _ _
    refine wpAny_bind (dget_place hu I hD hf hk r1 (in1_units hu) (fun h n => ?_) fun d' v' w h1 h2 h3 n => ?_)
    · rw [h] at hq
      show wpAny _ _ (Builtin.Dict.missed a u >>= _) _ _ _
      exact wpAny_bind (wpAny_missed_other hm (wpAny_pure (hq n _ _ h0 rfl)))
    · rw [h1] at hq
      exact wpAny_pure (hq n _ _ h2 h3)

/-! ### d[k] = v, d.setdefault(k, v) -/
section
variable {pins : List (Addr × Obj)} {σ : L2.St} {H : Hp} {s : Shared} {a : Addr} {kvs : List (D × D)} {es : List (Int × V × V)} {k d : D} {y z : V} {u v : Value} {h' : Heap} {n : Nat}
/-- behind a store of a new key -/
theorem put_new (I : Inv X pins σ H s) (hH : H a = some (dh a es)) (hok : DOk kvs) (er : Rpk X.K X.w H kvs es) {arr : Array DictEntry} (ea : EntsAre es arr.toList) (hm : (a == sysModules) = false) (hz : arr.size < sizeLine) (hf : kfit k = true) (hk : Rp X.K X.w H k y) (rk : RelV y u) (hv : Rp X.K X.w H d z) (rv : RelV z v)
    (hw : Wrote s a (arr.push ⟨(dk k).hash X.w, u, v⟩) h') (hn : k ∉ kvs.map (·.1)) : ∃ es', Inv X pins σ (upd H a (dh a es')) { s with heap := h', toks := n } ∧ RpO X.K X.w (upd H a (dh a es')) a (.dct (dput kvs k d)) := by
  have l := ea.length
  simp only [Array.length_toList] at l
  refine ⟨es ++ [((dk k).hash X.w, y, z)], ?_, ?_⟩
  · refine I.write (x := a) (e := a) (by rw [hH]; exact True.intro) (.inl rfl) (fun b o hb e => (hw.choose_spec.choose_spec.2.2.2.2 b hb).trans e) ⟨_, hw.choose_spec.choose_spec.1⟩ ?_
    refine wrote_ok hw hm (by rw [List.length_append, List.length_cons, List.length_nil]; omega) ?_
    rw [Array.toList_push]
    exact ents_push ea rfl rk rv
  · have pe := pers_upd (u := dh a (es ++ [((dk k).hash X.w, y, z)])) hH chg_dh
    refine ⟨_, upd_same, hok.put hf, ?_⟩
    rw [dput_new hn]
    exact rpk_push (er.pers pe) (hk.pers pe) (hv.pers pe)
/-- behind a store at a key that is there -/
theorem put_old (I : Inv X pins σ H s) (hH : H a = some (dh a es)) (hok : DOk kvs) (er : Rpk X.K X.w H kvs es) {arr : Array DictEntry} (ea : EntsAre es arr.toList) (hm : (a == sysModules) = false) (hz : arr.size ≤ sizeLine) (hv : Rp X.K X.w H d z) (rv : RelV z v) (hf : kfit k = true) {j : Nat} {d0 : D}
    (hw : Wrote s a (arr.modify j fun e => { e with val := v }) h') (hj : kvs[j]? = some (k, d0)) : ∃ es', Inv X pins σ (upd H a (dh a es')) { s with heap := h', toks := n } ∧ RpO X.K X.w (upd H a (dh a es')) a (.dct (dput kvs k d)) := by
  have l := ea.length
  simp only [Array.length_toList] at l
  obtain ⟨x, y0, e1, _⟩ := rpk_set er hj hv
  refine ⟨es.set j ((dk k).hash X.w, x, z), ?_, ?_⟩
  · refine I.write (x := a) (e := a) (by rw [hH]; exact True.intro) (.inl rfl) (fun b o hb e => (hw.choose_spec.choose_spec.2.2.2.2 b hb).trans e) ⟨_, hw.choose_spec.choose_spec.1⟩ ?_
    refine wrote_ok hw hm (by rw [List.length_set]; omega) ?_
    rw [Array.toList_modify]
    exact ents_set ea e1 rv
  · have pe := pers_upd (u := dh a (es.set j ((dk k).hash X.w, x, z))) hH chg_dh
    refine ⟨_, upd_same, hok.put hf, ?_⟩
    rw [dput_old hok.2 hj]
    obtain ⟨x', y0', e1', r'⟩ := rpk_set (er.pers pe) hj (hv.pers pe)
    rw [e1] at e1'; cases e1'
    exact r'
end
/-- what a store asks: o = the dict at a -/
def rSetDk (K : PySem.W.Frag) (w : World) : TSet := fun o i v H Q => ∃ a kvs k d, o = .ref a ∧ RpO K w H a (.dct kvs) ∧ kvs.length < sizeLine ∧ kfit k = true ∧ Rp K w H k i ∧ Rp K w H d v ∧ ∀ u', RpO K w (upd H a u') a (.dct (dput kvs k d)) → Q (upd H a u')
theorem set_dk (hu : X.A.units + 64 < cLine) : PSet X (rSetDk X.K X.w) := by
  intro pins s σ H ov iv vv o i v Q I ro ri rv h
  obtain ⟨a, kvs, k, d, rfl, ⟨es, hH, hok, er0⟩, hl, hf, hk, hv, q⟩ := h
  cases ro
  obtain ⟨o, arr, ep, es2, ho, hc, hd, hm, hz, hz2, ea, er, ka, kn⟩ := dict_at I (a := a) (kvs := kvs) ⟨es, .inl hH, hok, er0⟩
  have ty := dt_typeIs ho hc
  have de : DE a es s.heap := (show ObjOk X.prog X.w H s.heap a (.ext (DE a es)) from I.hok a _ hH).1
  obtain ⟨_, _, o', arr', ep', ho', _, hd', ea'⟩ := de
  rw [ho] at ho'; cases ho'
  rw [hd] at hd'; cases hd'
  unfold setItem
  try with_reducible refine wpAny_holding ?_
  refine wpAny_bind (wpAny_sequenceKey ty (by decide) ?_)
  refine wpAny_bind (wpAny_callSpecial?_slot (name := Str.ofString "__setitem__") ty slot_dict_setitem (wpAny_call_entry slot_dict_setitem ty entry_dict_setitem ?_ (args_dict_setitem _ _ _)))
  show wpAny _ _ (Builtin.Dict.notOrdered "__setitem__" ⟨[.ref a, i, v], []⟩ >>= _) _ _ s
  refine wpAny_bind (wpAny_notOrdered_dict ty ?_)
  show wpAny _ _ (dictSet a i v >>= _) _ _ s
  refine wpAny_bind (set_nk (in1_units hu) (nk_of I hf hk ri) ho hc hd ka kn hz2 (fun h h' n hw => ?_) fun j hj h' n hw => ?_)
  · obtain ⟨es', I', r'⟩ := put_new (n := n) I hH hok er0 ea' hm (by omega) hf hk ri hv rv hw (key_none h)
    exact wpAny_pure ⟨.none, rfl, wpAny_pure ⟨_, I', q _ r'⟩⟩
  · obtain ⟨d0, hj2⟩ := key_place hok hf hj
    obtain ⟨es', I', r'⟩ := put_old (n := n) I hH hok er0 ea' hm hz2 hv rv hf hw hj2
    exact wpAny_pure ⟨.none, rfl, wpAny_pure ⟨_, I', q _ r'⟩⟩
end
end T3
set_option autoImplicit false
namespace T3
open PySem PySem.Spec PyProof.Rows L2

/-! ### dicts, read by expressions -/
section
variable {K : PySem.W.Frag} {w : World} {C : Ct} {z : S3} {A : AH} {σ : L2.St} {H : Hp} {d : D} {v : V}
theorem RpB.dict (r : Rel K w C A H) (s : Slots K w C z A σ H) (h : RpB K w z σ H d v) {kvs : List (D × D)} (e : vw A d = .dct kvs) : ∃ a, v = .ref a ∧ DtR K w H a kvs := by
  rcases h with h | ⟨i, f, hi, o, rfl, hs⟩
  · cases d with
    | dct xs =>
      cases e
      rw [Rp] at h
      obtain ⟨a, es, rfl, ⟨o, q⟩, k, rr⟩ := h
      exact ⟨a, rfl, es, .inr ⟨o, q⟩, k, rr⟩
    | ref a =>
      rw [Rp] at h
      subst h
      cases q : A a with
      | none => simp [vw, q] at e
      | some ob =>
        cases ob with
        | dct xs =>
          simp only [vw, q, D.dct.injEq] at e
          subst e
          obtain ⟨es, h1, h2, h3⟩ := r.heap a _ q
          exact ⟨a, rfl, es, .inl h1, h2, h3⟩
        | lst kvs => simp [vw, q] at e
        | ins C fs => simp [vw, q] at e
    | _ => simp [vw] at e
  · obtain ⟨x, h1, h2⟩ := s.val i f hi
    rw [hs] at h1; cases h1
    cases f with
    | md xs =>
      cases e
      obtain ⟨a, rfl, es, h3, h4, h5⟩ := h2
      exact ⟨a, rfl, es, .inl h3, h4, h5⟩
    | ml kvs => simp [frz, vw] at e
    | _ => simp [own] at o
/-- a key is data -/
theorem RpB.key (h : RpB K w z σ H d v) (o : kfit d = true) : Rp K w H d v := by
  rcases h with h | ⟨i, f, hi, oo, rfl, hs⟩
  · exact h
  · cases f <;> simp [own] at oo <;> simp [frz, kfit, kok] at o
/-- what is no object of a slot is data -/
theorem RpB.data (h : RpB K w z σ H d v) (o : ∀ (i : Nat) (e : D), z[i]? = some (some e) → own e = true → d ≠ frz e) : Rp K w H d v := by
  rcases h with h | ⟨i, f, hi, oo, rfl, hs⟩
  · exact h
  · exact absurd rfl (o i f hi oo)
end
/-- d[k] of a row or a dict -/
def fIxA (A : AH) (a b : D) : Option D := match vw A a with
  | .dct kvs => if kfit b = true then dget kvs b else none
  | _ => fIx A a b
def fInA (g : Bool → Bool) (A : AH) (a b : D) : Option D := match vw A b with
  | .dct kvs => if kfit a = true then some (.bl (g (dget kvs a).isSome)) else none
  | _ => fInB g A a b
section
variable {X : Cx} {C : Ct}
abbrev rIxA (X : Cx) : R2 := fun x y H Q => rIx X.K x y H Q ∨ rIxDk X.K X.w x y H Q
theorem ix_all (hu : X.A.units + 64 < cLine) : IxR X (rIxA X) := ix_seq.or (ix_dk hu)
theorem o_ixA : Op2 X C (rIxA X) fIxA := fun z A σ H d1 d2 d x y Q r s h1 h2 e q => by
  unfold fIxA at e
  split at e
  · rename_i kvs e1
    split at e
    · rename_i hk
      obtain ⟨a, rfl, hD⟩ := h1.dict r s e1
      exact .inr ⟨a, kvs, d2, d, rfl, hD, hk, h2.key hk, e, fun v hv => q v H (.same hv)⟩
    · cases e
  · exact .inl (o_ix z A σ H d1 d2 d x y Q r s h1 h2 e q)
abbrev rInA (X : Cx) (g : Bool → Bool) : R2 := fun x y H Q => rInAll X.K g x y H Q ∨ rInDk X.K X.w g x y H Q
theorem op_inA (hu : X.A.units + 64 < cLine) : OpR X (compareOp .In) (rInA X id) := (op_inAll hu).or (op_in_dk hu)
theorem op_notInA (hu : X.A.units + 64 < cLine) : OpR X (compareOp .NotIn) (rInA X not) := (op_notInAll hu).or (op_notIn_dk hu)
theorem o_inA (g : Bool → Bool) : Op2 X C (rInA X g) (fInA g) := fun z A σ H d1 d2 d x y Q r s h1 h2 e q => by
  unfold fInA at e
  split at e
  · rename_i kvs e1
    split at e
    · rename_i hk
      cases e
      obtain ⟨a, rfl, hD⟩ := h2.dict r s e1
      exact .inr ⟨a, kvs, d1, rfl, hD, hk, h1.key hk, q _ H (.same (by rw [Rp]))⟩
    · cases e
  · exact .inl (o_inAll g z A σ H d1 d2 d x y Q r s h1 h2 e q)
/-- d.get(k[, other]) -/
def okDct (A : AH) (d : D) : Bool := match vw A d with
  | .dct _ => true | _ => false
def fGet (A : AH) (d : D) (xs : List D) : Option D := match vw A d, xs with
  | .dct kvs, [k] => if kfit k = true then some ((dget kvs k).getD .non) else none
  | .dct kvs, [k, d0] => if kfit k = true then some ((dget kvs k).getD d0) else none
  | _, _ => none
theorem tyOk_dict {a : Addr} {kvs : List (D × D)} {H : Hp} (h : DtR X.K X.w H a kvs) : TyOk X "dict" (.ref a) H := fun pins σ s v I r => by
  cases r
  obtain ⟨o, arr, ep, es, ho, hc, _⟩ := dict_at I h
  refine ⟨dt_typeIs ho hc, fun b e => ?_⟩
  cases e
  exact ⟨o, ho, hc.2.1⟩
/-- .. with arguments let go -/
structure MtF (X : Cx) (C : Ct) (T : String) (r : V → List V → Hp → VK → Prop) (ok : AH → D → Bool) (f : AH → D → List D → Option D) : Prop where
  ty : ∀ (z : S3) (A : AH) (σ : L2.St) (H : Hp) (d : D) (x : V), Rel X.K X.w C A H → Slots X.K X.w C z A σ H → RpB X.K X.w z σ H d x → ok A d = true → TyOk X T x H
  act : ∀ (z : S3) (A : AH) (σ : L2.St) (H : Hp) (d0 : D) (ds : List D) (d : D) (x : V) (xs : List V) (Q : VK), Rel X.K X.w C A H → Slots X.K X.w C z A σ H →
    RpB X.K X.w z σ H d0 x → Rps X.K X.w H ds xs → f A d0 ds = some d → (∀ v H', Gv X.K X.w H H' d v → Q v H') → r x xs H Q
theorem low_mF {T : String} {r : V → List V → Hp → VK → Prop} {ok : AH → D → Bool} {f : AH → D → List D → Option D} {to : TE3} {ta : TA3} (h : MtF X C T r ok f) {σ : L2.St} {H : Hp} {Q : VK} (hq : low X.K X.w C (eM ok f to ta) σ H Q) : tBW X T r (lowB X.K X.w C to) (lowA X.K X.w C ta) σ H Q := by
  obtain ⟨z, A, Q3, r0, s, q, g⟩ := hq
  refine ⟨z, A, _, r0, s, q, fun d0 A1 v1 H1 q1 r1 s1 p1 t1 => ⟨h.ty z A1 σ H1 d0 v1 r1 s1 t1 q1.1, z, A1, _, r1, s1, q1.2, fun ds A2 vs H2 q2 r2 s2 p2 t2 => ?_⟩⟩
  obtain ⟨d, hd, q3⟩ := q2
  exact h.act z A2 σ H2 d0 ds d v1 vs Q r2 s2 (t1.later p2) t2 hd fun v H' gv => low.gv r2 s2 g (p1.trans p2) q3 gv
theorem pe3_mF {T : String} {r : V → List V → Hp → VK → Prop} {name : Str} {id : String} {o e : Expr} {es : List Expr} {apos cpos : Pos} {ok : AH → D → Bool} {f : AH → D → List D → Option D} {to : TE3} {ta : TA3} (pa : PlainAttrs T) (slot : Slot T name id) (hty : typeOf (.builtin id) = pure (.type "method_descriptor")) (hm : MtR X id r) (h : MtF X C T r ok f) (ho : PB3 X C o to) (ha : PA3 X C (e :: es) ta)
    (hbase : attributeBase o name X.env (eval o X.env) = eval o X.env := by rfl)
    (hfew : ((backTo cpos (starEach (e :: es) X.env)).all (fun x => !x.1) && (backToKw cpos (keywordEach [] X.env)).all (fun x => x.1.isSome)
      && decide ((e :: es).length + ([] : List Keyword).length + (if ([] : List Keyword).isEmpty then 0 else 1) < 30)) = true := by rfl)
    (hline : (apos.endLine == cpos.line) = true := by rfl) (hs : starEach (e :: es) X.env = (false, eval e X.env) :: starEach es X.env := by rfl) (hplain : (backTo cpos (starEach es X.env)).any (·.1) = false := by rfl) :
    PE3 X C (.Call (.Attribute o name apos) (e :: es) [] cpos) (eM ok f to ta) :=
  PE.imp (pe_bw pa slot hty hm ho ha hbase hfew hline hs hplain) fun σ H Q hq => low_mF h hq
theorem m_get : MtF X C "dict" (rGetDk X.K X.w) okDct fGet where
  ty := fun z A σ H d x r s h o => by
    unfold okDct at o
    split at o
    · rename_i kvs e
      obtain ⟨a, rfl, hD⟩ := h.dict r s e
      exact tyOk_dict hD
    · cases o
  act := fun z A σ H d0 ds d x xs Q r s h0 hs e q => by
    unfold fGet at e
    split at e
    · rename_i kvs k e1
      split at e
      · rename_i hk
        cases e
        obtain ⟨a, rfl, hD⟩ := h0.dict r s e1
        rw [Rps] at hs
        obtain ⟨y, t, rfl, hy, ht⟩ := hs
        rw [Rps] at ht; subst ht
        exact ⟨a, kvs, k, y, .non, .non, rfl, .inr ⟨rfl, rfl⟩, hD, hk, hy, by rw [Rp], fun v hv => q v H (.same hv)⟩
      · cases e
    · rename_i kvs k d1 e1
      split at e
      · rename_i hk
        cases e
        obtain ⟨a, rfl, hD⟩ := h0.dict r s e1
        rw [Rps] at hs
        obtain ⟨y, t, rfl, hy, ht⟩ := hs
        rw [Rps] at ht
        obtain ⟨u, t2, rfl, hu, ht2⟩ := ht
        rw [Rps] at ht2; subst ht2
        exact ⟨a, kvs, k, y, d1, u, rfl, .inl rfl, hD, hk, hy, hu, fun v hv => q v H (.same hv)⟩
      · cases e
    · cases e
/-- d[k] = v -/
def gDSet : Ob → D → D → Option Ob
  | .dct kvs, k, d => if kfit k = true ∧ kvs.length < sizeLine then some (.dct (dput kvs k d)) else none
  | _, _, _ => none
theorem s_dset : SetC X (rSetDk X.K X.w) gDSet := fun H a ob ob' k v x y Q h hk hv e q => by
  unfold gDSet at e
  split at e
  · split at e
    · rename_i hc
      cases e
      exact ⟨a, _, _, _, rfl, h, hc.2, hc.1, hk, hv, q⟩
    · cases e
  · cases e
/-- a store into a row or a dict -/
def gSetA : Ob → D → D → Option Ob
  | .dct kvs, k, d => gDSet (.dct kvs) k d
  | ob, k, d => gSet ob k d
/-- {} -/
def eDNew : TE3 := fun _ A Q => Q (.md []) A
theorem pe3_dnew {pos : Pos} : PE3 X C (.Dict [] [] pos) eDNew := PE.imp (t := fun σ H Q => ∀ p, H p = none → Q (.ref p) (upd H p (dh p []))) ⟨fun pins s σ H Q I h => by
  refine wpAny_Dict_empty ⟨.ref s.heap.objs.size, _, I.laid (a := s.heap.objs.size) (o := dh s.heap.objs.size []) (t' := s.toks) (fun _ _ q => Heap.get?_push_of_some _ q) (Nat.le_refl _) ?_, rfl, h _ (I.hok.fresh (Nat.le_refl _))⟩
  have e : (s.heap.push { cls := .type "dict", data := .dict #[] }).get? s.heap.objs.size = some { cls := .type "dict", data := .dict #[] } := Heap.get?_push_size _ rfl
  exact ⟨⟨Nat.zero_le _, beq_eq_false_iff_ne.mpr (Ne.symm (Nat.ne_of_lt I.big)), _, #[], 0, e, ⟨rfl, rfl, rfl⟩, rfl, .nil⟩, ⟨_, e⟩, fun h1 h2 de k => by
    obtain ⟨z, m, o1, arr1, ep1, e1, e2, e3, e4⟩ := de
    exact ⟨z, m, o1, arr1, ep1, k _ e1, e2, e3, e4⟩⟩⟩ fun σ H Q hq => by
  obtain ⟨z, A, Q3, r, s, q, f⟩ := hq
  intro p hp
  exact low.gv r s f (.refl H) q ⟨ext_upd hp, .inr ⟨p, .dct [], hp, rfl, rfl, [], upd_same, ⟨(fun _ h => nomatch h), by simp⟩, by rw [Rpk]⟩⟩
end
end T3
set_option autoImplicit false
namespace T3
open PySem PySem.Spec PyProof.Rows L2

/-! ### sorted -/
def tupNE : D → Bool
  | .tup (_ :: _) => true | _ => false
def plainD : D → Bool
  | .non => false | .tup _ => false | _ => true
/-- rows that may be sorted -/
def okSort (ds : List D) : Bool := poks ds && ds.all (fun a => ds.all fun b => PySem.W.alike (pd a) (pd b)) && (ds.all tupNE || ds.all plainD) && ds.all (fun d => decide (dep d ≤ 50)) && decide (ds.length ≤ sizeLine)
/-- the sorted row -/
def sortD (ds : List D) : List D := ds.mergeSort (PySem.W.dataLe false pd)
theorem poks_mem : ∀ {ds : List D}, poks ds = true → ∀ d ∈ ds, pok d = true
  | [], _, _, hd => by cases hd
  | x :: xs, h, d, hd => by
    simp only [poks, Bool.and_eq_true] at h
    rcases List.mem_cons.mp hd with rfl | hd
    · exact h.1
    · exact poks_mem h.2 d hd
theorem okSort_of {ds : List D} (h : okSort ds = true) : poks ds = true ∧ PySem.W.AllAlike (ds.map pd) ∧ PySem.W.Sortable (ds.map pd) ∧ (∀ d ∈ ds, (pd d).depth ≤ 50) ∧ ds.length ≤ sizeLine := by
  simp only [okSort, Bool.and_eq_true, Bool.or_eq_true, decide_eq_true_eq, List.all_eq_true] at h
  obtain ⟨⟨⟨⟨h1, h2⟩, h3⟩, h4⟩, h5⟩ := h
  refine ⟨h1, fun d hd d' hd' => ?_, ?_, fun d hd => by rw [pd_depth]; exact h4 d hd, h5⟩
  · obtain ⟨a, ha, rfl⟩ := List.mem_map.mp hd
    obtain ⟨b, hb, rfl⟩ := List.mem_map.mp hd'
    exact h2 a ha b hb
  · rcases h3 with h | h
    · refine .inl fun d hd => ?_
      obtain ⟨a, ha, rfl⟩ := List.mem_map.mp hd
      have := h a ha
      cases a with
      | tup xs => cases xs with
        | nil => simp [tupNE] at this
        | cons y r => exact ⟨pd y, pds r, by rw [pd, pds]⟩
      | _ => simp [tupNE] at this
    · refine .inr fun d hd => ?_
      obtain ⟨a, ha, rfl⟩ := List.mem_map.mp hd
      have := h a ha
      have hp := poks_mem h1 a ha
      cases a <;> simp [plainD] at this <;> simp [pok] at hp <;> simp [pd]
section
variable {X : Cx} {pins : List (Addr × Obj)} {σ : L2.St} {H : Hp} {s : Shared}
/-- a value that stands for a datum -/
def Stands (K : PySem.W.Frag) (w : World) (H : Hp) (u : Value) (d : D) : Prop := ∃ x, RelV x u ∧ Rp K w H d x
theorem stands_of {K : PySem.W.Frag} {w : World} : ∀ {us : List Value} {zs : List V} {ds : List D}, Vals zs us → Rps K w H ds zs → PySem.W.EachIs (Stands K w H) us ds
  | _, _, [], .nil, _ => .nil
  | _, _, [], .cons _ _, h => by rw [Rps] at h; cases h
  | _, _, d :: ds, .nil, h => by rw [Rps] at h; obtain ⟨_, _, e, _⟩ := h; cases e
  | _, _, d :: ds, .cons a b, h => by
    rw [Rps] at h
    obtain ⟨x, r, e, h1, h2⟩ := h
    cases e
    exact .cons ⟨_, a, h1⟩ (stands_of b h2)
theorem of_stands {K : PySem.W.Frag} {w : World} : ∀ {us : List Value} {ds : List D}, PySem.W.EachIs (Stands K w H) us ds → ∃ zs, Vals zs us ∧ Rps K w H ds zs
  | _, _, .nil => ⟨[], .nil, Rps.nil⟩
  | _, _, .cons h t => by
    obtain ⟨x, a, b⟩ := h
    obtain ⟨zs, h1, h2⟩ := of_stands t
    exact ⟨_ :: zs, .cons a h1, Rps.cons b h2⟩
theorem reads_of (I : Inv X pins σ H s) {h' : Heap} (k : ∀ b o, s.heap.get? b = some o → h'.get? b = some o) : ∀ {us : List Value} {ds : List D}, poks ds = true → PySem.W.EachIs (Stands X.K X.w H) us ds → PySem.W.EachIs (fun v d => ∃ as, Reads h' v (pd d) as) us ds
  | _, _, _, .nil => .nil
  | _, _, hp, .cons h t => by
    obtain ⟨x, a, b⟩ := h
    simp only [poks, Bool.and_eq_true] at hp
    obtain ⟨as, r⟩ := Dp.reads I _ x _ (Rp.dp hp.1 b) a
    exact .cons ⟨as, PyProof.Rows.Reads.keeps k r⟩ (reads_of I k hp.2 t)
/-- list.sort on a new list of values: then it is the sorted row -/
theorem sort_new (I : Inv X pins σ H s) {A : Around} {E : Value → Shared → Prop} {Q : Value → Shared → Prop} (hu : A.units + 55 < cLine) {us : List Value} {ds : List D} (hs : PySem.W.EachIs (Stands X.K X.w H) us ds) (ok : okSort ds = true)
    (q : ∀ ys h2, Rps X.K X.w H (sortD ds) ys → Inv X pins σ (upd H s.heap.objs.size (.lst ys)) { s with heap := h2 } → Q .none { s with heap := h2 }) :
    wpAny (model X.prog X.w) A (call (.builtin "list.sort") [.ref s.heap.objs.size]) Q E { s with heap := s.heap.push { cls := .type "list", data := .seq us.toArray } } := by
  obtain ⟨hp, hal, hk, hd, hl⟩ := okSort_of ok
  have lus : us.length = ds.length := hs.length
  have ho : (s.heap.push { cls := .type "list", data := .seq us.toArray }).get? s.heap.objs.size = some (seqObj "list" us.toArray 0) := Heap.get?_push_size _ rfl
  have kp : ∀ b o, s.heap.get? b = some o → (PySem.W.sortingHeap (s.heap.push { cls := .type "list", data := .seq us.toArray }) s.heap.objs.size us).get? b = some o := fun b o e =>
    PySem.W.sortingHeap_old (Nat.ne_of_lt (Heap.lt_size e)) (Heap.get?_push_of_some _ e)
  have er := reads_of I kp hp hs
  refine wpAny_call_entry slot_list_sort ⟨_, ho, rfl⟩ entry_list_sort (PySem.W.list_sort_vals (s := { s with heap := s.heap.push { cls := .type "list", data := .seq us.toArray } }) (κ := PySem.W.dataKind (PySem.W.sortingHeap (s.heap.push { cls := .type "list", data := .seq us.toArray }) s.heap.objs.size us) (ds.map pd)) ho
    (PySem.W.SortsAt.data (s := { s with heap := PySem.W.sortingHeap (s.heap.push { cls := .type "list", data := .seq us.toArray }) s.heap.objs.size us }) (PySem.W.each_map (R := fun v d => ∃ as, Reads (PySem.W.sortingHeap (s.heap.push { cls := .type "list", data := .seq us.toArray }) s.heap.objs.size us) v d as) pd er) hal hk (PySem.W.bound_map fun b hb => ?_)) (by omega) ⟨.none, rfl, ?_⟩) (args_list_sort _)
  · have := hd b hb
    show A.units + 1 + _ < _
    omega
  · have es := PySem.W.sortVals_data false hs er hal
    obtain ⟨ys, r1, r2⟩ := of_stands es
    obtain ⟨ep, he⟩ := sortedHeap_at (vs := us) (out := (PySem.W.sortVals (PySem.W.dataKind (PySem.W.sortingHeap (s.heap.push { cls := .type "list", data := .seq us.toArray }) s.heap.objs.size us) (ds.map pd)) false us us).toArray) ho
    have ly : ys.length = ds.length := by rw [r2.length]; show (ds.mergeSort _).length = _; simp
    refine q ys _ r2 (I.laid (t' := s.toks) (fun b u e => ?_) (Nat.le_refl _) ⟨by omega, _, ep, r1, he⟩)
    rw [sortedHeap_old (Nat.ne_of_lt (Heap.lt_size e)) (by rw [Heap.size_push]; exact Nat.lt_succ_of_lt (Heap.lt_size e))]
    exact Heap.get?_push_of_some _ e
/-- sorted(x), once the items are in a row -/
theorem sorted_of {v : Value} {ds : List D} {Q : VK} (hu : X.A.units + 64 < cLine) (ok : okSort ds = true)
    (hc : ∀ (R : List Value → Shared → Prop) (E : Value → Shared → Prop), (∀ us s1, Inv X pins σ H s1 → PySem.W.EachIs (Stands X.K X.w H) us ds → R us s1) → wpAny (model X.prog X.w) X.A.in1 (collect v) R E s)
    (q : ∀ p ys, H p = none → Rps X.K X.w H (sortD ds) ys → Q (.ref p) (upd H p (.lst ys))) : wpAny (model X.prog X.w) X.A (call (.builtin "sorted") [v]) (EP X pins σ Q) X.xe s := by
  refine Calls.call_function_entry PyProof.Rows.kind_sorted PyProof.Rows.plain_sorted PyProof.Rows.entry_sorted (PyProof.Rows.args_sorted1 _) ?_
  unfold Builtin.«sorted»
  refine wpAny_bind (m := checkCount "sorted" 1 1 _) (wpAny_pure ?_)
  refine wpAny_bind (hc _ _ fun us s1 I1 hs => ?_)
  have hl := (okSort_of ok).2.2.2.2
  refine wpAny_bind (wpAny_newList ?_ (by have := hs.length; omega))
  refine wpAny_bind (wpAny_holding (wpAny_mono (sort_new (A := X.A.in1) (E := X.xe) (Q := fun _ s' => ∃ w, EP X pins σ Q w s' ∧ w = .ref s1.heap.objs.size) I1 (by show X.A.units + 1 + 55 < _; omega) hs ok fun ys h2 r I2 => ?_) (fun _ s' x => ?_) fun _ _ e => ?_))
  · exact ⟨_, ⟨.ref s1.heap.objs.size, _, I2, rfl, q _ ys I1.fresh r⟩, rfl⟩
  · obtain ⟨w, x, rfl⟩ := x
    exact wpAny_pure ⟨_, rfl, x⟩
  · exact e
end
end T3
set_option autoImplicit false
namespace T3
open PySem PySem.Spec PyProof.Rows L2

/-! ### what may be put in a row: lists, tuples, a dict's keys -/
def rowOf (A : AH) (d : D) : Option (List D) := match vw A d with
  | .lst xs => some xs
  | .tup xs => some xs
  | .dct kvs => some (kvs.map (·.1))
  | _ => none
def Row (K : PySem.W.Frag) (w : World) (H : Hp) (v : V) (ds : List D) : Prop := ∃ a, v = .ref a ∧ ((∃ zs, (SqL K H a zs ∨ SqT K H a zs) ∧ Rps K w H ds zs) ∨ ∃ kvs, DtR K w H a kvs ∧ ds = kvs.map (·.1))
theorem RpB.row {K : PySem.W.Frag} {w : World} {C : Ct} {z : S3} {A : AH} {σ : L2.St} {H : Hp} {d : D} {v : V} {ds : List D} (r : Rel K w C A H) (s : Slots K w C z A σ H) (h : RpB K w z σ H d v) (e : rowOf A d = some ds) : Row K w H v ds := by
  unfold rowOf at e
  split at e
  · rename_i xs e1
    cases e
    obtain ⟨a, zs, rfl, h1, h2⟩ := h.list r s e1
    exact ⟨a, rfl, .inl ⟨zs, .inl h1, h2⟩⟩
  · rename_i xs e1
    cases e
    obtain ⟨a, zs, rfl, h1, h2⟩ := h.tup (A := A) e1
    exact ⟨a, rfl, .inl ⟨zs, .inr h1.sqt, h2⟩⟩
  · rename_i kvs e1
    cases e
    obtain ⟨a, rfl, hD⟩ := h.dict r s e1
    exact ⟨a, rfl, .inr ⟨kvs, hD, rfl⟩⟩
  · cases e
section
variable {X : Cx} {pins : List (Addr × Obj)} {σ : L2.St} {H : Hp} {s : Shared} {a : Addr} {kvs : List (D × D)}
theorem each_at {R : Value → D → Prop} : ∀ {us : List Value} {ds : List D}, us.length = ds.length → (∀ (j : Nat) (u : Value) (d : D), us[j]? = some u → ds[j]? = some d → R u d) → PySem.W.EachIs R us ds
  | [], [], _, _ => .nil
  | [], _ :: _, h, _ => by simp at h
  | _ :: _, [], h, _ => by simp at h
  | u :: us, d :: ds, h, f => .cons (f 0 u d rfl rfl) (each_at (by simpa using h) fun j u' d' h1 h2 => f (j + 1) u' d' (by simpa using h1) (by simpa using h2))
/-- a dict's keys, read off -/
theorem keys_stand {arr : Array DictEntry} {es : List (Int × V × V)} (ea : EntsAre es arr.toList) (er : Rpk X.K X.w H kvs es) (hz : arr.size = kvs.length) {us : List Value} (hl : us.length = arr.size) (hp : ∀ (j : Nat) (u : Value), us[j]? = some u → ∃ hi : j < arr.size, u = arr[j].key) : PySem.W.EachIs (Stands X.K X.w H) us (kvs.map (·.1)) := by
  refine each_at (by rw [List.length_map]; omega) fun j u d h1 h2 => ?_
  rw [List.getElem?_map] at h2
  cases q : kvs[j]? with
  | none => rw [q] at h2; cases h2
  | some p =>
    rw [q] at h2; cases h2
    obtain ⟨hi, rfl⟩ := hp j u h1
    obtain ⟨e, x, y, e1, _, e3, e4, _, _⟩ := ent_at (X := X) (k := p.1) (d := p.2) er ea q
    rw [Array.getElem?_toList, Array.getElem?_eq_getElem hi] at e1
    cases e1
    exact ⟨x, e3, e4⟩
theorem vals_stand {arr : Array DictEntry} {es : List (Int × V × V)} (ea : EntsAre es arr.toList) (er : Rpk X.K X.w H kvs es) (hz : arr.size = kvs.length) {us : List Value} (hl : us.length = arr.size) (hp : ∀ (j : Nat) (u : Value), us[j]? = some u → ∃ hi : j < arr.size, u = arr[j].val) : PySem.W.EachIs (Stands X.K X.w H) us (kvs.map (·.2)) := by
  refine each_at (by rw [List.length_map]; omega) fun j u d h1 h2 => ?_
  rw [List.getElem?_map] at h2
  cases q : kvs[j]? with
  | none => rw [q] at h2; cases h2
  | some p =>
    rw [q] at h2; cases h2
    obtain ⟨hi, rfl⟩ := hp j u h1
    obtain ⟨e, x, y, e1, _, _, _, e5, e6⟩ := ent_at (X := X) (k := p.1) (d := p.2) er ea q
    rw [Array.getElem?_toList, Array.getElem?_eq_getElem hi] at e1
    cases e1
    exact ⟨y, e5, e6⟩
/-- the row of x, by the machine's own walk -/
theorem collect_row (hc : X.calm = true) (I : Inv X pins σ H s) {v : V} {u : Value} {ds : List D} (h : Row X.K X.w H v ds) (r : RelV v u) (R : List Value → Shared → Prop) (E : Value → Shared → Prop)
    (q : ∀ us s1, Inv X pins σ H s1 → PySem.W.EachIs (Stands X.K X.w H) us ds → R us s1) : wpAny (model X.prog X.w) X.A.in1 (collect u) R E s := by
  obtain ⟨a, rfl, h⟩ := h
  cases r
  rcases h with ⟨zs, h | h, hr⟩ | ⟨kvs, hD, rfl⟩
  · obtain ⟨its, rv, ⟨o, n, e, c, dd, sd⟩, hz⟩ := I.list h
    refine wpAny_collect_seq a (.inl rfl) e c sd (fun h' k => q _ _ (I.kept (t' := s.toks) k) ?_) (by rw [List.size_toArray, ← rv.length]; exact hz)
    exact stands_of (by simpa using rv) hr
  · obtain ⟨its, rv, ⟨o, e, c, n, sd⟩, hz⟩ := I.tuple h
    refine wpAny_collect_seq a (.inr rfl) e c sd (fun h' k => q _ _ (I.kept (t' := s.toks) k) ?_) (by rw [List.size_toArray, ← rv.length]; exact hz)
    exact stands_of (by simpa using rv) hr
  · obtain ⟨o, arr, ep, es, ho, hcx, hd, hm, hz, hz2, ea, er, ka, kn⟩ := dict_at I hD
    refine PySem.W.kdu_collect (A := X.A.in1) (KdlSrc.rawDict (es := arr) (ep := ep) hm) (I.ok.hd hc) ⟨o, ho, hcx, hd⟩ hz2 fun h' tk acc k ha => ?_
    refine q _ _ (I.kept k) (keys_stand ea er hz (by rw [Array.length_toList]; exact ha.1) fun j u hj => ha.2 j u (by rw [← Array.getElem?_toList]; exact hj))
end
def rSortA (X : Cx) : List V → Hp → VK → Prop := fun xs H Q => ∃ v ds, xs = [v] ∧ Row X.K X.w H v ds ∧ okSort ds = true ∧ ∀ p ys, H p = none → Rps X.K X.w H (sortD ds) ys → Q (.ref p) (upd H p (.lst ys))
def fSorted (A : AH) : List D → Option D
  | [d] => (rowOf A d).bind fun ds => if okSort ds = true then some (.ml (sortD ds)) else none
  | _ => none
section
variable {X : Cx} {C : Ct}
theorem call_sortedA (hc : X.calm = true) (hu : X.A.units + 64 < cLine) : CallR X (.builtin "sorted") (rSortA X) := by
  intro pins s σ H xs us Q I r h
  obtain ⟨v, ds, rfl, hR, ok, q⟩ := h
  obtain ⟨u, rfl, ru⟩ := vals1 r
  exact sorted_of hu ok (fun R E k => collect_row hc I hR ru R E k) q
theorem o_sorted : OpN X C (rSortA X) fSorted := fun z A σ H ds d xs Q r s h e q => by
  unfold fSorted at e
  split at e
  · obtain ⟨v, rfl, hb⟩ := h.one
    rename_i d0
    cases hr : rowOf A d0 with
    | none => rw [hr] at e; cases e
    | some row =>
      rw [hr] at e
      simp only [Option.bind_some] at e
      split at e
      · rename_i ok
        cases e
        exact ⟨v, row, rfl, hb.row r s hr, ok, fun p ys hp hy => q _ _ (.lst hp hy)⟩
      · cases e
  · cases e
/-- list(x) -/
def rListA (X : Cx) : List V → Hp → VK → Prop := fun xs H Q => (∃ p ys, xs = [.ref p] ∧ (SqL X.K H p ys ∨ SqT X.K H p ys) ∧ ∀ l, H l = none → Q (.ref l) (upd H l (.lst ys))) ∨
  ∃ a kvs, xs = [.ref a] ∧ DtR X.K X.w H a kvs ∧ ∀ l ys, H l = none → Rps X.K X.w H (kvs.map (·.1)) ys → Q (.ref l) (upd H l (.lst ys))
/-- a new list of what was walked -/
theorem list_new {pins : List (Addr × Obj)} {σ : L2.St} {H : Hp} {s : Shared} {h' : Heap} {tk : Nat} {acc : Array Value} {c : Nat} {ds : List D} {Q : VK} (I : Inv X pins σ H s) (k : ∀ b o, s.heap.get? b = some o → h'.get? b = some o) (e : h'.get? s.heap.objs.size = some { cls := .type "list", dict := none, data := .seq acc c, slots := #[] })
    (hs : PySem.W.EachIs (Stands X.K X.w H) acc.toList ds) (hl : ds.length ≤ sizeLine) (q : ∀ l ys, H l = none → Rps X.K X.w H ds ys → Q (.ref l) (upd H l (.lst ys))) : EP X pins σ Q (.ref s.heap.objs.size) { s with heap := h', toks := tk } := by
  obtain ⟨ys, r1, r2⟩ := of_stands hs
  exact ⟨.ref s.heap.objs.size, _, I.laid (t' := tk) (o := .lst ys) k (Nat.le_refl _) ⟨by rw [r2.length]; exact hl, _, c, r1, by simpa using e⟩, rfl, q _ ys I.fresh r2⟩
theorem call_listA (hc : X.calm = true) : CallR X (.type "list") (rListA X) := by
  intro pins s σ H xs us Q I r h
  rcases h with h | ⟨a, kvs, rfl, hD, q⟩
  · exact call_list_of pins s σ H xs us Q I r h
  · obtain ⟨u, rfl, ru⟩ := vals1 r
    cases ru
    obtain ⟨o, arr, ep, es, ho, hcx, hd, hm, hz, hz2, ea, er, ka, kn⟩ := dict_at I hD
    refine PySem.W.kdl_call (KdlSrc.rawDict (es := arr) (ep := ep) hm) (I.ok.hd hc) ⟨o, ho, hcx, hd⟩ hz2 fun h' tk acc c k e ha => ?_
    exact list_new I k e (keys_stand ea er hz (by rw [Array.length_toList]; exact ha.1) fun j u hj => ha.2 j u (by rw [← Array.getElem?_toList]; exact hj)) (by rw [List.length_map]; omega) q
def fListA (A : AH) : List D → Option D
  | [d] => (rowOf A d).map .ml
  | _ => none
theorem o_listA : OpN X C (rListA X) fListA := fun z A σ H ds d xs Q r s h e q => by
  unfold fListA at e
  split at e
  · obtain ⟨v, rfl, hb⟩ := h.one
    rename_i d0
    cases hr : rowOf A d0 with
    | none => rw [hr] at e; cases e
    | some row =>
      rw [hr] at e; cases e
      obtain ⟨a, rfl, hx⟩ := hb.row r s hr
      rcases hx with ⟨zs, h1, h2⟩ | ⟨kvs, hD, rfl⟩
      · exact .inl ⟨a, zs, rfl, h1, fun l hl => q _ _ (.lst hl h2)⟩
      · exact .inr ⟨a, kvs, rfl, hD, fun l ys hl hy => q _ _ (.lst hl hy)⟩
  · cases e
end
end T3
set_option autoImplicit false
namespace T3
open PySem PySem.Spec PyProof.Rows L2

/-! ### dict(pairs) -/
def pairsOf : List D → Option (List (D × D))
  | [] => some []
  | .tup [k, d] :: r => if kfit k = true then (pairsOf r).map ((k, d) :: ·) else none
  | _ :: _ => none
def mkD (ps : List (D × D)) : List (D × D) := ps.foldl (fun acc p => dput acc p.1 p.2) []
theorem mkD_take {ps : List (D × D)} {i : Nat} {k d : D} (h : ps[i]? = some (k, d)) : mkD (ps.take (i + 1)) = dput (mkD (ps.take i)) k d := by
  unfold mkD
  rw [List.take_add_one, h, List.foldl_append]
  rfl
theorem mkD_ok : ∀ {ps acc : List (D × D)}, (∀ p ∈ ps, kfit p.1 = true) → DOk acc → DOk (ps.foldl (fun acc p => dput acc p.1 p.2) acc)
  | [], _, _, h => h
  | (k, d) :: r, acc, hp, h => mkD_ok (ps := r) (fun p hp' => hp p (List.mem_cons_of_mem _ hp')) (h.put (hp (k, d) List.mem_cons_self))
theorem mkD_length : ∀ {ps acc : List (D × D)}, (ps.foldl (fun acc p => dput acc p.1 p.2) acc).length ≤ acc.length + ps.length
  | [], _ => by simp
  | (k, d) :: r, acc => by
    have h1 := mkD_length (ps := r) (acc := dput acc k d)
    have h2 := dput_length (kvs := acc) (k := k) (d := d)
    simp only [List.foldl_cons, List.length_cons]
    omega
theorem DOk.nil : DOk [] := ⟨fun _ h => (nomatch h), by simp⟩
theorem pairsOf_fit : ∀ {ds : List D} {ps : List (D × D)}, pairsOf ds = some ps → ∀ p ∈ ps, kfit p.1 = true
  | [], _, h, p, hp => by cases h; cases hp
  | .tup [k, d] :: r, ps, h, p, hp => by
    rw [pairsOf] at h
    split at h
    · rename_i hk
      cases q : pairsOf r with
      | none => rw [q] at h; cases h
      | some qs =>
        rw [q] at h; cases h
        rcases List.mem_cons.mp hp with rfl | hp
        · exact hk
        · exact pairsOf_fit q p hp
    · cases h
  | .tup [] :: _, _, h, _, _ => by simp [pairsOf] at h
  | .tup [_] :: _, _, h, _, _ => by simp [pairsOf] at h
  | .tup (_ :: _ :: _ :: _) :: _, _, h, _, _ => by simp [pairsOf] at h
  | .non :: _, _, h, _, _ => by simp [pairsOf] at h
  | .bl _ :: _, _, h, _, _ => by simp [pairsOf] at h
  | .int _ :: _, _, h, _, _ => by simp [pairsOf] at h
  | .str _ :: _, _, h, _, _ => by simp [pairsOf] at h
  | .lst _ :: _, _, h, _, _ => by simp [pairsOf] at h
  | .dct _ :: _, _, h, _, _ => by simp [pairsOf] at h
  | .ref _ :: _, _, h, _, _ => by simp [pairsOf] at h
  | .ml _ :: _, _, h, _, _ => by simp [pairsOf] at h
  | .md _ :: _, _, h, _, _ => by simp [pairsOf] at h
theorem pairsOf_eq : ∀ {ds : List D} {ps : List (D × D)}, pairsOf ds = some ps → ds = ps.map fun p => .tup [p.1, p.2]
  | [], _, h => by cases h; rfl
  | .tup [k, d] :: r, ps, h => by
    rw [pairsOf] at h
    split at h
    · cases q : pairsOf r with
      | none => rw [q] at h; cases h
      | some qs => rw [q] at h; cases h; rw [pairsOf_eq q]; rfl
    · cases h
  | .tup [] :: _, _, h => by simp [pairsOf] at h
  | .tup [_] :: _, _, h => by simp [pairsOf] at h
  | .tup (_ :: _ :: _ :: _) :: _, _, h => by simp [pairsOf] at h
  | .non :: _, _, h => by simp [pairsOf] at h
  | .bl _ :: _, _, h => by simp [pairsOf] at h
  | .int _ :: _, _, h => by simp [pairsOf] at h
  | .str _ :: _, _, h => by simp [pairsOf] at h
  | .lst _ :: _, _, h => by simp [pairsOf] at h
  | .dct _ :: _, _, h => by simp [pairsOf] at h
  | .ref _ :: _, _, h => by simp [pairsOf] at h
  | .ml _ :: _, _, h => by simp [pairsOf] at h
  | .md _ :: _, _, h => by simp [pairsOf] at h
section
variable {X : Cx} {pins : List (Addr × Obj)} {σ : L2.St} {H : Hp} {s : Shared}
/-- the pair at place j of the row, in the heap -/
theorem pair_at (I : Inv X pins σ H s) {zs : List V} {us : List Value} {ps : List (D × D)} (hr : Rps X.K X.w H (ps.map fun p => .tup [p.1, p.2]) zs) (rv : Vals zs us) {j : Nat} {k d : D} (e : ps[j]? = some (k, d)) :
    ∃ T x y u v, us[j]? = some (.ref T) ∧ PairAt s.heap T u v ∧ RelV x u ∧ Rp X.K X.w H k x ∧ RelV y v ∧ Rp X.K X.w H d y := by
  obtain ⟨z, hz, rz⟩ := hr.get (i := j) (d := .tup [k, d]) (by rw [List.getElem?_map, e]; rfl)
  obtain ⟨w, hw, rw'⟩ := rv.get hz
  rw [Rp] at rz
  obtain ⟨a, xs, rfl, hs, hr2⟩ := rz
  cases rw'
  rw [Rps] at hr2
  obtain ⟨x, q, rfl, h1, h2⟩ := hr2
  rw [Rps] at h2
  obtain ⟨y, q2, rfl, h3, h4⟩ := h2
  rw [Rps] at h4; subst h4
  obtain ⟨its, r2, ⟨o, e1, e2, n, e3⟩, _⟩ := I.tuple hs.sqt
  cases r2 with | cons ra rb =>
  cases rb with | cons rb rc =>
  cases rc
  exact ⟨a, x, y, _, _, hw, .inl ⟨o, e1, e2, n, e3⟩, ra, h1, rb, h3⟩
theorem keysAre_of (I : Inv X pins σ H s) {kvs : List (D × D)} {es : List (Int × V × V)} {arr : Array DictEntry} {h : Heap} (k : ∀ b o, s.heap.get? b = some o → h.get? b = some o) (hk : DOk kvs) (er : Rpk X.K X.w H kvs es) (ea : EntsAre es arr.toList) : KeysAre X.w h (kvs.map fun p => dk p.1) arr := by
  have l1 := rpk_length er
  have l2 := ea.length
  simp only [Array.length_toList] at l2
  refine ⟨by simp; omega, fun j k' e => ?_⟩
  rw [List.getElem?_map] at e
  cases q : kvs[j]? with
  | none => rw [q] at e; cases e
  | some p =>
    rw [q] at e; cases e
    obtain ⟨en, x, y, h1, h2, h3, h4, _, _⟩ := ent_at (X := X) (k := p.1) (d := p.2) er ea q
    have nn := nk_of I (hk.1 p (List.mem_of_getElem? q)) h4 h3
    exact ⟨en, by simpa using h1, ⟨NestedIs.at (fun a o vs n e _ => k a o e) _ _ nn.1, nn.2⟩, h2⟩
end
def refOf : Option Value → Addr
  | some (.ref T) => T | _ => 0
/-- a row with nothing hanging beside its items -/
def SqP (K : PySem.W.Frag) (H : Hp) (a : Addr) (xs : List V) : Prop := SqL K H a xs ∨ SqS K H a xs
def rDictA (X : Cx) : List V → Hp → VK → Prop := fun xs H Q => ∃ a zs ps, xs = [.ref a] ∧ SqP X.K H a zs ∧ Rps X.K X.w H (ps.map fun p => .tup [p.1, p.2]) zs ∧ (∀ p ∈ ps, kfit p.1 = true) ∧ ∀ p es, H p = none → Rpk X.K X.w H (mkD ps) es → Q (.ref p) (upd H p (dh p es))
section
variable {X : Cx} {C : Ct}
theorem SqP.plain {pins : List (Addr × Obj)} {σ : L2.St} {H : Hp} {s : Shared} {a : Addr} {xs : List V} (I : Inv X pins σ H s) (h : SqP X.K H a xs) : ∃ (T : String) (its : List Value), (T = "list" ∨ T = "tuple") ∧ Vals xs its ∧ PlainSeq T s.heap a its.toArray ∧ xs.length ≤ sizeLine := by
  rcases h with h | h
  · obtain ⟨its, rv, ⟨o, n, e, c, dd, sd⟩, hz⟩ := I.list h
    exact ⟨"list", its, .inl rfl, rv, ⟨o, n, e, c, dd, sd⟩, hz⟩
  · obtain ⟨its, rv, ⟨o, e, c, n, sd⟩, hz⟩ := I.tuple h.sqt
    refine ⟨"tuple", its, .inr rfl, rv, ⟨o, n, e, c, ?_, sd⟩, hz⟩
    rcases h with ⟨o', h, hd⟩ | ⟨o', its', n', h1, _, hd, _⟩
    · have := (I.hok a _ h).1
      rw [e] at this; cases this
      exact hd
    · have := I.kIn a o' h1
      rw [e] at this; cases this
      exact hd
theorem call_dictA (hc : X.calm = true) (hu : X.A.units + 64 < cLine) : CallR X (.type "dict") (rDictA X) := by
  intro pins s σ H xs us Q I r h
  obtain ⟨a, zs, ps, rfl, hS, hr, hf, q⟩ := h
  obtain ⟨u, rfl, ru⟩ := vals1 r
  cases ru
  obtain ⟨T, its, hT, rv, pl, hz⟩ := hS.plain I
  have hl : its.length = ps.length := by rw [← rv.length, hr.length, List.length_map]
  have hlz : ps.length ≤ sizeLine := by rw [hr.length, List.length_map] at hz; exact hz
  -- the pairs' values
  obtain ⟨pv, lv, hv⟩ : ∃ pv : List (Value × Value), pv.length = ps.length ∧ ∀ (j : Nat) (u v : Value), pv[j]? = some (u, v) → ∃ (T : Addr) (x y : V) (k d : D), its[j]? = some (Value.ref T) ∧ PairAt s.heap T u v ∧ ps[j]? = some (k, d) ∧ RelV x u ∧ Rp X.K X.w H k x ∧ RelV y v ∧ Rp X.K X.w H d y := by
    have each : ∀ j : Fin ps.length, ∃ p : Value × Value, ∃ (T : Addr) (x y : V), its[j.1]? = some (Value.ref T) ∧ PairAt s.heap T p.1 p.2 ∧ RelV x p.1 ∧ Rp X.K X.w H ps[j].1 x ∧ RelV y p.2 ∧ Rp X.K X.w H ps[j].2 y := fun j => by
      obtain ⟨T, x, y, u, v, h1, h2, h3, h4, h5, h6⟩ := pair_at I hr rv (j := j.1) (k := ps[j].1) (d := ps[j].2) (List.getElem?_eq_getElem j.2)
      exact ⟨(u, v), T, x, y, h1, h2, h3, h4, h5, h6⟩
    refine ⟨List.ofFn fun j => (each j).choose, by simp, fun j u v e => ?_⟩
    have hj : j < ps.length := by have := (List.getElem?_eq_some_iff.mp e).1; simpa using this
    have e2 : (each ⟨j, hj⟩).choose = (u, v) := by
      rw [List.getElem?_eq_getElem (by simpa using hj), List.getElem_ofFn] at e
      exact Option.some.inj e
    obtain ⟨T, x, y, h1, h2, h3, h4, h5, h6⟩ := (each ⟨j, hj⟩).choose_spec
    rw [e2] at h2 h3 h5
    exact ⟨T, x, y, _, _, h1, h2, List.getElem?_eq_getElem hj, h3, h4, h5, h6⟩
  have items : PairItems s.heap its.toArray (fun j => refOf its[j]?) pv := by
    refine ⟨by rw [List.size_toArray]; omega, fun j u v e => ?_⟩
    obtain ⟨T, x, y, k, d, h1, h2, _⟩ := hv j u v e
    have er : refOf its[j]? = T := by rw [h1]; rfl
    rw [List.getElem?_toArray, h1]
    show some (Value.ref T) = some (Value.ref (refOf its[j]?)) ∧ PairAt s.heap (refOf its[j]?) u v
    rw [er]
    exact ⟨rfl, h2⟩
  have P : PairArg X.prog X.w T a (a :: (List.range pv.length).map fun j => refOf its[j]?) [] pv.length (PairRel pv) (fun h => PlainSeq T h a its.toArray ∧ PairItems h its.toArray (fun j => refOf its[j]?) pv) := by
    rcases hT with rfl | rfl
    · exact PairArg.list a _ _ pv
    · exact PairArg.tuple a _ _ pv
  refine call_dict_arg P ⟨pl, items⟩ fun s₁ hs₁ hdf ok₁ => ?_
  subst hs₁
  have lt : ∀ b o, s.heap.get? b = some o → b ≠ s.heap.objs.size := fun b o e => Nat.ne_of_lt (Heap.lt_size e)
  refine updateFrom_arg (A := X.A.in1) (Tab := fun i h => (∃ o arr ep es, h.get? s.heap.objs.size = some o ∧ o.ExactDict ∧ o.data = .dict arr ep ∧ EntsAre es arr.toList ∧ Rpk X.K X.w H (mkD (ps.take i)) es) ∧ ∀ b o, s.heap.get? b = some o → h.get? b = some o) P .none (I.ok.hd hc) ok₁ hdf
    ⟨⟨_, #[], 0, [], Heap.get?_push_size _ rfl, ⟨rfl, rfl, rfl⟩, rfl, .nil, by show Rpk X.K X.w H (mkD []) []; rw [mkD, List.foldl_nil, Rpk]⟩, fun b o e => Heap.get?_push_of_some _ e⟩ (fun i h tb => by obtain ⟨⟨o, _, _, _, ho, _⟩, _⟩ := tb; exact Heap.lt_size ho) ?_ ?_ ?_
  · rintro i h h' wr' hd hw ⟨⟨o, arr, ep, es, ho, t⟩, k⟩ hk
    refine ⟨⟨o, arr, ep, es, hk _ o hd ho, t⟩, fun b o e => hk b o (fun hm => ?_) (k b o e)⟩
    rcases hw b hm with z | z
    · cases z
    · rw [show (s.heap.push { cls := .type "dict", data := .dict #[] }).get? b = some o from Heap.get?_push_of_some _ e] at z
      cases z
  · rintro i u v s' Q' E' hi hrel ⟨⟨o, arr, ep, es, ho, hcx, hd, ea, er⟩, k⟩ _ hQ
    obtain ⟨T', x, y, kd, vd, _, _, e, h3, h4, h5, h6⟩ := hv i u v hrel
    have hkf : kfit kd = true := hf (kd, vd) (List.mem_of_getElem? e)
    have dok : DOk (mkD (ps.take i)) := mkD_ok (fun p hp => hf p (List.mem_of_mem_take hp)) .nil
    have nn := nk_of I hkf h4 h3
    have nn' : Nk s'.heap (dk kd) u := ⟨NestedIs.at (fun a o vs n e _ => k a o e) _ _ nn.1, nn.2⟩
    have ka := keysAre_of I k dok er ea
    have l2 := ea.length
    have l1 := rpk_length er
    simp only [Array.length_toList] at l2
    have lm := mkD_length (ps := ps.take i) (acc := [])
    have lm' : (mkD (ps.take i)).length ≤ i := by
      rw [List.length_take] at lm
      simp only [List.length_nil] at lm
      have : (mkD (ps.take i)).length ≤ 0 + min i ps.length := lm
      omega
    have hi' : i < ps.length := by rw [← lv]; exact hi
    refine set_nk (s := s') (by show X.A.units + 1 + 1 + 8 < _; omega) nn' ho hcx hd ka (keys_nodup dok) (by omega) (fun hn h' n hw => ?_) fun j hj h' n hw => ?_
    · refine hQ h' n ⟨?_, fun b o e => (hw.choose_spec.choose_spec.2.2.2.2 b (lt b o e)).trans (k b o e)⟩ hw.choose_spec.choose_spec.2.2.2
      obtain ⟨o', ep', w1, w2, w3, _⟩ := hw
      refine ⟨o', _, ep', es ++ [((dk kd).hash X.w, x, y)], w1, w2, w3, ?_, ?_⟩
      · rw [Array.toList_push]
        exact ents_push ea rfl h3 h5
      · rw [mkD_take e, dput_new (key_none hn)]
        exact rpk_push er h4 h6
    · refine hQ h' n ⟨?_, fun b o e => (hw.choose_spec.choose_spec.2.2.2.2 b (lt b o e)).trans (k b o e)⟩ hw.choose_spec.choose_spec.2.2.2
      obtain ⟨d0, hj2⟩ := key_place dok hkf hj
      obtain ⟨x', y0, e1, r2⟩ := rpk_set er hj2 h6
      obtain ⟨o', ep', w1, w2, w3, _⟩ := hw
      refine ⟨o', _, ep', es.set j ((dk kd).hash X.w, x', y), w1, w2, w3, ?_, ?_⟩
      · rw [Array.toList_modify]
        exact ents_set ea e1 h5
      · rw [mkD_take e, dput_old dok.2 hj2]
        exact r2
  · rintro h' tk ⟨⟨o, arr, ep, es, ho, hcx, hd, ea, er⟩, k⟩ hk
    rw [show ps.take pv.length = ps from List.take_of_length_le (by omega)] at er
    have lm := mkD_length (ps := ps) (acc := [])
    have l1 := rpk_length er
    have lm' : es.length ≤ sizeLine := by
      simp only [List.length_nil] at lm
      have : (mkD ps).length ≤ 0 + ps.length := lm
      omega
    refine ⟨rfl, .ref s.heap.objs.size, _, I.laid (t' := tk) (o := dh s.heap.objs.size es) k (Nat.le_refl _) ?_, rfl, q _ es I.fresh er⟩
    refine ⟨⟨lm', beq_eq_false_iff_ne.mpr (Ne.symm (Nat.ne_of_lt I.big)), o, arr, ep, ho, hcx, hd, ea⟩, ⟨o, ho⟩, fun h1 h2 de k => ?_⟩
    obtain ⟨z, m, o1, arr1, ep1, e1, e2, e3, e4⟩ := de
    exact ⟨z, m, o1, arr1, ep1, k _ e1, e2, e3, e4⟩
def fDict (A : AH) : List D → Option D
  | [d] => match vw A d with
    | .lst xs => (pairsOf xs).map fun ps => .md (mkD ps)
    | .tup xs => (pairsOf xs).map fun ps => .md (mkD ps)
    | _ => none
  | _ => none
theorem o_dict : OpN X C (rDictA X) fDict := fun z A σ H ds d xs Q r s h e q => by
  have gv : ∀ {ps : List (D × D)} {p : Addr} {es : List (Int × V × V)}, (∀ p ∈ ps, kfit p.1 = true) → H p = none → Rpk X.K X.w H (mkD ps) es → Gv X.K X.w H (upd H p (dh p es)) (.md (mkD ps)) (.ref p) := fun {ps p es} hf hp er =>
    ⟨ext_upd hp, .inr ⟨p, .dct (mkD ps), hp, rfl, rfl, es, upd_same, mkD_ok hf .nil, er.pers (.of_ext (ext_upd hp))⟩⟩
  unfold fDict at e
  split at e
  · obtain ⟨v, rfl, hb⟩ := h.one
    split at e
    · rename_i xs e1
      cases hp : pairsOf xs with
      | none => rw [hp] at e; cases e
      | some ps =>
        rw [hp] at e; cases e
        obtain ⟨a, vs, rfl, h1, hr⟩ := hb.list r s e1
        rw [pairsOf_eq hp] at hr
        exact ⟨a, vs, ps, rfl, .inl h1, hr, pairsOf_fit hp, fun p es h1 h2 => q _ _ (gv (pairsOf_fit hp) h1 h2)⟩
    · rename_i xs e1
      cases hp : pairsOf xs with
      | none => rw [hp] at e; cases e
      | some ps =>
        rw [hp] at e; cases e
        obtain ⟨a, vs, rfl, h1, hr⟩ := hb.tup (A := A) e1
        rw [pairsOf_eq hp] at hr
        exact ⟨a, vs, ps, rfl, .inr h1, hr, pairsOf_fit hp, fun p es h1 h2 => q _ _ (gv (pairsOf_fit hp) h1 h2)⟩
    · cases e
  · cases e
end
end T3
set_option autoImplicit false
namespace T3
open PySem PySem.Spec PyProof.Rows L2

/-! ### zip, enumerate, reversed -/
def pairD (a b : D) : D := .tup [a, b]
section
variable {K : PySem.W.Frag} {w : World} {H : Hp}
theorem new_tup {H2 : Hp} {T : Addr} {xs : List V} {is : List Nat} {ds : List D} (h : H2 T = none) (r : Rps K w H2 ds xs) : Ext H2 (upd H2 T (.tup xs)) ∧ RpP K w (upd H2 T (.tup xs)) (.tp is) (.tup ds) (.ref T) :=
  ⟨ext_upd h, .inr ⟨T, xs, ds, rfl, rfl, .of upd_same, r.pers (.of_ext (ext_upd h))⟩⟩
theorem Rps.two {a b : D} {x y : V} (h1 : Rp K w H a x) (h2 : Rp K w H b y) : Rps K w H [a, b] [x, y] := .cons h1 (.one h2)
theorem zip_get {xs ys : List D} {i : Nat} {d : D} (h : (List.zipWith pairD xs ys)[i]? = some d) : ∃ a b, xs[i]? = some a ∧ ys[i]? = some b ∧ d = .tup [a, b] := by
  rw [List.getElem?_zipWith] at h
  cases h1 : xs[i]? with
  | none => rw [h1] at h; cases h
  | some a =>
    cases h2 : ys[i]? with
    | none => rw [h1, h2] at h; cases h
    | some b => rw [h1, h2] at h; cases h; exact ⟨a, b, rfl, rfl, rfl⟩
theorem steady_zip {is : List Nat} {ws : Ws} {a b : Addr} {xs ys : List D} (h1 : LW K w ws a xs H) (h2 : LW K w ws b ys H) : Steady K w (.tp is) ws (Itz K a b) (List.zipWith pairD xs ys) H := by
  refine ⟨fun H2 p se => ?_, fun i d H2 p se hi => ?_⟩
  · obtain ⟨vs, q1, r1⟩ := h1 H2 p se
    obtain ⟨us, q2, r2⟩ := h2 H2 p se
    exact ⟨vs, us, q1, q2, by rw [r1.length, r2.length, List.length_zipWith]; omega⟩
  · obtain ⟨x, y, e1, e2, rfl⟩ := zip_get hi
    obtain ⟨vs, q1, r1⟩ := h1 H2 p se
    obtain ⟨us, q2, r2⟩ := h2 H2 p se
    obtain ⟨v, hv, rv⟩ := r1.get e1
    obtain ⟨u, hu, ru⟩ := r2.get e2
    refine ⟨⟨vs, us, v, u, q1, q2, hv, hu⟩, fun x' H3 ⟨T, x1, y1, ex, hT, eH, k1, k2⟩ => ?_⟩
    subst ex eH
    have e1 := k1 vs q1
    have e2 := k2 us q2
    rw [hv] at e1; cases e1
    rw [hu] at e2; cases e2
    exact new_tup hT (.two rv ru)
theorem steady_zipT {is : List Nat} {wss : Ws} {a b : Addr} {xs ys : List D} {vs ws : List V} (h1 : SqS K H a vs) (r1 : Rps K w H xs vs) (h2 : SqS K H b ws) (r2 : Rps K w H ys ws) : Steady K w (.tp is) wss (RZ.ItzT K a b) (List.zipWith pairD xs ys) H := by
  refine ⟨fun H2 p _ => ⟨vs, ws, (h1.pers p).sqt, (h2.pers p).sqt, ?_⟩, fun i d H2 p _ hi => ?_⟩
  · rw [r1.length, r2.length, List.length_zipWith]; omega
  · obtain ⟨x, y, e1, e2, rfl⟩ := zip_get hi
    obtain ⟨v, hv, rv⟩ := (r1.pers p).get e1
    obtain ⟨u, hu, ru⟩ := (r2.pers p).get e2
    refine ⟨⟨vs, ws, v, u, (h1.pers p).sqt, (h2.pers p).sqt, hv, hu⟩, fun x' H3 ⟨T, x1, y1, ex, hT, eH, k1, k2⟩ => ?_⟩
    subst ex eH
    have q1 := k1 vs (h1.pers p).sqt
    have q2 := k2 ws (h2.pers p).sqt
    rw [hv] at q1; cases q1
    rw [hu] at q2; cases q2
    exact new_tup hT (.two rv ru)
def enumD : Nat → List D → List D
  | _, [] => []
  | n, x :: xs => .tup [.int n, x] :: enumD (n + 1) xs
theorem enum_length : ∀ (n : Nat) (xs : List D), (enumD n xs).length = xs.length
  | _, [] => rfl
  | n, x :: xs => by simp [enumD, enum_length (n + 1) xs]
theorem enum_get : ∀ {xs : List D} {n i : Nat} {d : D}, (enumD n xs)[i]? = some d → ∃ x, xs[i]? = some x ∧ d = .tup [.int ((n + i : Nat) : Int), x]
  | [], _, _, _, h => by simp [enumD] at h
  | x :: xs, n, 0, d, h => by simp [enumD] at h; exact ⟨x, rfl, by rw [← h]; simp⟩
  | x :: xs, n, i + 1, d, h => by
    have h' : (enumD (n + 1) xs)[i]? = some d := by simpa [enumD] using h
    obtain ⟨y, h1, h2⟩ := enum_get h'
    exact ⟨y, by simpa using h1, by rw [h2]; congr 3; omega⟩
theorem steady_enum {is : List Nat} {ws : Ws} {a : Addr} {xs : List D} (h1 : LW K w ws a xs H) : Steady K w (.tp is) ws (Ite K a) (enumD 0 xs) H := by
  refine ⟨fun H2 p se => ?_, fun i d H2 p se hi => ?_⟩
  · obtain ⟨vs, q1, r1⟩ := h1 H2 p se
    exact ⟨vs, q1, by rw [r1.length, enum_length]; exact Nat.le_refl _⟩
  obtain ⟨x, e1, rfl⟩ := enum_get hi
  obtain ⟨vs, q1, r1⟩ := h1 H2 p se
  obtain ⟨v, hv, rv⟩ := r1.get e1
  refine ⟨⟨vs, v, q1, hv⟩, fun x' H3 ⟨T, x1, ex, hT, eH, k1⟩ => ?_⟩
  subst ex eH
  have e2 := k1 vs q1
  rw [hv] at e2; cases e2
  rw [Nat.zero_add]
  exact new_tup hT (.two (by rw [Rp]) rv)
theorem rev_place {xs : List D} {i : Nat} {d : D} (h : xs.reverse[i]? = some d) : i < xs.length ∧ xs[xs.length - 1 - i]? = some d := by
  have hl : i < xs.length := by have := (List.getElem?_eq_some_iff.mp h).1; simpa using this
  refine ⟨hl, ?_⟩
  rw [List.getElem?_reverse hl] at h
  exact h
theorem steady_rev {pt : Pat} {ws : Ws} {a : Addr} {xs : List D} {n : Nat} (h1 : LW K w ws a xs H) (hn : n = xs.length) : Steady K w pt ws (Itv K a n) xs.reverse H := by
  subst hn
  refine ⟨fun H2 p _ => by show _ ≤ _; simp, fun i d H2 p se hi => ?_⟩
  obtain ⟨hl, e1⟩ := rev_place hi
  obtain ⟨vs, q1, r1⟩ := h1 H2 p se
  obtain ⟨v, hv, rv⟩ := r1.get e1
  refine ⟨⟨hl, vs, v, q1, hv⟩, fun x' H3 ⟨e, k1⟩ => ?_⟩
  subst e
  have e2 := k1 vs q1
  rw [hv] at e2; cases e2
  exact ⟨fun _ _ h => h, .of rv⟩
theorem steady_revT {pt : Pat} {ws : Ws} {a : Addr} {xs : List D} {vs : List V} (h1 : SqS K H a vs) (r1 : Rps K w H xs vs) : Steady K w pt ws (RT.ItvT K a vs.length) xs.reverse H := by
  refine ⟨fun H2 p _ => by rw [r1.length]; show _ ≤ _; simp, fun i d H2 p _ hi => ?_⟩
  obtain ⟨hl, e1⟩ := rev_place hi
  obtain ⟨v, hv, rv⟩ := (r1.pers p).get e1
  rw [← r1.length] at hv hl
  refine ⟨⟨hl, vs, v, (h1.pers p).sqt, hv⟩, fun x' H3 ⟨e, k1⟩ => ?_⟩
  subst e
  have q1 := k1 vs (h1.pers p).sqt
  rw [hv] at q1; cases q1
  exact ⟨fun _ _ h => h, .of rv⟩
end
/-- a list, its items, what is to be seen to stay -/
def listW (A : AH) : D → Option (List D × Ws)
  | .lst xs => some (xs, [])
  | .ref a => match A a with
    | some (.lst xs) => some (xs, [(a, xs)])
    | _ => none
  | _ => none
theorem listW_ok {K : PySem.W.Frag} {w : World} {C : Ct} {A : AH} {H : Hp} {d : D} {v : V} {xs : List D} {ws ws' : Ws} (r : Rel K w C A H) (h : Rp K w H d v) (e : listW A d = some (xs, ws)) (hs : ∀ q ∈ ws, q ∈ ws') : ∃ a vs, v = .ref a ∧ SqL K H a vs ∧ Rps K w H xs vs ∧ LW K w ws' a xs H := by
  cases d with
  | lst ys =>
    cases e
    rw [Rp] at h
    obtain ⟨a, vs, rfl, q, rr⟩ := h
    exact ⟨a, vs, rfl, q.sql, rr, .frozen q rr⟩
  | ref a =>
    rw [Rp] at h; subst h
    unfold listW at e
    simp only at e
    split at e
    · rename_i ys ea
      cases e
      obtain ⟨vs, h1, h2⟩ := r.heap a _ ea
      exact ⟨a, vs, rfl, .of h1, h2, .held (hs _ (by simp))⟩
    · cases e
  | _ => cases e
def args1 : List D → (D → Prop) → Prop
  | [a], k => k a
  | _, _ => False
def args2 : List D → (D → D → Prop) → Prop
  | [a, b], k => k a b
  | _, _ => False
theorem args1_ex {ds : List D} {k : D → Prop} (h : args1 ds k) : ∃ a, ds = [a] ∧ k a := by
  match ds, h with
  | [a], h => exact ⟨a, rfl, h⟩
theorem args2_ex {ds : List D} {k : D → D → Prop} (h : args2 ds k) : ∃ a b, ds = [a, b] ∧ k a b := by
  match ds, h with
  | [a, b], h => exact ⟨a, b, rfl, h⟩
def zipI (A : AH) (Q : List D → Ws → AH → Prop) : D → D → Prop
  | .tup xs, .tup ys => Q (List.zipWith pairD xs ys) [] A
  | d1, d2 => withItems (listW A d1) fun xs w1 => withItems (listW A d2) fun ys w2 => Q (List.zipWith pairD xs ys) (w1 ++ w2) A
theorem zipI_ex {A : AH} {Q : List D → Ws → AH → Prop} {d1 d2 : D} (h : zipI A Q d1 d2) : (∃ xs ys, d1 = .tup xs ∧ d2 = .tup ys ∧ Q (List.zipWith pairD xs ys) [] A) ∨ withItems (listW A d1) fun xs w1 => withItems (listW A d2) fun ys w2 => Q (List.zipWith pairD xs ys) (w1 ++ w2) A := by
  unfold zipI at h
  split at h
  · exact .inl ⟨_, _, rfl, rfl, h⟩
  · exact .inr h
def iZp (t : TA3) : TI3 := fun z A Q => t z A fun ds A' => args2 ds (zipI A' Q)
def iEn (t : TA3) : TI3 := fun z A Q => t z A fun ds A' => args1 ds fun d => withItems (listW A' d) fun xs ws => Q (enumD 0 xs) ws A'
def iRv (t : TE3) : TI3 := fun z A Q => t z A fun d A' => (∃ xs, frz d = .tup xs ∧ Q xs.reverse [] A') ∨ withItems (listW A' (frz d)) fun xs ws => Q xs.reverse ws A'
section
variable {X : Cx} {C : Ct} {p pos tpos : Pos}
theorem Rps.one' {K : PySem.W.Frag} {w : World} {H : Hp} {d : D} {vs : List V} (h : Rps K w H [d] vs) : ∃ x, vs = [x] ∧ Rp K w H d x := by
  rw [Rps] at h
  obtain ⟨x, q, rfl, h1, h2⟩ := h
  rw [Rps] at h2; subst h2
  exact ⟨x, rfl, h1⟩
theorem Rps.two' {K : PySem.W.Frag} {w : World} {H : Hp} {d e : D} {vs : List V} (h : Rps K w H [d, e] vs) : ∃ x y, vs = [x, y] ∧ Rp K w H d x ∧ Rp K w H e y := by
  rw [Rps] at h
  obtain ⟨x, q, rfl, h1, h2⟩ := h
  obtain ⟨y, rfl, h3⟩ := h2.one'
  exact ⟨x, y, rfl, h1, h3⟩
theorem pi3_zip {is : List Nat} {e e2 : Expr} {elts : List Expr} {kk : Nat} {t : TA3} (hg : Gl X "zip") (hm : X.mg "zip" = none) (ha : PA3 X C [e, e2] t)
    (hs : starEach [e, e2] X.env = (false, eval e X.env) :: starEach [e2] X.env := by rfl) (hpl : (backTo pos (starEach [e2] X.env)).any (·.1) = false := by rfl) :
    PI3 X C (.tp is) (.Tuple elts kk tpos) (.Call (.Name "zip" p) [e, e2] [] pos) (iZp t) := PI.imp (RZ.pi_zipA hg hm ha hs hpl) fun σ H R hq => by
  obtain ⟨z, A, Q3, r, s, q, f⟩ := hq
  refine ⟨z, A, _, r, s, q, fun ds A' vs H' q' r' s' p' t' => ?_⟩
  obtain ⟨d1, d2, rfl, q'⟩ := args2_ex q'
  replace q' := zipI_ex q'
  obtain ⟨x, y, rfl, h1, h3⟩ := t'.two'
  rcases q' with ⟨xs, ys, rfl, rfl, q2⟩ | q2
  · rw [Rp] at h1 h3
    obtain ⟨a, us, rfl, hs1, hr1⟩ := h1
    obtain ⟨b, ws, rfl, hs2, hr2⟩ := h3
    exact ⟨a, b, us, ws, rfl, .inr ⟨hs1.sqt, hs2.sqt, f _ _ A' _ H' q2 r' s' p' (steady_zipT hs1 hr1 hs2 hr2)⟩⟩
  · obtain ⟨r1, e1, q2⟩ := withItems_ex q2
    obtain ⟨r2, e2, q2⟩ := withItems_ex q2
    obtain ⟨a, us, rfl, hs1, hr1, l1⟩ := listW_ok (ws' := r1.2 ++ r2.2) r' h1 e1 fun q hq => List.mem_append_left _ hq
    obtain ⟨b, ws, rfl, hs2, hr2, l2⟩ := listW_ok (ws' := r1.2 ++ r2.2) r' h3 e2 fun q hq => List.mem_append_right _ hq
    exact ⟨a, b, us, ws, rfl, .inl ⟨hs1, hs2, f _ _ A' _ H' q2 r' s' p' (steady_zip l1 l2)⟩⟩
theorem pi3_enum {is : List Nat} {e : Expr} {elts : List Expr} {kk : Nat} {t : TA3} (hg : Gl X "enumerate") (hm : X.mg "enumerate" = none) (ha : PA3 X C [e] t) (hs : starEach [e] X.env = [(false, eval e X.env)] := by rfl) :
    PI3 X C (.tp is) (.Tuple elts kk tpos) (.Call (.Name "enumerate" p) [e] [] pos) (iEn t) := PI.imp (pi_enum hg hm ha hs) fun σ H R hq => by
  obtain ⟨z, A, Q3, r, s, q, f⟩ := hq
  refine ⟨z, A, _, r, s, q, fun ds A' vs H' q' r' s' p' t' => ?_⟩
  obtain ⟨d, rfl, q'⟩ := args1_ex q'
  obtain ⟨res, e1, q2⟩ := withItems_ex q'
  obtain ⟨x, rfl, h1⟩ := t'.one'
  obtain ⟨a, us, rfl, hs1, hr1, l1⟩ := listW_ok (ws' := res.2) r' h1 e1 fun q hq => hq
  exact ⟨a, us, rfl, hs1, f _ _ A' _ H' q2 r' s' p' (steady_enum l1)⟩
theorem pi3_rev {pt : Pat} {tg e : Expr} {t : TE3} (hg : Gl X "reversed") (hm : X.mg "reversed" = none) (he : PE3 X C e t) (hs : starEach [e] X.env = (false, eval e X.env) :: starEach [] X.env := by rfl) :
    PI3 X C pt tg (.Call (.Name "reversed" p) [e] [] pos) (iRv t) := PI.imp (RT.pi_revA hg hm (pe_fz he) hs) fun σ H R hq => by
  obtain ⟨z, A, Q3, r, s, q, f⟩ := hq
  refine ⟨z, A, _, r, s, q, fun d A' v H' q' r' s' p' t' => ?_⟩
  rcases q' with ⟨xs, ed, q2⟩ | q2
  · rw [ed, Rp] at t'
    obtain ⟨a, us, rfl, hs1, hr1⟩ := t'
    exact ⟨a, us, rfl, .inr ⟨hs1.sqt, f _ _ A' _ H' q2 r' s' p' (steady_revT hs1 hr1)⟩⟩
  · obtain ⟨res, e1, q2⟩ := withItems_ex q2
    obtain ⟨a, us, rfl, hs1, hr1, l1⟩ := listW_ok (ws' := res.2) r' t' e1 fun q hq => hq
    exact ⟨a, us, rfl, .inl ⟨hs1, f _ _ A' _ H' q2 r' s' p' (steady_rev l1 hr1.length)⟩⟩
end

/-! ### a promise never asked -/
theorem fnok_never {P : Program} {w : World} {K : PySem.W.Frag} {mg : Str → Option Value} {base : Heap} {k : Nat} {f : Addr} {fd : FuncData} {ps : List Str} {sp : Sp3} (h : ∀ ds A Q E, ¬ sp ds A Q E) : FnOk P w K mg base CX0 k f fd ps (lsp K w sp) :=
  ⟨fun vs H Q E q => (h _ _ _ _ q.choose_spec.choose_spec.choose_spec.2.2.1).elim, fun A outer s H args us vs Q E hr he hb hv q => (h _ _ _ _ q.choose_spec.choose_spec.choose_spec.2.2.1).elim⟩
end T3
set_option autoImplicit false
namespace T3
open PySem PySem.Spec PyProof.Rows L2
section
variable (A : AH)
@[simp] theorem fIxA_lst (a : List D) (i : Int) : fIxA A (.lst a) (.int i) = L2.atI a i := rfl
@[simp] theorem fIxA_tup (a : List D) (i : Int) : fIxA A (.tup a) (.int i) = L2.atI a i := rfl
@[simp] theorem fIxA_str (a : Str) (i : Int) : fIxA A (.str a) (.int i) = if lim a.length then (L2.atI a.cps.toList i).map fun c => .str ⟨#[c]⟩ else none := rfl
@[simp] theorem fIxA_dct (kvs : List (D × D)) (k : D) : fIxA A (.dct kvs) k = if kfit k = true then dget kvs k else none := rfl
@[simp] theorem fInA_dct (g : Bool → Bool) (kvs : List (D × D)) (k : D) : fInA g A k (.dct kvs) = if kfit k = true then some (.bl (g (dget kvs k).isSome)) else none := rfl
@[simp] theorem fInA_str (g : Bool → Bool) (x y : Str) : fInA g A (.str x) (.str y) = fInB g A (.str x) (.str y) := rfl
@[simp] theorem fInA_lst (g : Bool → Bool) (x : D) (y : List D) : fInA g A x (.lst y) = fInB g A x (.lst y) := rfl
@[simp] theorem fInA_tup (g : Bool → Bool) (x : D) (y : List D) : fInA g A x (.tup y) = fInB g A x (.tup y) := rfl
theorem fIn_sign (g : Bool → Bool) (c : Nat) (y : Str) : fInB g A (.str ⟨#[c]⟩) (.str y) = some (.bl (g (decide (c ∈ y.cps.toList)))) := rfl
theorem any_eq_mem {d : D} : ∀ {ys : List D}, nb d = true → nbs ys = true → (ys.any fun y => eqD y d) = decide (d ∈ ys)
  | [], _, _ => by simp
  | y :: ys, h, hs => by
    simp only [nbs, Bool.and_eq_true] at hs
    rw [List.any_cons, eqD_nb hs.1 h, any_eq_mem h hs.2]
    by_cases e : y = d
    · subst e; simp
    · have : ¬ d = y := fun z => e z.symm
      simp [e, this]
theorem fInB_lst (g : Bool → Bool) {d : D} {ys : List D} (hv : vw A d = d) (h : nb d = true) (hs : nbs ys = true) (hd : deps ys ≤ 60) : fInB g A d (.lst ys) = some (.bl (g (decide (d ∈ ys)))) := by
  simp [fInB, fIn, hv, nb_pok d h, nbs_poks ys hs, hd, any_eq_mem h hs]
theorem fInB_tup (g : Bool → Bool) {d : D} {ys : List D} (hv : vw A d = d) (h : nb d = true) (hs : nbs ys = true) (hd : deps ys ≤ 60) : fInB g A d (.tup ys) = some (.bl (g (decide (d ∈ ys)))) := by
  simp [fInB, fIn, hv, nb_pok d h, nbs_poks ys hs, hd, any_eq_mem h hs]
@[simp] theorem okDct_dct (kvs : List (D × D)) : okDct A (.dct kvs) = true := rfl
@[simp] theorem fGet2_dct (kvs : List (D × D)) (k d : D) : fGet A (.dct kvs) [k, d] = if kfit k = true then some ((dget kvs k).getD d) else none := rfl
@[simp] theorem fGet1_dct (kvs : List (D × D)) (k : D) : fGet A (.dct kvs) [k] = if kfit k = true then some ((dget kvs k).getD .non) else none := rfl
@[simp] theorem rowOf_lst (xs : List D) : rowOf A (.lst xs) = some xs := rfl
@[simp] theorem rowOf_tup (xs : List D) : rowOf A (.tup xs) = some xs := rfl
@[simp] theorem rowOf_dct (kvs : List (D × D)) : rowOf A (.dct kvs) = some (kvs.map (·.1)) := rfl
@[simp] theorem fSorted_lst (xs : List D) : fSorted A [.lst xs] = if okSort xs = true then some (.ml (sortD xs)) else none := rfl
@[simp] theorem fSorted_tup (xs : List D) : fSorted A [.tup xs] = if okSort xs = true then some (.ml (sortD xs)) else none := rfl
@[simp] theorem fSorted_dct (kvs : List (D × D)) : fSorted A [.dct kvs] = if okSort (kvs.map (·.1)) = true then some (.ml (sortD (kvs.map (·.1)))) else none := rfl
@[simp] theorem fListA_lst (xs : List D) : fListA A [.lst xs] = some (.ml xs) := rfl
@[simp] theorem fListA_tup (xs : List D) : fListA A [.tup xs] = some (.ml xs) := rfl
@[simp] theorem fListA_dct (kvs : List (D × D)) : fListA A [.dct kvs] = some (.ml (kvs.map (·.1))) := rfl
@[simp] theorem fDict_lst (xs : List D) : fDict A [.lst xs] = (pairsOf xs).map fun ps => .md (mkD ps) := rfl
@[simp] theorem fDict_tup (xs : List D) : fDict A [.tup xs] = (pairsOf xs).map fun ps => .md (mkD ps) := rfl
@[simp] theorem gDSet_dct (kvs : List (D × D)) (k d : D) : gDSet (.dct kvs) k d = if kfit k = true ∧ kvs.length < sizeLine then some (.dct (dput kvs k d)) else none := rfl
@[simp] theorem gAppend_lst (xs : List D) (d : D) : gAppend (.lst xs) [d] = if xs.length < sizeLine then some (.lst (xs ++ [d]), .non) else none := rfl
@[simp] theorem gExtend_lst (xs ys : List D) : gExtend (.lst xs) [.lst ys] = if xs.length + ys.length ≤ sizeLine then some (.lst (xs ++ ys), .non) else none := rfl
@[simp] theorem gReverse_lst (xs : List D) : gReverse (.lst xs) [] = some (.lst xs.reverse, .non) := rfl
@[simp] theorem gSet_lst (xs : List D) (i : Int) (d : D) : gSet (.lst xs) (.int i) d = (L2.ixN xs.length i).map fun k => .lst (xs.set k d) := rfl
@[simp] theorem ap_eDNew (z : S3) (Q : D → AH → Prop) : eDNew z A Q = Q (.md []) A := rfl
@[simp] theorem ap_iZp (t : TA3) (z : S3) (Q : List D → Ws → AH → Prop) : iZp t z A Q = t z A (fun ds A' => args2 ds (zipI A' Q)) := rfl
@[simp] theorem ap_iEn (t : TA3) (z : S3) (Q : List D → Ws → AH → Prop) : iEn t z A Q = t z A (fun ds A' => args1 ds fun d => withItems (listW A' d) fun xs ws => Q (enumD 0 xs) ws A') := rfl
@[simp] theorem args1_ap (a : D) (k : D → Prop) : args1 [a] k = k a := rfl
@[simp] theorem args2_ap (a b : D) (k : D → D → Prop) : args2 [a, b] k = k a b := rfl
@[simp] theorem zipI_tup (Q : List D → Ws → AH → Prop) (xs ys : List D) : zipI A Q (.tup xs) (.tup ys) = Q (List.zipWith pairD xs ys) [] A := rfl
@[simp] theorem zipI_lst (Q : List D → Ws → AH → Prop) (xs ys : List D) : zipI A Q (.lst xs) (.lst ys) = Q (List.zipWith pairD xs ys) [] A := rfl
theorem zipI_ref (Q : List D → Ws → AH → Prop) {a : Addr} {xs : List D} (ys : List D) (h : A a = some (.lst xs)) : zipI A Q (.ref a) (.lst ys) = Q (List.zipWith pairD xs ys) [(a, xs)] A := by
  show withItems (listW A (.ref a)) _ = _
  simp [listW, h]
@[simp] theorem ap_iRv (t : TE3) (z : S3) (Q : List D → Ws → AH → Prop) : iRv t z A Q = t z A (fun d A' => (∃ xs, frz d = .tup xs ∧ Q xs.reverse [] A') ∨ withItems (listW A' (frz d)) fun xs ws => Q xs.reverse ws A') := rfl
@[simp] theorem listW_lst (xs : List D) : listW A (.lst xs) = some (xs, []) := rfl
@[simp] theorem kfit_str (x : Str) : kfit (.str x) = true := by simp [kfit, kok, dk, NestedKey.depth]
@[simp] theorem kfit_int (x : Int) : kfit (.int x) = true := by simp [kfit, kok, dk, NestedKey.depth]
@[simp] theorem kfit_non : kfit .non = true := by simp [kfit, kok, dk, NestedKey.depth]
@[simp] theorem kfit_si (x : Str) (i : Int) : kfit (.tup [.str x, .int i]) = true := by simp [kfit, kok, koks, dk, dks, NestedKey.depth, NestedKey.depthAll]
end

/-! ### the sorted row -/
theorem sortD_perm (ds : List D) : (sortD ds).Perm ds := List.mergeSort_perm ds _
theorem sortD_sorted (ds : List D) : (sortD ds).Pairwise fun a b => PySem.W.dataLe false pd a b = true := PySem.W.sort_pairwise (PySem.W.sortLe_total _ false _) ds
theorem sortD_length (ds : List D) : (sortD ds).length = ds.length := (sortD_perm ds).length_eq
/-- texts, in order -/
def strLe (x y : Str) : Prop := x.cps.toList ≤ y.cps.toList
def strLt (x y : Str) : Prop := x.cps.toList < y.cps.toList
theorem str_ext {x y : Str} (h : x.cps.toList = y.cps.toList) : x = y := PySem.W.str_of_cps h
theorem strLt_of {x y : Str} (h : strLe x y) (hn : x ≠ y) : strLt x y := by
  unfold strLe at h; unfold strLt
  rcases List.le_iff_lt_or_eq.mp h with h | h
  · exact h
  · exact absurd (str_ext h) hn
/-- texts sorted, each once: rising -/
theorem sort_strs (xs : List Str) (hn : xs.Nodup) : ∃ ys : List Str, sortD (xs.map D.str) = ys.map D.str ∧ ys.Perm xs ∧ ys.Pairwise strLt := by
  have hp := sortD_perm (xs.map D.str)
  obtain ⟨ys, e⟩ : ∃ ys : List Str, sortD (xs.map D.str) = ys.map D.str := by
    have : ∀ l : List D, (∀ d ∈ l, ∃ x, d = .str x) → ∃ ys : List Str, l = ys.map D.str := by
      intro l
      induction l with
      | nil => intro _; exact ⟨[], rfl⟩
      | cons a l ih =>
        intro h
        obtain ⟨x, rfl⟩ := h a List.mem_cons_self
        obtain ⟨ys, rfl⟩ := ih fun d hd => h d (List.mem_cons_of_mem _ hd)
        exact ⟨x :: ys, rfl⟩
    refine this _ fun d hd => ?_
    obtain ⟨x, _, rfl⟩ := List.mem_map.mp (hp.mem_iff.mp hd)
    exact ⟨x, rfl⟩
  rw [e] at hp
  have hp2 : ys.Perm xs := by
    have h2 := hp.map (fun d => match d with | .str x => x | _ => ⟨#[]⟩)
    rw [List.map_map, List.map_map] at h2
    have id1 : ((fun d => match d with | .str x => x | _ => (⟨#[]⟩ : Str)) ∘ D.str) = id := rfl
    rw [id1, List.map_id, List.map_id] at h2
    exact h2
  refine ⟨ys, e, hp2, ?_⟩
  have hs := sortD_sorted (xs.map D.str)
  rw [e, List.pairwise_map] at hs
  have hny : ys.Nodup := hp2.nodup_iff.mpr hn
  refine (List.Pairwise.and hs hny).imp fun {a b} h => strLt_of ?_ h.2
  have q := h.1
  have e2 : PySem.W.dataLe false pd (.str a) (.str b) = decide (a.cps.toList ≤ b.cps.toList) := by
    have := congrFun (congrFun (PySem.W.dataLe_str (k := fun x : Str => x)) a) b
    rw [← this]
    show (!PySem.W.dataLt (pd (.str b)) (pd (.str a))) = _
    rw [pd, pd]; rfl
  rw [e2] at q
  show a.cps.toList ≤ b.cps.toList
  exact of_decide_eq_true q
/-- pairs led by texts, each text once: rising by them -/
theorem sort_led (ps : List (Str × D)) (hn : (ps.map (·.1)).Nodup) (hal : ∀ p ∈ ps, ∀ q ∈ ps, PySem.W.alike (pd p.2) (pd q.2) = true) : ∃ qs : List (Str × D), sortD (ps.map fun p => .tup [.str p.1, p.2]) = qs.map (fun p => .tup [.str p.1, p.2]) ∧ qs.Perm ps ∧ (qs.map (·.1)).Pairwise strLt := by
  have hp := sortD_perm (ps.map fun p => D.tup [.str p.1, p.2])
  obtain ⟨qs, e⟩ : ∃ qs : List (Str × D), sortD (ps.map fun p => D.tup [.str p.1, p.2]) = qs.map (fun p => D.tup [.str p.1, p.2]) := by
    have : ∀ l : List D, (∀ d ∈ l, ∃ p : Str × D, d = .tup [.str p.1, p.2]) → ∃ qs : List (Str × D), l = qs.map fun p => D.tup [.str p.1, p.2] := by
      intro l
      induction l with
      | nil => intro _; exact ⟨[], rfl⟩
      | cons a l ih =>
        intro h
        obtain ⟨x, rfl⟩ := h a List.mem_cons_self
        obtain ⟨ys, rfl⟩ := ih fun d hd => h d (List.mem_cons_of_mem _ hd)
        exact ⟨x :: ys, rfl⟩
    refine this _ fun d hd => ?_
    obtain ⟨x, _, rfl⟩ := List.mem_map.mp (hp.mem_iff.mp hd)
    exact ⟨x, rfl⟩
  rw [e] at hp
  have hp2 : qs.Perm ps := by
    have h2 := hp.map (fun d => match d with | .tup [.str x, y] => (x, y) | _ => ((⟨#[]⟩ : Str), D.non))
    rw [List.map_map, List.map_map] at h2
    have id1 : ((fun d => match d with | .tup [.str x, y] => (x, y) | _ => ((⟨#[]⟩ : Str), D.non)) ∘ fun p : Str × D => D.tup [.str p.1, p.2]) = id := rfl
    rw [id1, List.map_id, List.map_id] at h2
    exact h2
  refine ⟨qs, e, hp2, ?_⟩
  have hs := sortD_sorted (ps.map fun p => D.tup [.str p.1, p.2])
  rw [e, List.pairwise_map] at hs
  have hny : (qs.map (·.1)).Nodup := (hp2.map _).nodup_iff.mpr hn
  rw [List.pairwise_map]
  have hnq : qs.Pairwise fun a b => a.1 ≠ b.1 := List.pairwise_map.mp hny
  refine (List.Pairwise.and (List.Pairwise.and_mem.mp hs) hnq).imp fun {a b} h => strLt_of ?_ h.2
  obtain ⟨⟨ha, hb, q⟩, hne⟩ := h
  have e2 : PySem.W.dataLt (.tuple [.str b.1, pd b.2]) (.tuple [.str a.1, pd a.2]) = PySem.W.dataLt (.str b.1) (.str a.1) := by
    rw [PySem.W.dataLt_pair (by simp [PySem.W.alike]) (hal b (hp2.mem_iff.mp hb) a (hp2.mem_iff.mp ha)), if_neg]
    simp only [PyData.eqv, beq_iff_eq]
    exact fun z => hne z.symm
  have e3 : PySem.W.dataLe false pd (D.tup [.str a.1, a.2]) (.tup [.str b.1, b.2]) = !PySem.W.dataLt (.str b.1) (.str a.1) := by
    rw [← e2]
    show (!PySem.W.dataLt (pd _) (pd _)) = _
    simp only [pd, pds]
  rw [e3, PySem.W.dataLt_str] at q
  have q2 : ¬ b.1.cps.toList < a.1.cps.toList := by simpa using q
  exact List.not_lt.mp q2
end T3
set_option maxHeartbeats 4000000
set_option autoImplicit false
namespace T3
open PySem PySem.Spec PyProof.Rows L2

/-! ### a set of texts, made of a list -/
def txtOf (e : Int × Value) : Str := match e.2 with | .str x _ => x | _ => ⟨#[]⟩
def addS (L : List Str) (x : Str) : List Str := if x ∈ L then L else x :: L
theorem addS_mem {L : List Str} {x y : Str} : y ∈ addS L x ↔ y ∈ L ∨ y = x := by
  unfold addS
  split
  · rename_i h
    exact ⟨.inl, fun z => z.elim id fun e => e ▸ h⟩
  · rw [List.mem_cons]; exact Or.comm
theorem addS_nodup {L : List Str} {x : Str} (h : L.Nodup) : (addS L x).Nodup := by
  unfold addS
  split
  · exact h
  · rename_i n; exact List.nodup_cons.mpr ⟨n, h⟩
theorem addS_length {L : List Str} {x : Str} : (addS L x).length ≤ L.length + 1 := by
  unfold addS
  split
  · omega
  · simp
section
variable {P : Program} {w : World} {A : Around} {E : Value → Shared → Prop} {s : Shared} {a : Addr} {L : List Str}
def GoodT (P : Program) (w : World) (e : Int × Value) : Prop := ∃ x tk, e.2 = Value.str x tk ∧ e.1 = (PySem.strKind P w).hash x
/-- the set at `a` has just the texts of L, each once -/
def SetX (P : Program) (w : World) (h : Heap) (a : Addr) (L : List Str) : Prop :=
  ∃ o es ep t, h.get? a = some o ∧ o.ExactSet ∧ o.data = .set es ep t ∧ (∀ e ∈ es.toList, GoodT P w e) ∧ (es.toList.map txtOf).Perm L ∧ L.Nodup ∧
    es.size < scanBound ∧ t.fits es.size = true ∧ Ris t.place.toList ∧ (w.params.followText "set-order" = true ∨ t.led = true)
theorem SetX.at' {h h' : Heap} (R : SetX P w h a L) (k : ∀ o, h.get? a = some o → h'.get? a = some o) : SetX P w h' a L := by
  obtain ⟨o, es, ep, t, ho, r⟩ := R
  exact ⟨o, es, ep, t, k o ho, r⟩
theorem good_text {e : Int × Value} (g : GoodT P w e) (x : Str) : (PySem.strKind P w).is x e.2 = true ↔ txtOf e = x := by
  obtain ⟨y, tk, h1, _⟩ := g
  unfold txtOf
  rw [h1]
  show Value.isStrOf x (.str y tk) = true ↔ y = x
  simp [Value.isStrOf]
theorem good_texts {l : List (Int × Value)} (g : ∀ e ∈ l, GoodT P w e) : ElemsOf (PySem.strKind P w) l := fun e he => by
  obtain ⟨x, tk, h1, h2⟩ := g e he
  refine ⟨⟨x, ?_, h2⟩, by rw [h1]; rfl⟩
  rw [h1]; exact strKind_is _ _ _ _
/-- what is laid behind the finding of a place -/
theorem setX_tail {g : Bool → Sem Unit} (hg : ∀ (b : Bool) (s₁ : Shared) (Q' : Unit → Shared → Prop), Q' () s₁ → wpAny (model P w) A (g b) Q' E s₁)
    {o : Obj} {es : Array (Int × Value)} {ep : Nat} {t : SetTable} (ho : s.heap.get? a = some o) (hex : o.ExactSet) (hd : o.data = .set es ep t)
    {es1 : Array (Int × Value)} {t2 : SetTable} (g1 : ∀ e ∈ es1.toList, GoodT P w e) (pm1 : (es1.toList.map txtOf).Perm L) (nd : L.Nodup)
    (hb1 : es1.size < scanBound) (hf2 : t2.fits es1.size = true) (hr : Ris t2.place.toList) (hl : w.params.followText "set-order" = true ∨ t2.led = true) {wasDummy : Bool} {R : Option Bool → Shared → Prop}
    (hR : ∀ h', Heap.SameBut a s.heap h' → SetX P w h' a L → R (some true) { s with heap := h' }) :
    wpAny (model P w) A (do
        storeSet a es1 t2
        if (!wasDummy && t2.tooFull) = true then do
            g (relayAll t2 es1 (SetTable.grown es1.size)).2.2
            storeSet a (relayAll t2 es1 (SetTable.grown es1.size)).1 (relayAll t2 es1 (SetTable.grown es1.size)).2.1
            pure (some true)
          else pure (some true)) R E s := by
  refine wpAny_bind (wpAny_storeSet_of ho hd ?_ (fits_of_scanBound hb1))
  have ho1 := store_at (es' := es1) (t' := t2) ho hd
  have sb1 := Heap.SameBut.update s.heap a (Obj.putSet es1 t2)
  split
  · have pm := relayAll_perm t2 es1 (SetTable.grown es1.size)
    have hf3 := relayAll_fits t2 es1 (SetTable.grown es1.size)
    have hr3 := relayAll_ris t2 es1 (SetTable.grown es1.size)
    have hl3 := relayAll_led t2 es1 (SetTable.grown es1.size)
    generalize relayAll t2 es1 (SetTable.grown es1.size) = Z at pm hf3 hr3 hl3 ⊢
    obtain ⟨es2, t3, gave⟩ := Z
    dsimp only at pm hf3 hr3 hl3 ⊢
    have hb2 : es2.size < scanBound := by
      rw [← Array.length_toList, pm.length_eq, Array.length_toList]; exact hb1
    refine wpAny_bind (hg _ _ _ ?_)
    refine wpAny_bind (wpAny_storeSet_of ho1 rfl ?_ (fits_of_scanBound hb2))
    have ho2 := store_at (es' := es2) (t' := t3) ho1 rfl
    refine wpAny_pure (hR _ (sb1.trans (Heap.SameBut.update _ a _)) ?_)
    exact ⟨_, es2, _, t3, ho2, hex, rfl, fun e he => g1 e (pm.mem_iff.mp he), (pm.map txtOf).trans pm1, nd, hb2, hf3, hr3, hl.imp id fun z => by rw [hl3]; exact z⟩
  · exact wpAny_pure (hR _ sb1 ⟨_, es1, _, t2, ho1, hex, rfl, g1, pm1, nd, hb1, hf2, hr, hl⟩)
/-- a text is added -/
theorem setX_add {x : Str} {tk : Tok} {Q : Bool → Shared → Prop} (R : SetX P w s.heap a L) (room : L.length + 1 < scanBound)
    (hQ : ∀ b h', Heap.SameBut a s.heap h' → SetX P w h' a (addS L x) → Q b { s with heap := h' }) :
    wpAny (model P w) A (setAddHashed a (.str x tk) ((PySem.strKind P w).hash x)) Q E s := by
  obtain ⟨o, es, ep, t, ho, hex, hd, g, pm0, nd, hb, hf, hr, hl⟩ := R
  have hkey : (PySem.strKind P w).is x (.str x tk) = true := strKind_is P w x tk
  have hsc : (Value.str x tk).scannable = true := rfl
  have hel := good_texts g
  have hn : es.size = L.length := by rw [← pm0.length_eq, List.length_map, Array.length_toList]
  unfold setAddHashed setAddHashedIn
  refine wpAny_holding (wpAny_bind (wpAny_setState_of ho hd hf ?_))
  dsimp only
  rw [byScan_of hsc hb hel]
  simp only [↓reduceIte]
  unfold setAddByScan
  refine wpAny_bind ?_
  refine wpAny_bind (wpAny_rule ?_)
  refine wpAny_bind (wpAny_setScan_of hkey ho hd hf hel ?_)
  cases hfi : List.findIdx? (fun e => (PySem.strKind P w).is x e.2) es.toList with
  | some j =>
    dsimp only
    obtain ⟨hj, pj, _⟩ := List.findIdx?_eq_some_iff_getElem.mp hfi
    have hm : x ∈ L := pm0.mem_iff.mp (List.mem_map.mpr ⟨es.toList[j], List.getElem_mem hj, (good_text (g _ (List.getElem_mem hj)) x).mp pj⟩)
    refine wpAny_pure (wpAny_pure ?_)
    have q := hQ false s.heap (Heap.SameBut.refl a s.heap) ⟨o, es, ep, t, ho, hex, hd, g, by unfold addS; rw [if_pos hm]; exact pm0, addS_nodup nd, hb, hf, hr, hl⟩
    exact q
  | none =>
    dsimp only
    have hnk : x ∉ L := fun z => by
      obtain ⟨e, he, q⟩ := List.mem_map.mp (pm0.mem_iff.mpr z)
      have c := List.findIdx?_eq_none_iff.mp hfi e he
      rw [(good_text (g e he) x).mpr q] at c
      cases c
    have hgw : ∀ (b : Bool) {s₁ : Shared} {Q' : Unit → Shared → Prop}, Q' () s₁ → wpAny (model P w) A (match b with | true => rule "set.scan.the-table-gave-way" | false => pure ()) Q' E s₁ :=
      fun b s₁ Q' q => by cases b <;> first | exact wpAny_pure q | exact wpAny_rule q
    have pm := layNew_perm t es ((PySem.strKind P w).hash x) (.str x tk)
    have hf1 := layNew_fits t es ((PySem.strKind P w).hash x) (.str x tk)
    have hr1 := layNew_ris t es ((PySem.strKind P w).hash x) (.str x tk) hr
    have hl1 := layNew_led t es ((PySem.strKind P w).hash x) (.str x tk)
    generalize layNew t es ((PySem.strKind P w).hash x) (.str x tk) = Z at pm hf1 hr1 hl1 ⊢
    obtain ⟨es1, t1, wasDummy, gave⟩ := Z
    dsimp only at pm hf1 hr1 hl1 ⊢
    rw [Array.toList_push] at pm
    have pc : es1.toList.Perm (((PySem.strKind P w).hash x, Value.str x tk) :: es.toList) := pm.trans (List.perm_append_singleton _ _)
    have pk : (es1.toList.map txtOf).Perm (addS L x) := by
      unfold addS
      rw [if_neg hnk]
      exact (pc.map txtOf).trans (List.Perm.cons x pm0)
    have g1 : ∀ e ∈ es1.toList, GoodT P w e := fun e he => by
      rcases List.mem_cons.mp (pc.mem_iff.mp he) with z | z
      · rw [z]; exact ⟨x, tk, rfl, rfl⟩
      · exact g e z
    have hsz : es1.size = L.length + 1 := by rw [← Array.length_toList, pc.length_eq, List.length_cons, Array.length_toList, hn]
    have hb1 : es1.size < scanBound := by rw [hsz]; exact room
    have hled : w.params.followText "set-order" = true ∨ t1.led = true := hl.imp id fun z => by rw [hl1]; exact z
    refine wpAny_bind (hgw _ ?_)
    split
    · refine wpAny_bind ?_
      rw [hashByValue_scannable 8 hsc]
      refine wpAny_pure ?_
      refine setX_tail ?_ ho hex hd g1 pk (addS_nodup nd) hb1 ?_ ?_ ?_ ?_
      · intro b s₁ Q' q; cases b <;> first | exact wpAny_pure q | exact wpAny_rule q
      · first | (split <;> first | exact hf1 | exact SetTable.fits_plain_off hf1) | exact hf1
      · first | (split <;> exact hr1) | exact hr1
      · first | (split <;> exact hled) | exact hled
      · intro h' sb r; dsimp only; exact wpAny_pure (hQ true h' sb r)
    · refine wpAny_bind (wpAny_pure ?_)
      simp only [↓reduceIte]
      refine setX_tail ?_ ho hex hd g1 pk (addS_nodup nd) hb1 hf1 hr1 hled ?_
      · intro b s₁ Q' q; cases b <;> first | exact wpAny_pure q | exact wpAny_rule q
      · intro h' sb r; dsimp only; exact wpAny_pure (hQ true h' sb r)
theorem setX_fresh {h : Heap} {a : Addr} (ho : h.get? a = some { cls := .type "set", dict := none, data := .set #[] 0 (.fresh 0 0 (!w.params.followText "set-order")) }) : SetX P w h a [] :=
  ⟨_, #[], 0, _, ho, ⟨rfl, rfl, rfl⟩, rfl, (fun e he => by simp at he), (by simp), (by simp), (by decide), (by rfl), List.Pairwise.nil, by
    show _ ∨ (!w.params.followText "set-order") = true
    cases w.params.followText "set-order"
    · exact .inr rfl
    · exact .inl rfl⟩
end
end T3
set_option maxHeartbeats 4000000
set_option autoImplicit false
namespace T3
open PySem PySem.Spec PyProof.Rows L2
def setS (ws : List Str) : List Str := ws.foldl addS []
theorem setS_next {ws : List Str} {i : Nat} {x : Str} (h : ws[i]? = some x) : setS (ws.take (i + 1)) = addS (setS (ws.take i)) x := by
  unfold setS
  rw [List.take_add_one, h, List.foldl_append]; rfl
theorem foldS_mem {y : Str} : ∀ {ws L : List Str}, y ∈ ws.foldl addS L ↔ y ∈ L ∨ y ∈ ws
  | [], L => by simp
  | x :: ws, L => by
    rw [List.foldl_cons, foldS_mem, addS_mem, List.mem_cons, or_assoc]
theorem setS_mem {y : Str} {ws : List Str} : y ∈ setS ws ↔ y ∈ ws := by
  unfold setS; rw [foldS_mem]; simp
theorem foldS_nodup : ∀ {ws L : List Str}, L.Nodup → (ws.foldl addS L).Nodup
  | [], _, h => h
  | x :: ws, L, h => foldS_nodup (ws := ws) (addS_nodup h)
theorem setS_nodup {ws : List Str} : (setS ws).Nodup := foldS_nodup List.nodup_nil
theorem foldS_length : ∀ {ws L : List Str}, (ws.foldl addS L).length ≤ L.length + ws.length
  | [], L => by simp
  | x :: ws, L => by
    have h1 := foldS_length (ws := ws) (L := addS L x)
    have h2 := addS_length (L := L) (x := x)
    rw [List.foldl_cons, List.length_cons]; omega
theorem setS_length {ws : List Str} : (setS ws).length ≤ ws.length := by
  have := foldS_length (ws := ws) (L := [])
  unfold setS
  simpa using this
section
variable {P : Program} {w : World} {A : Around} {E : Value → Shared → Prop} {s : Shared}
theorem setX_loop {I : Addr} {fp wr : List Addr} {G : Array GenState → Array GenState → Prop} {n : Nat} {Pv : Nat → Value → Prop} {St : Nat → Shared → Prop} {R : Result → Shared → Prop}
    (W : WalksS P w A.in1 I fp wr G n Pv St) (S : Addr) (hSf : S ∉ fp) (ws : List Str) (hn : n = ws.length) (hb : ws.length + 1 < scanBound) (hval : ∀ i v, Pv i v → ∃ x t, ws[i]? = some x ∧ v = .str x t) :
    ∀ (k i : Nat) (s : Shared), n - i = k → i ≤ n → St i s → SetX P w s.heap S (setS (ws.take i)) →
      (∀ s', Moved (S :: wr) G s s' → SetX P w s'.heap S (setS ws) → R (.ok (.ret .none)) s') →
      codeAny (model P w) A (.builtin "set.update.loop" ⟨[.ref S, .ref I], []⟩) R s := by
  have hSw : S ∉ wr := fun h => hSf (W.sub _ h)
  have hsub : ∀ b ∈ wr, b ∈ S :: wr := fun b hb => List.mem_cons_of_mem _ hb
  intro k
  induction k with
  | zero =>
    intro i s hk' hi hst hS hR
    have hin : i = n := by omega
    subst hin
    refine codeAny_builtin F.entry_set_update_loop ?_
    rw [Around.under_plainId F.plain_set_update_loop _]
    show wpAny _ A.in1 (pyNext (.ref I) >>= _) _ _ s
    refine wpAny_bind (W.done s _ _ hst fun s' hm => ?_)
    show wpAny _ A.in1 (ret Value.none) _ _ s'
    rw [show ws.take i = ws from List.take_of_length_le (by omega)] at hS
    exact wpAny_pure (hR s' (hm.mono hsub) (hS.at' fun o e => hm.heap S o hSw e))
  | succ k ih =>
    intro i s hk' hi hst hS hR
    have hlt : i < n := by omega
    refine codeAny_builtin F.entry_set_update_loop ?_
    rw [Around.under_plainId F.plain_set_update_loop _]
    show wpAny _ A.in1 (pyNext (.ref I) >>= _) _ _ s
    refine wpAny_bind (W.item i s _ _ hlt hst fun v s' hP hst' hm => ?_)
    obtain ⟨x, t, hx, rfl⟩ := hval i v hP
    have hS' : SetX P w s'.heap S (setS (ws.take i)) := hS.at' fun o e => hm.heap S o hSw e
    show wpAny _ A.in1 (holding [Value.str x t] (setAdd S (.str x t)) >>= _) _ _ s'
    refine wpAny_bind (wpAny_holding ?_)
    unfold setAdd
    refine wpAny_holding ?_
    refine wpAny_bind ((PySem.strKind P w).pyHash (k := x) (strKind_is _ _ _ _) ?_)
    have hroom : (setS (ws.take i)).length + 1 < scanBound := by
      have h1 := setS_length (ws := ws.take i)
      rw [List.length_take] at h1
      omega
    refine setX_add (s := { s' with toks := s'.toks + 1 }) hS' hroom fun b h' hsb hS2 => ?_
    rw [← setS_next hx] at hS2
    refine wpAny_pure ⟨plainId_quiet F.plain_set_update_loop _, ih (i + 1) _ (by omega) hlt (W.frame _ s' _ _ hst' (Nat.le_succ _) fun b hb o e => ?_) hS2 fun s'' hm'' hS'' => ?_⟩
    · rw [hsb.2 b (fun h : b = S => hSf (by rw [← h]; exact hb))]; exact e
    · refine hR s'' (Moved.trans W.gtrans ((hm.mono hsub).then_heap (Nat.le_succ _) fun b o hb e => ?_) hm'') hS''
      rw [hsb.2 b (fun h : b = S => hb (by rw [h]; exact List.mem_cons_self))]; exact e
/-- set(xs), xs a list of texts -/
theorem call_setX {l : Addr} {items : Array Value} (ws : List Str) {Q : Value → Shared → Prop} (hh : A.handled = none) (hl : s.heap.IsList l items) (hisz : items.size = ws.length) (hval : ∀ (i : Nat) (v : Value), items[i]? = some v → ∃ x t, ws[i]? = some x ∧ v = .str x t) (hb : ws.length + 1 < scanBound)
    (h : ∀ (h' : Heap) (tk : Nat), SetX P w h' s.heap.objs.size (setS ws) → (∀ b o, s.heap.get? b = some o → h'.get? b = some o) → Q (.ref s.heap.objs.size) { s with heap := h', toks := tk }) :
    wpAny (model P w) A (call (.type "set") [.ref l]) Q E s := by
  obtain ⟨c, tl, hmro⟩ := F.called_set.mro
  have hmade := F.called_set.made
  have hsub := F.called_set.sub
  refine wpAny_call (codeAny_of_tree ?_)
  show wpAny _ _ (callAny (.type "set") _) _ _ _
  refine wpAny_pure ⟨Code.quiet_builtin _ (by decide +kernel), codeAny_builtin F.entry_type_call ?_⟩
  rw [Around.under_plain (weight_type_call_type "set" [.ref l] []) rfl]
  have h1 := F.called_set.notType
  have h2 := F.called_set.canCreate
  have hct := F.typeCall_set_1 (.ref l)
  repeat (any_goals (first | assumption | wp_step))
  generalize hbase : s.heap.push { cls := .type "set", dict := none, data := .set #[] 0 (.fresh 0 0 (!w.params.followText "set-order")) } = hp0
  refine codeAny_mono (code_set_led1 (.ref l) (E := E) (Q₁ := fun obj s₁ => obj = .ref s.heap.objs.size ∧ s₁ = { s with heap := hp0 }) ⟨rfl, by rw [hbase]⟩) fun r s₁ hr => ?_
  cases r with
  | error e => exact hr
  | ok fl =>
    cases fl with
    | ret obj =>
      obtain ⟨rfl, rfl⟩ := hr
      have hS : hp0.get? s.heap.objs.size = some { cls := .type "set", dict := none, data := .set #[] 0 (.fresh 0 0 (!w.params.followText "set-order")) } := by rw [← hbase]; exact Heap.get?_push_size _ rfl
      have hold : ∀ b o, s.heap.get? b = some o → hp0.get? b = some o := fun b o e => by rw [← hbase]; exact Heap.get?_push_of_some _ e
      have hz0 : hp0.objs.size = s.heap.objs.size + 1 := by rw [← hbase]; exact Heap.size_push ..
      have hT : Shared.TypeIs { s with heap := hp0 } (.ref s.heap.objs.size) "set" := ⟨_, hS, rfl⟩
      have hli := F.called_set.init.lookup
      have hbi := F.called_set.init.bind (.ref s.heap.objs.size)
      repeat (any_goals (first | assumption | wp_step))
      refine codeAny_mono (codeAny_call_builtin (R := wants (fun r s₂ => r = .none ∧ ∃ h' tk, s₂ = { s with heap := h', toks := tk } ∧ SetX P w h' s.heap.objs.size (setS ws) ∧
          (∀ b o, s.heap.get? b = some o → h'.get? b = some o)) E) F.called_set.init.plain F.entry_set_init (check_set_init_1 hT ?_)) fun r₂ s₂ hr₂ => ?_
      · obtain ⟨ol, hol, hcl, nl, hdl⟩ := hl
        obtain ⟨ocls, odict, odata, oslots⟩ := ol
        simp only at hcl hdl
        subst hcl; subst hdl
        have hol' : hp0.get? l = some { cls := .type "list", dict := odict, data := .seq items nl, slots := oslots } := hold _ _ hol
        have hsls := F.sub_list_set
        have hslf := F.sub_list_frozenset
        have hne : (Value.type "list" == Value.type "dict") = false := by decide
        have hl1 : hp0.IsList l items := ⟨_, hol', rfl, nl, rfl⟩
        unfold Builtin.«set.__init__» noKeywords Builtin.Frozenset.updateFrom
        generalize hPI : pyIter = PI
        wp_walk
        subst hPI
        refine wpAny_pyIter_list hl1 ?_
        refine wpAny_bind (wpAny_runValue ?_)
        have hlS : l < s.heap.objs.size := Heap.lt_size hol
        have hh3 : A.in1.in1.in1.handled = none := by simp [hh]
        have hneI : l ≠ hp0.objs.size := by rw [hz0]; exact Nat.ne_of_lt (Nat.lt_succ_of_lt hlS)
        have hSf : s.heap.objs.size ∉ [hp0.objs.size, l] := by
          simp only [List.mem_cons, List.not_mem_nil, or_false, not_or]
          rw [hz0]; exact ⟨Nat.ne_of_lt (Nat.lt_succ_self _), Nat.ne_of_gt hlS⟩
        refine setX_loop ((Walks.list hh3 _ l hneI items).toS) s.heap.objs.size hSf ws hisz hb hval (items.size - 0) 0 _ (by omega) (Nat.zero_le _)
          ⟨⟨_, Heap.get?_push_size _ rfl, rfl, rfl⟩, (hl1.push _)⟩ ?hS0 ?hR
        case hS0 => exact setX_fresh (Heap.get?_push_of_some _ hS)
        case hR =>
          intro s' hm hS'
          obtain ⟨h', g2, d', tk', os'⟩ := s'
          have eg : g2 = s.gens := hm.gens
          have ed : d' = s.drawn := hm.drawn
          have eo : os' = s.os := hm.os
          subst eg; subst ed; subst eo
          show wpAny _ _ _ _ _ _
          refine wpAny_pure ?_
          show wpAny _ _ (ret Value.none) _ _ _
          refine wpAny_pure ⟨rfl, h', tk', rfl, hS', fun b o e => ?_⟩
          have hb0 : b < s.heap.objs.size := Heap.lt_size e
          refine hm.heap b o ?_ (Heap.get?_push_of_some _ (hold b o e))
          simp only [List.mem_cons, List.not_mem_nil, or_false, not_or]
          rw [hz0]; exact ⟨Nat.ne_of_lt hb0, Nat.ne_of_lt (Nat.lt_succ_of_lt hb0)⟩
      · cases r₂ with
        | error e => exact hr₂
        | ok fl₂ =>
          cases fl₂ with
          | ret r =>
            obtain ⟨rfl, h', tk, rfl, hS', hk'⟩ := hr₂
            repeat (any_goals (first | assumption | wp_step))
            exact h _ _ hS' hk'
          | _ => exact hr₂.elim
    | _ => exact hr.elim
end
end T3
set_option autoImplicit false
namespace T3
open PySem PySem.Spec PyProof.Rows L2
theorem rise_same : ∀ {xs ys : List Str}, xs.Perm ys → xs.Pairwise strLt → ys.Pairwise strLt → xs = ys
  | [], ys, h, _, _ => by rw [h.symm.eq_nil]
  | a :: xs, [], h, _, _ => by cases h.eq_nil
  | a :: xs, b :: ys, h, h1, h2 => by
    rw [List.pairwise_cons] at h1 h2
    have e : a = b := by
      rcases List.mem_cons.mp (h.mem_iff.mp List.mem_cons_self) with e | ha
      · exact e
      rcases List.mem_cons.mp (h.mem_iff.mpr List.mem_cons_self) with e | hb
      · exact e.symm
      exact absurd (h1.1 b hb) (List.lt_asymm (h2.1 a ha))
    subst e
    rw [rise_same h.cons_inv h1.2 h2.2]
theorem sort_strs_perm {xs ys : List Str} (h : xs.Perm ys) (hn : ys.Nodup) : sortD (xs.map D.str) = sortD (ys.map D.str) := by
  obtain ⟨a, ha, pa, ra⟩ := sort_strs xs (h.nodup_iff.mpr hn)
  obtain ⟨b, hb, pb, rb⟩ := sort_strs ys hn
  rw [ha, hb, rise_same (pa.trans (h.trans pb.symm)) ra rb]
theorem okSort_txt (xs : List Str) (h : xs.length ≤ 1000) : okSort (xs.map D.str) = true := by
  have hz : xs.length ≤ sizeLine := by have := sizeLine_eq; omega
  have hp : ∀ l : List Str, poks (l.map D.str) = true := by
    intro l
    induction l with
    | nil => rfl
    | cons a l ih => rw [List.map_cons, poks, ih]; rfl
  simp only [okSort, hp, Bool.true_and, List.length_map, hz, decide_true, Bool.and_true, Bool.and_eq_true, Bool.or_eq_true, List.all_eq_true, decide_eq_true_eq]
  refine ⟨⟨fun a ha b hb => ?_, .inr fun a ha => ?_⟩, fun a ha => ?_⟩
  · obtain ⟨x, _, rfl⟩ := List.mem_map.mp ha
    obtain ⟨y, _, rfl⟩ := List.mem_map.mp hb
    simp [pd, PySem.W.alike]
  · obtain ⟨x, _, rfl⟩ := List.mem_map.mp ha; rfl
  · obtain ⟨x, _, rfl⟩ := List.mem_map.mp ha
    simp [dep]
/-- all are texts -/
def strsOf : List D → Option (List Str)
  | [] => some []
  | .str x :: r => (strsOf r).map (x :: ·)
  | _ => none
theorem strsOf_eq : ∀ {ds : List D} {ws : List Str}, strsOf ds = some ws → ds = ws.map D.str
  | [], ws, h => by cases h; rfl
  | d :: r, ws, h => by
    cases d <;> first | (simp [strsOf] at h; done) | skip
    simp only [strsOf, Option.map_eq_some_iff] at h
    obtain ⟨w', h1, rfl⟩ := h
    rw [strsOf_eq h1]; rfl
@[simp] theorem strsOf_map : ∀ ws : List Str, strsOf (ws.map D.str) = some ws
  | [] => rfl
  | x :: r => by rw [List.map_cons, strsOf, strsOf_map r]; rfl
theorem inv_after {X : Cx} {pins : List (Addr × Obj)} {σ : L2.St} {H : Hp} {s s' : Shared} (I : Inv X pins σ H s) (k : ∀ b u, s.heap.get? b = some u → s'.heap.get? b = some u) (hg : s'.gens = s.gens) (ho : s'.os = s.os) : Inv X pins σ H s' :=
  I.call' (ch := []) ho (Un.kept k) (I.hok.kept k) (by rw [hg]; exact I.bare) (fun b z => absurd z List.not_mem_nil)
/-- texts, as values -/
theorem txts_of {K : PySem.W.Frag} {w : World} {H : Hp} (ws : List Str) : ∀ {us : List Value} {zs : List V}, Vals zs us → Rps K w H (ws.map D.str) zs → StrsAre us ws := by
  induction ws with
  | nil =>
    intro us zs hv hr
    rw [List.map_nil, Rps] at hr
    subst hr
    cases hv
    exact .nil
  | cons x ws ih =>
    intro us zs hv hr
    rw [List.map_cons, Rps] at hr
    obtain ⟨v, vs, rfl, h1, h2⟩ := hr
    rw [Rp] at h1
    subst h1
    cases hv with
    | cons a b =>
      obtain ⟨t, rfl⟩ := a
      exact .cons x t (ih b h2)
theorem txts_stand {K : PySem.W.Frag} {w : World} {H : Hp} {us : List Value} {ws : List Str} (h : StrsAre us ws) : PySem.W.EachIs (Stands K w H) us (ws.map D.str) := by
  induction h with
  | nil => exact .nil
  | cons x t _ ih => exact .cons ⟨.str x, ⟨t, rfl⟩, by rw [Rp]⟩ ih
def rSortSet (X : Cx) : List V → Hp → VK → Prop := fun xs H Q => ∃ l zs ws, xs = [V.ref l] ∧ SqL X.K H l zs ∧ Rps X.K X.w H (ws.map D.str) zs ∧ ws.length ≤ 1000 ∧
  ∀ p ys, H p = none → Rps X.K X.w H (sortD ((setS ws).map D.str)) ys → Q (.ref p) (upd H p (.lst ys))
section
variable {X : Cx} {C : Ct}
theorem pe_sortSet {e : Expr} {t : TA} {p p2 q pos : Pos} (hc : X.calm = true) (hu : X.A.units + 64 < cLine) (hg : Gl X "sorted") (hm : X.mg "sorted" = none) (hg2 : Gl X "set") (hm2 : X.mg "set" = none) (ha : PA X [e] t)
    (he : starEach [e] X.env = [(false, eval e X.env)] := by rfl) : PE X (.Call (.Name "sorted" p) [.Call (.Name "set" p2) [e] [] q] [] pos) (tCB (rSortSet X) t) := by
  refine ⟨fun pins s σ H Q I h => ?_⟩
  refine Call_ (ld_blt I hg hm PyProof.Rows.boot_sorted ?_)
  refine PyProof.Rows.callWith_builtin1 (PyProof.Rows.args_cons ?_ rfl) rfl rfl
  refine Call_ (ld_blt I hg2 hm2 PyProof.Rows.boot_set ?_)
  refine PyProof.Rows.callWith_type1 (thn (ha.run _ pins s σ H _ I h) fun us s1 ⟨vs, H1, I1, r1, q1⟩ => ?_) he rfl
  obtain ⟨l, zs, ws, rfl, hq, hr, hl, q1⟩ := q1
  obtain ⟨u, rfl, ru⟩ := vals1 r1
  cases ru
  obtain ⟨its, rv, pl, hz⟩ := I1.list hq
  have hst : StrsAre its ws := txts_of ws rv hr
  have hln : its.length = ws.length := hst.length
  refine call_setX (w := X.w) ws (I1.ok.hd hc) pl.isList (by rw [List.size_toArray]; exact hln) (fun i v hv => ?_) (by unfold scanBound; omega) fun h' tk hS hk => ?_
  · obtain ⟨y, t, e1, e2⟩ := hst.item i v (by simpa using hv)
    exact ⟨y, t, e2, e1⟩
  refine PyProof.Rows.args_nil ?_
  have I2 : Inv X pins σ H1 { s1 with heap := h', toks := tk } := I1.kept hk
  obtain ⟨o, es, ep, tb, ho, hex, hd, g, pm0, nd, hb, hf, hrs, hld⟩ := hS
  have hlen := setS_length (ws := ws)
  -- the texts met, in some order
  have go : ∀ vs : List Value, vs.Perm (es.toList.map (·.2)) → ∃ out : List Str, StrsAre vs out ∧ out.Perm (setS ws) := by
    intro vs pv
    have all : ∀ l : List Value, (∀ v ∈ l, ∃ x tk, v = Value.str x tk) → ∃ out : List Str, StrsAre l out ∧ out = l.map (fun v => txtOf (0, v)) := by
      intro l
      induction l with
      | nil => intro _; exact ⟨[], .nil, rfl⟩
      | cons a l ih =>
        intro hm
        obtain ⟨x, tk, rfl⟩ := hm a List.mem_cons_self
        obtain ⟨out, h1, h2⟩ := ih fun v hv => hm v (List.mem_cons_of_mem _ hv)
        exact ⟨x :: out, .cons x tk h1, by rw [h2]; rfl⟩
    obtain ⟨out, h1, h2⟩ := all vs fun v hv => by
      obtain ⟨e, he, rfl⟩ := List.mem_map.mp (pv.mem_iff.mp hv)
      obtain ⟨x, tk, h1, _⟩ := g e he
      exact ⟨x, tk, h1⟩
    refine ⟨out, h1, ?_⟩
    rw [h2]
    refine (pv.map _).trans ?_
    rw [List.map_map]
    exact pm0
  have hrow : ∀ out : List Str, out.Perm (setS ws) → okSort (out.map D.str) = true ∧ sortD (out.map D.str) = sortD ((setS ws).map D.str) := fun out hp =>
    ⟨okSort_txt _ (by rw [hp.length_eq]; omega), sort_strs_perm hp setS_nodup⟩
  have main : ∀ (ws' : List Str), ws'.Perm (setS ws) → True := fun _ _ => trivial
  refine Calls.call_function_entry PyProof.Rows.kind_sorted PyProof.Rows.plain_sorted PyProof.Rows.entry_sorted (PyProof.Rows.args_sorted1 _) ?_
  unfold Builtin.«sorted»
  refine wpAny_bind (m := checkCount "sorted" 1 1 _) (wpAny_pure ?_)
  refine wpAny_bind (collect_set (A := X.A.in1) (I1.ok.hd hc) ⟨o, ho, hex.1, hd⟩ hf hb hrs hld fun s3 out k3 hz3 g3 o3 pm3 => ?_)
  obtain ⟨os, h1, h2⟩ := go out pm3
  obtain ⟨ok, es2⟩ := hrow os h2
  have I3 : Inv X pins σ H1 s3 := inv_after I2 k3 g3 o3
  have hs3 : PySem.W.EachIs (Stands X.K X.w H1) out (os.map D.str) := txts_stand h1
  have hl3 := (okSort_of ok).2.2.2.2
  refine wpAny_bind (wpAny_newList ?_ (by have := hs3.length; omega))
  refine wpAny_bind (wpAny_holding (wpAny_mono (sort_new (A := X.A.in1) (E := X.xe) (Q := fun _ s' => ∃ w, EP X pins σ Q w s' ∧ w = .ref s3.heap.objs.size) I3 (by show X.A.units + 1 + 55 < _; omega) hs3 ok fun ys h2 r I4 => ?_) (fun _ s' x => ?_) fun _ _ e => ?_))
  · refine ⟨_, ⟨.ref s3.heap.objs.size, _, I4, rfl, q1 _ ys I3.fresh ?_⟩, rfl⟩
    rw [← es2]; exact r
  · obtain ⟨w, x, rfl⟩ := x
    exact wpAny_pure ⟨_, rfl, x⟩
  · exact e
def fSortSet (A : AH) : List D → Option D
  | [d] => match vw A d with
    | .lst ds => (strsOf ds).bind fun ws => if ws.length ≤ 1000 then some (.ml (sortD ((setS ws).map D.str))) else none
    | _ => none
  | _ => none
theorem o_sortSet : OpN X C (rSortSet X) fSortSet := fun z A σ H ds d xs Q r s h e q => by
  unfold fSortSet at e
  split at e
  · obtain ⟨v, rfl, hb⟩ := h.one
    split at e
    · rename_i row hv
      cases hs : strsOf row with
      | none => rw [hs] at e; cases e
      | some ws =>
        rw [hs] at e
        simp only [Option.bind_some] at e
        split at e
        · rename_i hl
          cases e
          obtain ⟨a, zs, rfl, h1, h2⟩ := hb.list r s hv
          rw [strsOf_eq hs] at h2
          exact ⟨a, zs, ws, rfl, h1, h2, hl, fun p ys hp hy => q _ _ (.lst hp hy)⟩
        · cases e
    · cases e
  · cases e
theorem pe3_sortSet {e : Expr} {t : TA3} {p p2 q pos : Pos} (hc : X.calm = true) (hu : X.A.units + 64 < cLine) (hg : Gl X "sorted") (hm : X.mg "sorted" = none) (hg2 : Gl X "set") (hm2 : X.mg "set" = none) (ha : PAB3 X C [e] t)
    (he : starEach [e] X.env = [(false, eval e X.env)] := by rfl) : PE3 X C (.Call (.Name "sorted" p) [.Call (.Name "set" p2) [e] [] q] [] pos) (eN fSortSet t) :=
  PE.imp (pe_sortSet hc hu hg hm hg2 hm2 ha he) fun _ _ _ hq => low_opN o_sortSet hq
@[simp] theorem fSortSet_lst (A : AH) (xs : List D) : fSortSet A [.lst xs] = (strsOf xs).bind fun ws => if ws.length ≤ 1000 then some (.ml (sortD ((setS ws).map D.str))) else none := rfl
end
end T3
set_option autoImplicit false
namespace T3
open PySem PySem.Spec PyProof.Rows L2

/-! ### enumerate(text) -/
/-- each sign in a new pair with its place -/
def IteS (x : Str) : It :=
  ⟨fun i _ => i < x.cps.size, fun i H v H' => ∃ T c, x.cps[i]? = some c ∧ v = .ref T ∧ H T = none ∧ H' = upd H T (.tup [.int (i : Nat), .str ⟨#[c]⟩]), fun i _ => x.cps.size ≤ i⟩
theorem turn_enumS {P : Program} {w : World} {K : PySem.W.Frag} {elts : List Expr} {kk : Nat} {tpos : Pos} (e it : Addr) (x : Str) (t : Tok) (ty : String) (hty : ty = "str_ascii_iterator" ∨ ty = "str_iterator") :
    Turn P w K (.Tuple elts kk tpos) (IteS x) [e, it] e (fun i h => (∃ old, IsEnum h e it ((i : Nat) : Int) old) ∧ h.IsStrIter it ty x t i ∧ e ≠ it) where
  mem := by simp
  obj := fun i h st b hb => by
    obtain ⟨⟨old, he⟩, ⟨o, ho, hc, hd⟩, _⟩ := st
    have e' : b = e ∨ b = it := by simpa using hb
    rcases e' with z | z
    · rw [z]; exact ⟨_, he, fun v q => nomatch q⟩
    · rw [z]; exact ⟨o, ho, fun v q => by rw [hd] at q; cases q⟩
  keep := fun i h h' st k => by
    obtain ⟨⟨old, he⟩, ⟨o, ho, r⟩, hne⟩ := st
    exact ⟨⟨old, k e (by simp) _ he⟩, ⟨o, k it (by simp) o ho, r⟩, hne⟩
  item := by
    intro X hP hw hK hc i pins s σ H E I hf st hg
    subst hP hw hK
    obtain ⟨⟨old, he⟩, hit, hne⟩ := st
    have D : Draws X.prog X.w X.A.in1 it [it] x.cps.size (fun i v => ∃ c u, x.cps[i]? = some c ∧ v = .str ⟨#[c]⟩ u) (fun i h => h.IsStrIter it ty x t i) := by
      rcases hty with z | z
      · rw [z]; exact Draws.strAscii (A := X.A.in1) (by simp [I.ok.hd hc]) it x t
      · rw [z]; exact Draws.strWide (A := X.A.in1) (by simp [I.ok.hd hc]) it x t
    have hel : e < s.heap.objs.size := Heap.lt_size he
    have hil : it < s.heap.objs.size := by obtain ⟨_, q, _⟩ := hit; exact Heap.lt_size q
    refine wpAny_pyNext_enum_itemD D he hit hg hne (by simpa using hne) fun u h' tk hP ho hit' hT hsz hk => ?_
    obtain ⟨c, tu, hcx, rfl⟩ := hP
    refine ⟨_, rfl, wpAny_letOwnedTupleGo_enum (s := { s with heap := h', toks := tk + 1 }) ho fun h'' he' sb => ?_⟩
    have hT2 : h''.get? s.heap.objs.size = some { cls := .type "tuple", data := .seq #[.int i tk, .str ⟨#[c]⟩ tu] } := (sb.2 _ (Nat.ne_of_gt hel)).trans hT
    have new : ObjOk X.prog X.w (upd H s.heap.objs.size (.tup [.int (i : Nat), .str ⟨#[c]⟩])) h'' s.heap.objs.size (.tup [.int (i : Nat), .str ⟨#[c]⟩]) :=
      ⟨by show 2 ≤ sizeLine; decide, [.int i tk, .str ⟨#[c]⟩ tu], .cons ⟨_, rfl⟩ (.cons ⟨_, rfl⟩ .nil), ⟨_, hT2, rfl, _, rfl⟩⟩
    have I1 : Inv X pins σ (upd H s.heap.objs.size (.tup [.int (i : Nat), .str ⟨#[c]⟩])) { s with heap := h'', toks := tk + 1 } :=
      I.turnedNew (ch := [e, it]) (fun b ob hb q => (sb.2 b (fun z => hb (by simp [z]))).trans (hk b ob (fun z => hb (by simp [z])) (fun z => hb (by simp [z])) q)) hf (Nat.le_refl _) new
    refine ⟨.ref s.heap.objs.size, _, I1, rfl, ⟨_, c, hcx, rfl, I.hok.fresh (Nat.le_refl _), rfl⟩, ⟨⟨.str ⟨#[c]⟩ tu, ?_⟩, ?_, hne⟩, fun b hb => ?_⟩
    · have e1 : ((i + 1 : Nat) : Int) = (i : Int) + 1 := by omega
      rw [e1]; exact he'
    · obtain ⟨o, ho2, r⟩ := hit'
      exact ⟨o, (sb.2 it (Ne.symm hne)).trans ho2, r⟩
    · have hb' : b < s.heap.objs.size := by
        have e' : b = e ∨ b = it := by simpa using hb
        rcases e' with z | z
        · rw [z]; exact hel
        · rw [z]; exact hil
      rw [upd_ne (Nat.ne_of_lt hb')]
      exact (hf b hb).1
  done := by
    intro X hP hw hK hc i pins s σ H E I hf st hg
    subst hP hw hK
    obtain ⟨⟨old, he⟩, hit, hne⟩ := st
    obtain ⟨f0, f1, f2, f3, f4, f5⟩ := hf it (by simp)
    have hx : x.cps[i]? = none := Array.getElem?_eq_none hg
    have hT : s.TypeIs (.ref e) "enumerate" := ⟨_, he, rfl⟩
    unfold pyNext
    refine wpAny_bind (wpAny_attempt (wpAny_callSpecial?_slot (name := Str.ofString "__next__") hT F.slot_enumerate_next
      (wpAny_call_entry F.slot_enumerate_next hT F.entry_enumerate_next ?_ (F.args_enumerate_next_1 _))))
    show wpAny _ _ (field (.ref e) 2 >>= _) _ _ _
    refine wpAny_bind (wpAny_field he rfl (x := .ref it) rfl ?_)
    rcases hty with z | z
    · rw [z] at hit
      refine wpAny_bind (wpAny_nextOf_ascii_end (by simp [I.ok.hd hc]) hit hx fun h' u he' hx' => ?_)
      obtain ⟨o, ho, hcl⟩ := hx'
      refine wpAny_bind (wpAny_isInstance (T := "StopIteration") (b := true) ⟨o, ho, hcl⟩ isSubtype_stop ?_)
      exact wpAny_pure ⟨rfl, I.turned (t' := s.toks) (fun b o hb q => he' b o hb q) f0 f1 f3 f4 f5⟩
    · rw [z] at hit
      refine wpAny_bind (wpAny_nextOf_wide_end (by simp [I.ok.hd hc]) hit hx fun h' u he' hx' => ?_)
      obtain ⟨o, ho, hcl⟩ := hx'
      refine wpAny_bind (wpAny_isInstance (T := "StopIteration") (b := true) ⟨o, ho, hcl⟩ isSubtype_stop ?_)
      exact wpAny_pure ⟨rfl, I.turned (t' := s.toks) (fun b o hb q => he' b o hb q) f0 f1 f3 f4 f5⟩
  self := fun A i s Q E st h => let ⟨⟨_, he⟩, _⟩ := st; wpAny_pyIter_enum he h
end T3
set_option autoImplicit false
namespace T3
open PySem PySem.Spec PyProof.Rows L2
def iEnumS (ta : TA) : TI := fun σ H R => ta σ H fun vs H1 => ∃ x, vs = [V.str x] ∧ R (IteS x) H1
theorem pi_enumS {X : Cx} {e : Expr} {ta : TA} {p pos tpos : Pos} {elts : List Expr} {kk : Nat} (hg : Gl X "enumerate") (hm : X.mg "enumerate" = none) (ha : PA X [e] ta) (hs : starEach [e] X.env = [(false, eval e X.env)] := by rfl) :
    PI X (.Tuple elts kk tpos) (.Call (.Name "enumerate" p) [e] [] pos) (iEnumS ta) := by
  refine ⟨fun pins s σ H R I h => ?_⟩
  refine Call_ (ld_blt I hg hm boot_enumerate (PyProof.Rows.callWith_type1 (thn (ha.run pos pins s σ H _ I h) fun us s1 ⟨vs, H1, I1, r1, q1⟩ => ?_) hs rfl))
  obtain ⟨x, rfl, q⟩ := q1
  obtain ⟨u, rfl, ru⟩ := vals1 r1
  obtain ⟨t, rfl⟩ := ru
  have hty : strIterType x = "str_ascii_iterator" ∨ strIterType x = "str_iterator" := by
    unfold strIterType
    split
    · exact .inl rfl
    · exact .inr rfl
  refine call_enumerate_str fun h' he hit hsz hk => wpAny_pyIter_enum he ?_
  have I2 : Inv X pins σ H1 { s1 with heap := h' } := I1.kept (t' := s1.toks) hk
  refine ⟨s1.heap.objs.size + 1, [s1.heap.objs.size + 1, s1.heap.objs.size], _, _, H1, rfl, I2, turn_enumS (s1.heap.objs.size + 1) s1.heap.objs.size x t (strIterType x) hty, ⟨⟨.none, he⟩, hit, Nat.succ_ne_self _⟩, fun b hb => ?_, q⟩
  have e' : b = s1.heap.objs.size + 1 ∨ b = s1.heap.objs.size := by simpa using hb
  have hle : s1.heap.objs.size ≤ b := by
    rcases e' with z | z
    · rw [z]; exact Nat.le_add_right _ _
    · rw [z]; exact Nat.le_refl _
  exact I1.fpOk hle (I1.hok.fresh hle)
theorem steady_enumS {K : PySem.W.Frag} {w : World} {H : Hp} {is : List Nat} {ws : Ws} (x : Str) : Steady K w (.tp is) ws (IteS x) (enumD 0 (signs x)) H := by
  have hl : (signs x).length = x.cps.size := by simp [signs]
  refine ⟨fun H2 p se => ?_, fun i d H2 p se hi => ?_⟩
  · show x.cps.size ≤ (enumD 0 (signs x)).length
    rw [enum_length, hl]; exact Nat.le_refl _
  obtain ⟨y, e1, rfl⟩ := enum_get hi
  have hlt : i < x.cps.size := by rw [← hl]; exact (List.getElem?_eq_some_iff.mp e1).1
  refine ⟨hlt, fun x' H3 ⟨T, c, hc, ex, hT, eH⟩ => ?_⟩
  subst ex eH
  have ey : y = .str ⟨#[c]⟩ := by
    unfold signs at e1
    rw [List.getElem?_map, Array.getElem?_toList, hc] at e1
    exact (Option.some.inj e1).symm
  subst ey
  rw [Nat.zero_add]
  exact new_tup hT (.two (by rw [Rp]) (by rw [Rp]))
section
variable {X : Cx} {C : Ct} {p pos tpos : Pos}
def iEnS (t : TA3) : TI3 := fun z A Q => t z A fun ds A' => args1 ds fun d => ∃ x, d = .str x ∧ Q (enumD 0 (signs x)) [] A'
theorem pi3_enumS {is : List Nat} {e : Expr} {elts : List Expr} {kk : Nat} {t : TA3} (hg : Gl X "enumerate") (hm : X.mg "enumerate" = none) (ha : PA3 X C [e] t) (hs : starEach [e] X.env = [(false, eval e X.env)] := by rfl) :
    PI3 X C (.tp is) (.Tuple elts kk tpos) (.Call (.Name "enumerate" p) [e] [] pos) (iEnS t) := PI.imp (pi_enumS hg hm ha hs) fun σ H R hq => by
  obtain ⟨z, A, Q3, r, s, q, f⟩ := hq
  refine ⟨z, A, _, r, s, q, fun ds A' vs H' q' r' s' p' t' => ?_⟩
  obtain ⟨d, rfl, q'⟩ := args1_ex q'
  obtain ⟨x, rfl, q2⟩ := q'
  obtain ⟨v, rfl, h1⟩ := t'.one'
  rw [Rp] at h1
  subst h1
  exact ⟨x, rfl, f _ _ A' _ H' q2 r' s' p' (steady_enumS x)⟩
@[simp] theorem ap_iEnS (A : AH) (t : TA3) (z : S3) (Q : List D → Ws → AH → Prop) : iEnS t z A Q = t z A (fun ds A' => args1 ds fun d => ∃ x, d = .str x ∧ Q (enumD 0 (signs x)) [] A') := rfl

/-! ### name += e, of numbers -/
def sAug (i : Nat) (g : Int → Int → Int) (t : TE3) : TS3 := fun E z A => ∃ j, z[i]? = some (some (.int j)) ∧ t z A fun d A' => ∃ k, d = .int k ∧ E.nx (z.set i (some (.int (g j k)))) A'
theorem ps3_aug {i : Nat} {x : Str} {e : Expr} {t : TE3} {op : Operator} {g : Int → Int → Int} {pos' : Pos} (hN : X.N.Nodup) (hi : X.N[i]? = some x) (hx : Loc X.env.scope x) (he : PE3 X C e t) (ho : PIp X op (ipI g)) (hf : X.fn x = true ∨ X.env.scope.names.lookup x = some .local := by first | exact .inl rfl | exact .inr rfl | assumption) :
    PS3 X C (.AugAssign (.Name x pos') op e pos) (sAug i g t) := PS.imp (ps_aug hN hi hx he ho hf) fun D σ H hq => by
  obtain ⟨z, A, D3, r, s, ⟨j, hz, q⟩, f⟩ := hq
  obtain ⟨v, hv, rv⟩ := s.val i _ hz
  have e0 : v = .int j := by have := rv; exact this
  subst e0
  refine ⟨_, hv, z, A, _, r, s, q, fun d A' v H' q' r' s' p' t' => ?_⟩
  obtain ⟨k, rfl, q2⟩ := q'
  have e1 : v = .int k := by have := t'.val; exact this
  subst e1
  exact ⟨j, k, rfl, rfl, f.nx _ A' _ H' q2 r' (s'.set (.of (by rw [Rp])) i) p'⟩
@[simp] theorem ap_sAug (z : S3) (A : AH) (E : Ends3) (i : Nat) (g : Int → Int → Int) (t : TE3) : sAug i g t E z A = ∃ j, z[i]? = some (some (.int j)) ∧ t z A fun d A' => ∃ k, d = .int k ∧ E.nx (z.set i (some (.int (g j k)))) A' := rfl
end
end T3
set_option autoImplicit false
namespace T3
open PySem PySem.Spec PyProof.Rows L2
/-! ### xs[::-1] of a list -/
def fRevL (A : AH) (d : D) : Option D := match vw A d with
  | .lst xs => some (.ml xs.reverse)
  | _ => none
section
variable {X : Cx} {C : Ct}
theorem pe3_revL {e : Expr} {te : TE3} {k : Nat} {p1 p2 p3 pos : Pos} (he : PB3 X C e te) : PE3 X C (.Subscript e (.Slice none none (some (.UnaryOp .USub (.Constant (.int 1) k p1) p2)) p3) pos) (e1 fRevL te) :=
  PE.imp (pe_revL he) fun σ H Q hq => by
    obtain ⟨z, A, Q3, r, s, q, f⟩ := hq
    refine ⟨z, A, _, r, s, q, fun d A1 v H1 q1 r1 s1 p1 t1 => ?_⟩
    obtain ⟨res, he, q4⟩ := q1
    unfold fRevL at he
    split at he
    · rename_i xs e1
      cases he
      obtain ⟨a, vs, rfl, h1, hr⟩ := t1.list r1 s1 e1
      exact ⟨a, vs, rfl, h1, fun p hp => low.gv r1 s1 f p1 q4 (.lst hp hr.reverse)⟩
    · cases he
@[simp] theorem fRevL_lst (A : AH) (xs : List D) : fRevL A (.lst xs) = some (.ml xs.reverse) := rfl
end
end T3
set_option autoImplicit false
namespace T3
open PySem PySem.Spec PyProof.Rows L2

/-! ### what the laws' texts share -/
theorem lim_of {n : Nat} (h : n ≤ 100000) : lim n = true := by
  have := sizeLine_eq
  unfold lim
  exact decide_eq_true (by omega)
theorem line_of {n : Nat} (h : n ≤ 100000) : n ≤ sizeLine := by
  have := sizeLine_eq
  omega
theorem str_append_length (x y : Str) : (x ++ y).length = x.length + y.length := by
  show (x.cps ++ y.cps).size = _
  rw [Array.size_append]; rfl
theorem one_length (c : Nat) : (⟨#[c]⟩ : Str).length = 1 := rfl
theorem atI_nat {α : Type} (xs : List α) (j : Nat) (h : j < xs.length) : L2.atI xs (j : Int) = some xs[j] := by
  unfold L2.atI
  rw [show L2.ixN xs.length (j : Int) = some j from by unfold L2.ixN; rw [if_pos (by omega), if_pos (by omega)]; simp]
  exact List.getElem?_eq_getElem h
theorem atI_int {α : Type} (xs : List α) (i : Int) (h0 : 0 ≤ i) (h : i < xs.length) : ∃ x, L2.atI xs i = some x ∧ x ∈ xs := by
  obtain ⟨j, rfl⟩ : ∃ j : Nat, i = j := ⟨i.toNat, by omega⟩
  exact ⟨_, atI_nat xs j (by omega), List.getElem_mem _⟩
/-- a text's sign at a remainder -/
theorem atI_mod (S : Str) (r : Int) (h : 0 < S.length) : ∃ c, L2.atI S.cps.toList (r % (S.length : Int)) = some c := by
  have e : S.cps.toList.length = S.length := by simp [Str.length]
  have h1 := Int.emod_nonneg r (show (S.length : Int) ≠ 0 by omega)
  have h2 := Int.emod_lt_of_pos r (show 0 < (S.length : Int) by omega)
  obtain ⟨c, hc, _⟩ := atI_int S.cps.toList (r % (S.length : Int)) h1 (by omega)
  exact ⟨c, hc⟩
theorem intsC_get {lo c : Int} {n i : Nat} {d : D} (h : (intsC lo c n)[i]? = some d) : i < n ∧ d = .int (lo + (i : Int) * c) := by
  have hl : i < n := by
    have := (List.getElem?_eq_some_iff.mp h).1
    simpa [intsC] using this
  refine ⟨hl, ?_⟩
  unfold intsC at h
  rw [List.getElem?_map, List.getElem?_range hl] at h
  cases h; rfl
theorem intsC_length (lo c : Int) (n : Nat) : (intsC lo c n).length = n := by simp [intsC]
theorem fIsi_str (T : String) (A : AH) (x : Str) : fIsi T A (.str x) = some (.bl (isT "str" T)) := rfl
theorem fIsi_int (T : String) (A : AH) (x : Int) : fIsi T A (.int x) = some (.bl (isT "int" T)) := rfl
theorem fIsi_bl (T : String) (A : AH) (x : Bool) : fIsi T A (.bl x) = some (.bl (isT "bool" T)) := rfl
theorem fIsi_tup (T : String) (A : AH) (x : List D) : fIsi T A (.tup x) = some (.bl (isT "tuple" T)) := rfl
theorem fIsi_lst (T : String) (A : AH) (x : List D) : fIsi T A (.lst x) = some (.bl (isT "list" T)) := rfl
theorem fIsi_non (T : String) (A : AH) : fIsi T A .non = some (.bl (isT "NoneType" T)) := rfl
@[simp] theorem own_script (ns : List Int) : own (script ns) = false := rfl
@[simp] theorem frz_script (ns : List Int) : frz (script ns) = script ns := rfl
@[simp] theorem vw_script (A : AH) (ns : List Int) : vw A (script ns) = script ns := rfl
theorem fMul_small {A : AH} {a b : Int} (h : big64 a = true ∨ big64 b = true) : fMul A (.int a) (.int b) = some (.int (a * b)) := by
  rw [fMul_int]
  rcases h with h | h <;> simp [h]
theorem big_of {a : Int} (h1 : -(2 ^ 64) < a) (h2 : a < 2 ^ 64) : big64 a = true := by
  unfold big64
  rw [decide_eq_true h1, decide_eq_true h2]; rfl
/-- a place between two statements where ways meet -/
theorem seq_mid {t u : TS3} {E : Ends3} {z : S3} {A : AH} (M : S3 → AH → Prop) (h : ∀ E' : Ends3, (∀ d A, E.rt d A → E'.rt d A) → (∀ z A, E.bk z A → E'.bk z A) → (∀ z A, E.ct z A → E'.ct z A) → (∀ z A, M z A → E'.nx z A) → t E' z A)
    (k : ∀ z A, M z A → u E z A) : sSeq t u E z A := h { E with nx := u E } (fun _ _ h => h) (fun _ _ h => h) (fun _ _ h => h) k
/-- cell_at(script, k) -/
def N_cell_at : List Str := ["_law_script", "_law_k"]
def b_cell_at : TS3 := sSeq (sIf (tV (T3.e2 fLt (eB 1) (fz (eN fLen (aCons (eB 0) (aNil)))))) (sSeq (sRet (T3.e2 fIxA (eB 0) (eB 1))) (sNil)) (sNil)) (sSeq (sRet (eC (.int 0))) (sNil))
def sp_cell_at : Sp3 := fun ds A Q _ => ∃ ns k, ds = [script ns, .int k] ∧ 0 ≤ k ∧ ∀ c, Q (.int c) A
theorem m_cell_at (ds A Q) (h : sp_cell_at ds A Q (fun _ _ _ => False)) : b_cell_at { nx := fun _ A' => Q .non A', rt := Q } (start3 N_cell_at ds) A := by
  obtain ⟨ns, k, rfl, hk, q⟩ := h
  by_cases h : k < ns.length
  · obtain ⟨j, rfl⟩ : ∃ j : Nat, k = j := ⟨k.toNat, by omega⟩
    have hj : j < ns.length := by omega
    have e := atI_nat (ns.map D.int) j (by simpa using hj)
    simp [b_cell_at, start3, N_cell_at, script, h, e]
    exact q _
  · simp [b_cell_at, start3, N_cell_at, script, h]
    exact q 0
end T3
set_option autoImplicit false
namespace T3
open PySem PySem.Spec PyProof.Rows L2

/-! ### stream(cell, many) -/
def N_stream : List Str := ["_law_cell", "_law_many", "_law_found", "_law_rest", "_law_k", "_law_number", "_law_other"]
def b_stream : TS3 := sSeq (sSet 2 (eLst (aNil))) (sSeq (sSet 3 (T3.e2 fFdiv (eB 0) (fz (eC (.int 2))))) (sSeq (sIf (tV (T3.e2 fEq (fz (T3.e2 fMod (eB 0) (fz (eC (.int 2))))) (fz (eC (.int 0))))) (sSeq (sFor (iR1 (aCons (fz (eV 1)) (aNil))) (.nm 4) (sSeq (sM 2 okL gAppend (aCons (fz (T3.e2 fMod (eB 3) (fz (eC (.int 1000000))))) (aNil)) kDrop) (sSeq (sSet 3 (T3.e2 fFdiv (eB 3) (fz (eC (.int 1000000))))) (sNil)))) (sSeq (sRetV 2) (sNil))) (sNil)) (sSeq (sSet 5 (T3.e2 fMod (eB 3) (fz (eC (.int 2147483647))))) (sSeq (sFor (iR1 (aCons (fz (eV 1)) (aNil))) (.nm 4) (sSeq (sSet 5 (T3.e2 fMod (fz (T3.e2 fAdd (fz (T3.e2 fAdd (fz (T3.e2 fMul (eB 5) (fz (eC (.int 48271))))) (fz (T3.e2 fMul (fz (eC (.int 7919))) (eB 4))))) (fz (eC (.int 11))))) (fz (eC (.int 2147483647))))) (sSeq (sSet 6 (T3.e2 fMod (fz (T3.e2 fMul (eB 5) (eB 5))) (fz (eC (.int 2147483629))))) (sSeq (sM 2 okL gAppend (aCons (fz (T3.e2 fMod (fz (T3.e2 fFdiv (fz (T3.e2 fMod (fz (T3.e2 fMul (eB 6) (fz (eC (.int 69621))))) (fz (eC (.int 2147483587))))) (fz (eC (.int 16))))) (fz (eC (.int 1000000))))) (aNil)) kDrop) (sNil))))) (sSeq (sRetV 2) (sNil))))))
def cells6 (ns : List Int) : Prop := ∀ n ∈ ns, 0 ≤ n ∧ n < 1000000
def sp_stream : Sp3 := fun ds A Q _ => ∃ c m, ds = [.int c, .int m] ∧ (0 ≤ m ∧ m ≤ 1000) ∧ ∀ ns : List Int, (ns.length : Int) = m → cells6 ns → Q (.ml (ns.map .int)) A
theorem cells6_snoc {ns : List Int} {n : Int} (h : cells6 ns) (h1 : 0 ≤ n) (h2 : n < 1000000) : cells6 (ns ++ [n]) := fun x hx => by
  rcases List.mem_append.mp hx with hx | hx
  · exact h x hx
  · rw [List.mem_singleton.mp hx]; exact ⟨h1, h2⟩
theorem m_stream (ds A Q) (h : sp_stream ds A Q (fun _ _ _ => False)) : b_stream { nx := fun _ A' => Q .non A', rt := Q } (start3 N_stream ds) A := by
  obtain ⟨c, m, rfl, hm, q⟩ := h
  have h62 : small62 m := ⟨by omega, by omega⟩
  by_cases h0 : c % 2 = 0
  · simp [b_stream, start3, N_stream, h0, h62]
    refine for_inv (fun i z A' => A' = A ∧ ∃ (ns : List Int) (r : Int) (o : Option D), ns.length = i ∧ cells6 ns ∧ z = [some (.int c), some (.int m), some (.ml (ns.map .int)), some (.int r), o, none, none]) ⟨rfl, [], _, _, rfl, (fun _ h => nomatch h), rfl⟩ ?_ ?_
    · rintro i y hy z A1 ⟨rfl, ns, r, o, hl, hc, rfl⟩
      obtain ⟨hi, rfl⟩ := rng_get hy
      refine ⟨_, rfl, fun E' hr hb hn hct => ?_⟩
      have hz : ns.length < sizeLine := by have := line_of (n := 2000) (by omega); omega
      simp [hz]
      refine hn _ _ ⟨rfl, ns ++ [r % 1000000], r / 1000000, some (.int i), by simp [hl], cells6_snoc hc (by omega) (by omega), by simp⟩
    · rintro z A1 ⟨rfl, ns, r, o, hl, hc, rfl⟩
      simp
      exact q ns (by rw [hl, rng_length]; omega) hc
  · simp [b_stream, start3, N_stream, h0, h62]
    refine for_inv (fun i z A' => A' = A ∧ ∃ (ns : List Int) (r n : Int) (o o' : Option D), ns.length = i ∧ cells6 ns ∧ (0 ≤ n ∧ n < 2147483647) ∧ z = [some (.int c), some (.int m), some (.ml (ns.map .int)), some (.int r), o, some (.int n), o']) ⟨rfl, [], _, _, _, _, rfl, (fun _ h => nomatch h), ⟨Int.emod_nonneg _ (by decide), Int.emod_lt_of_pos _ (by decide)⟩, rfl⟩ ?_ ?_
    · rintro i y hy z A1 ⟨rfl, ns, r, n, o, o', hl, hc, hn, rfl⟩
      obtain ⟨hi, rfl⟩ := rng_get hy
      refine ⟨_, rfl, fun E' hr hb hnx hct => ?_⟩
      have hz : ns.length < sizeLine := by have := line_of (n := 2000) (by omega); omega
      have k1 : fMul A1 (.int n) (.int 48271) = some (.int (n * 48271)) := fMul_small (.inr (by decide))
      have k2 : fMul A1 (.int 7919) (.int i) = some (.int (7919 * i)) := fMul_small (.inl (by decide))
      obtain ⟨n2, hn2⟩ : ∃ n2, (n * 48271 + 7919 * (i : Int) + 11) % 2147483647 = n2 := ⟨_, rfl⟩
      have b2 : 0 ≤ n2 ∧ n2 < 2147483647 := ⟨by omega, by omega⟩
      have k3 : fMul A1 (.int n2) (.int n2) = some (.int (n2 * n2)) := fMul_small (.inl (big_of (by omega) (by omega)))
      obtain ⟨n3, hn3⟩ : ∃ n3, n2 * n2 % 2147483629 = n3 := ⟨_, rfl⟩
      have k4 : fMul A1 (.int n3) (.int 69621) = some (.int (n3 * 69621)) := fMul_small (.inr (by decide))
      simp [k1, k2, hn2, k3, hn3, k4, hz]
      refine hnx _ _ ⟨rfl, ns ++ [n3 * 69621 % 2147483587 / 16 % 1000000], r, n2, some (.int i), some (.int n3), by simp [hl], cells6_snoc hc (by omega) (by omega), b2, by simp⟩
    · rintro z A1 ⟨rfl, ns, r, n, o, o', hl, hc, hn, rfl⟩
      simp
      exact q ns (by rw [hl, rng_length]; omega) hc

/-! ### letters, names -/
def letters : Str := "abcdefghijklmnopqrstuvwxyz"
theorem letters_at : ∀ j : Fin 26, letters.cps.toList[j.1]? = some (97 + j.1) := by decide +kernel
theorem letters_length : letters.cps.toList.length = 26 := by decide +kernel
theorem letters_len : letters.length = 26 := by decide +kernel
theorem letters_mem {c : Nat} : c ∈ letters.cps.toList ↔ 97 ≤ c ∧ c ≤ 122 := by
  constructor
  · intro h
    obtain ⟨j, hj⟩ := List.mem_iff_getElem?.mp h
    have hl : j < 26 := by rw [← letters_length]; exact (List.getElem?_eq_some_iff.mp hj).1
    have := letters_at ⟨j, hl⟩
    simp only at this
    rw [hj] at this
    cases this
    omega
  · rintro ⟨h1, h2⟩
    have := letters_at ⟨c - 97, by omega⟩
    simp only at this
    refine List.mem_iff_getElem?.mpr ⟨c - 97, ?_⟩
    rw [this]; congr 1; omega
/-- the letter of a number -/
def letC (i : Int) : Nat := 97 + (i % 26).toNat
theorem letC_ok (i : Int) : 97 ≤ letC i ∧ letC i ≤ 122 := by unfold letC; omega
theorem letters_ix (i : Int) : L2.atI letters.cps.toList (i % 26) = some (letC i) := by
  have h1 := Int.emod_nonneg i (show (26 : Int) ≠ 0 by omega)
  have h2 := Int.emod_lt_of_pos i (show (0 : Int) < 26 by omega)
  have hl := letters_length
  obtain ⟨j, hj⟩ : ∃ j : Nat, i % 26 = j := ⟨(i % 26).toNat, by omega⟩
  have hjl : j < 26 := by omega
  have e := atI_nat letters.cps.toList j (by omega)
  have e2 := letters_at ⟨j, hjl⟩
  simp only at e2
  rw [List.getElem?_eq_getElem (by omega)] at e2
  rw [hj, e, Option.some.inj e2]
  unfold letC
  congr 1; omega
def isLet (x : Str) : Prop := ∀ c ∈ x.cps.toList, 97 ≤ c ∧ c ≤ 122
structure NameOk (x : Str) : Prop where
  one : 1 ≤ x.length
  eight : x.length ≤ 8
  lets : isLet x
theorem snoc_list (x : Str) (c : Nat) : (x ++ (⟨#[c]⟩ : Str)).cps.toList = x.cps.toList ++ [c] := by
  show (x.cps ++ #[c]).toList = _
  simp
theorem isLet_snoc {x : Str} {c : Nat} (h : isLet x) (hc : 97 ≤ c ∧ c ≤ 122) : isLet (x ++ ⟨#[c]⟩) := fun d hd => by
  rw [snoc_list] at hd
  rcases List.mem_append.mp hd with hd | hd
  · exact h d hd
  · rw [List.mem_singleton.mp hd]; exact hc
theorem isLet_empty : isLet ("" : Str) := fun c hc => by
  have : ("" : Str).cps.toList = [] := by decide +kernel
  rw [this] at hc; cases hc
theorem empty_len : ("" : Str).length = 0 := by decide +kernel
theorem one_snoc (x : Str) (c : Nat) : (x ++ (⟨#[c]⟩ : Str)).length = x.length + 1 := by rw [str_append_length]; rfl

/-! ### name_in(rest) -/
def N_name_in : List Str := ["_law_rest", "_law_letters", "_law_many", "_law_name", "_law_k"]
def b_name_in : TS3 := sSeq (sSet 1 (eC (.str "abcdefghijklmnopqrstuvwxyz"))) (sSeq (sSet 2 (fz (T3.e2 fAdd (fz (eC (.int 1))) (fz (T3.e2 fMod (eB 0) (fz (eC (.int 8)))))))) (sSeq (sSet 0 (T3.e2 fFdiv (eB 0) (fz (eC (.int 8))))) (sSeq (sSet 3 (eC (.str ""))) (sSeq (sFor (iR1 (aCons (fz (eV 2)) (aNil))) (.nm 4) (sSeq (sSet 3 (fz (T3.e2 fAdd (eB 3) (fz (T3.e2 fIxA (eB 1) (fz (T3.e2 fMod (eB 0) (fz (eC (.int 26)))))))))) (sSeq (sSet 0 (T3.e2 fFdiv (eB 0) (fz (eC (.int 26))))) (sNil)))) (sSeq (sRet (eTup (aCons (fz (eV 3)) (aCons (fz (eV 0)) (aNil))))) (sNil))))))
def sp_name_in : Sp3 := fun ds A Q _ => ∃ r, ds = [.int r] ∧ ∀ (x : Str) (r' : Int), NameOk x → Q (.tup [.str x, .int r']) A
theorem m_name_in (ds A Q) (h : sp_name_in ds A Q (fun _ _ _ => False)) : b_name_in { nx := fun _ A' => Q .non A', rt := Q } (start3 N_name_in ds) A := by
  obtain ⟨r, rfl, q⟩ := h
  have h62 : small62 (1 + r % 8) := ⟨by omega, by omega⟩
  have hll := letters_len
  have hlim : lim 26 = true := lim_of (by omega)
  have z2 : 2 ≤ sizeLine := line_of (by omega)
  simp [b_name_in, start3, N_name_in, h62]
  refine for_inv (fun i z A' => A' = A ∧ ∃ (x : Str) (r' : Int) (o : Option D), x.length = i ∧ isLet x ∧ z = [some (.int r'), some (.str letters), some (.int (1 + r % 8)), some (.str x), o]) ⟨rfl, "", _, _, empty_len, isLet_empty, rfl⟩ ?_ ?_
  · rintro i y hy z A1 ⟨rfl, x, r', o, hl, hx, rfl⟩
    obtain ⟨hi, rfl⟩ := rng_get hy
    refine ⟨_, rfl, fun E' hr hb hn hct => ?_⟩
    have hlx : lim (x.length + 1) = true := lim_of (by omega)
    simp [hll, hlim, letters_ix, one_length, hlx]
    exact hn _ _ ⟨rfl, _, _, _, by rw [one_snoc, hl], isLet_snoc hx (letC_ok r'), rfl⟩
  · rintro z A1 ⟨rfl, x, r', o, hl, hx, rfl⟩
    rw [rng_length] at hl
    simp [z2]
    exact q x r' ⟨by omega, by omega, hx⟩
end T3
set_option autoImplicit false
namespace T3
open PySem PySem.Spec PyProof.Rows L2

/-! ### words(cell, many) -/
def N_words : List Str := ["_law_cell", "_law_many", "_law_letters", "_law_long", "_law_spot", "_law_words_here", "_law_k", "_law_word", "_law_j", "_law_sign"]
def b_words : TS3 := sSeq (sSet 2 (eC (.str "abcdefghijklmnopqrstuvwxyz"))) (sSeq (sSet 3 (fz (T3.e2 fAdd (fz (eC (.int 1))) (fz (T3.e2 fMod (eB 0) (fz (eC (.int 7)))))))) (sSeq (sSet 4 (T3.e2 fMod (fz (T3.e2 fFdiv (eB 0) (fz (eC (.int 7))))) (eB 3))) (sSeq (sSet 5 (eLst (aNil))) (sSeq (sFor (iR1 (aCons (fz (eV 1)) (aNil))) (.nm 6) (sSeq (sSet 7 (eC (.str ""))) (sSeq (sFor (iR1 (aCons (fz (eV 3)) (aNil))) (.nm 8) (sSeq (sSet 9 (fz (T3.e2 fAdd (fz (T3.e2 fFdiv (eB 0) (fz (T3.e2 fAdd (fz (eC (.int 49))) (fz (T3.e2 fMul (fz (eC (.int 5))) (eB 8))))))) (fz (T3.e2 fMul (eB 8) (fz (T3.e2 fMod (fz (T3.e2 fFdiv (eB 0) (fz (eC (.int 49))))) (fz (eC (.int 3)))))))))) (sSeq (sIf (tV (T3.e2 fEq (eB 8) (eB 4))) (sSeq (sSet 9 (fz (T3.e2 fAdd (eB 9) (fz (T3.e2 fMul (fz (eC (.int 3))) (eB 6)))))) (sNil)) (sNil)) (sSeq (sSet 7 (fz (T3.e2 fAdd (eB 7) (fz (T3.e2 fIxA (eB 2) (fz (T3.e2 fMod (eB 9) (fz (eC (.int 26)))))))))) (sNil))))) (sSeq (sM 5 okL gAppend (aCons (fz (eV 7)) (aNil)) kDrop) (sNil))))) (sSeq (sIf (tV (T3.e2 fEq (fz (T3.e2 fMod (fz (T3.e2 fFdiv (eB 0) (fz (eC (.int 49))))) (fz (eC (.int 4))))) (fz (eC (.int 1))))) (sSeq (sPut 5 gSet (eC (.int 1)) (T3.e2 fAdd (fz (T3.e2 fIxA (eB 5) (fz (eC (.int 0))))) (fz (T3.e2 fIxA (eB 2) (fz (T3.e2 fMod (fz (T3.e2 fFdiv (eB 0) (fz (eC (.int 196))))) (fz (eC (.int 26))))))))) (sNil)) (sNil)) (sSeq (sRetV 5) (sNil)))))))
/-- the letter at place j of word k -/
def wl (c : Int) (spot : Nat) (k j : Nat) : Nat := letC (c / (49 + 5 * (j : Int)) + (j : Int) * (c / 49 % 3) + if j = spot then 3 * (k : Int) else 0)
def wcps (c : Int) (long spot k : Nat) : List Nat := (List.range long).map (wl c spot k)
def wordS (c : Int) (long spot k : Nat) : Str := ⟨(wcps c long spot k).toArray⟩
theorem wcps_length (c : Int) (long spot k : Nat) : (wcps c long spot k).length = long := by simp [wcps]
theorem wordS_length (c : Int) (long spot k : Nat) : (wordS c long spot k).length = long := by
  show (wcps c long spot k).toArray.size = _
  simp [wcps_length]
theorem wordS_let (c : Int) (long spot k : Nat) : isLet (wordS c long spot k) := fun d hd => by
  have hd' : d ∈ wcps c long spot k := by simpa [wordS] using hd
  obtain ⟨j, _, rfl⟩ := List.mem_map.mp hd'
  exact letC_ok _
theorem wordS_inj {c : Int} {long spot k k' : Nat} (hs : spot < long) (hk : k < 6) (hk' : k' < 6) (h : wordS c long spot k = wordS c long spot k') : k = k' := by
  have e : wcps c long spot k = wcps c long spot k' := by
    have := congrArg (fun x : Str => x.cps.toList) h
    simpa [wordS] using this
  have e2 := congrArg (fun l => l[spot]?) e
  simp only [wcps, List.getElem?_map, List.getElem?_range hs, Option.map_some, Option.some.injEq] at e2
  unfold wl letC at e2
  rw [if_pos rfl, if_pos rfl] at e2
  generalize c / (49 + 5 * (spot : Int)) + (spot : Int) * (c / 49 % 3) = g at e2
  omega
def sp_words : Sp3 := fun ds A Q _ => ∃ c m, ds = [.int c, .int m] ∧ (2 ≤ m ∧ m ≤ 6) ∧ ∀ ws : List Str, (ws.length : Int) = m → ws.Nodup → (∀ x ∈ ws, NameOk x) → Q (.ml (ws.map .str)) A
theorem empty_cps : ("" : Str).cps.toList = [] := by decide +kernel
theorem nodup_set {α : Type} {y : α} : ∀ {l : List α} {i : Nat}, l.Nodup → y ∉ l → (l.set i y).Nodup
  | [], _, _, _ => by simp
  | a :: l, 0, h, hy => by
    rw [List.nodup_cons] at h
    simp only [List.mem_cons, not_or] at hy
    show (y :: l).Nodup
    exact List.nodup_cons.mpr ⟨hy.2, h.2⟩
  | a :: l, i + 1, h, hy => by
    rw [List.nodup_cons] at h
    simp only [List.mem_cons, not_or] at hy
    show (a :: l.set i y).Nodup
    refine List.nodup_cons.mpr ⟨fun hm => ?_, nodup_set h.2 hy.2⟩
    rcases List.mem_or_eq_of_mem_set hm with q | q
    · exact h.1 q
    · exact hy.1 q.symm
theorem range_snoc {α : Type} (f : Nat → α) (n : Nat) : (List.range (n + 1)).map f = (List.range n).map f ++ [f n] := by
  rw [List.range_succ, List.map_append]; rfl
theorem m_words (ds A Q) (h : sp_words ds A Q (fun _ _ _ => False)) : b_words { nx := fun _ A' => Q .non A', rt := Q } (start3 N_words ds) A := by
  obtain ⟨c, m, rfl, hm, q⟩ := h
  have h62 : small62 m := ⟨by omega, by omega⟩
  obtain ⟨long, hlong⟩ : ∃ long : Nat, 1 + c % 7 = long := ⟨(1 + c % 7).toNat, by omega⟩
  have hl1 : 1 ≤ long ∧ long ≤ 7 := by omega
  have hlp : (0 : Int) < long := by omega
  have hs0 := Int.emod_nonneg (c / 7) (show (long : Int) ≠ 0 by omega)
  have hs1 := Int.emod_lt_of_pos (c / 7) hlp
  obtain ⟨spot, hspot⟩ : ∃ spot : Nat, c / 7 % (long : Int) = spot := ⟨(c / 7 % (long : Int)).toNat, by omega⟩
  have hsp : spot < long := by omega
  have h62l : small62 (long : Int) := ⟨by omega, by omega⟩
  have hll := letters_len
  have hlim : lim 26 = true := lim_of (by omega)
  have hpos : 0 < long := hl1.1
  simp [b_words, start3, N_words, h62, hlong, hspot, hpos]
  refine for_inv (fun i z A' => A' = A ∧ ∃ (o6 o7 o8 o9 : Option D), z = [some (.int c), some (.int m), some (.str letters), some (.int long), some (.int spot), some (.ml ((List.range i).map fun k => .str (wordS c long spot k))), o6, o7, o8, o9]) ⟨rfl, _, _, _, _, rfl⟩ ?_ ?_
  · rintro k y hy z A1 ⟨rfl, o6, o7, o8, o9, rfl⟩
    obtain ⟨hk, rfl⟩ := rng_get hy
    refine ⟨_, rfl, fun E' hr hb hn hct => ?_⟩
    simp [h62l]
    refine for_inv (fun j z A' => A' = A1 ∧ ∃ (x : Str) (o8 o9 : Option D), x.cps.toList = (List.range j).map (wl c spot k) ∧ z = [some (.int c), some (.int m), some (.str letters), some (.int long), some (.int spot), some (.ml ((List.range k).map fun k => .str (wordS c long spot k))), some (.int k), some (.str x), o8, o9]) ⟨rfl, "", _, _, by rw [empty_cps]; rfl, rfl⟩ ?_ ?_
    · rintro j y hy z A1 ⟨rfl, x, o8, o9, hx, rfl⟩
      obtain ⟨hj, rfl⟩ := rng_get hy
      refine ⟨_, rfl, fun E2 hr2 hb2 hn2 hct2 => ?_⟩
      have k1 : fMul A1 (.int 5) (.int j) = some (.int (5 * j)) := fMul_small (.inl (by decide))
      have k2 : fMul A1 (.int j) (.int (c / 49 % 3)) = some (.int (j * (c / 49 % 3))) := fMul_small (.inr (big_of (by omega) (by omega)))
      have k3 : fMul A1 (.int 3) (.int k) = some (.int (3 * k)) := fMul_small (.inl (by decide))
      have p1 : (0 : Int) < 49 + 5 * (j : Int) := by omega
      have p2 : 49 + 5 * (j : Int) < 18446744073709551616 := by omega
      have hxl : x.length = j := by
        have := congrArg List.length hx
        simpa [Str.length] using this
      have hlx : lim (x.length + 1) = true := lim_of (by omega)
      by_cases e : j = spot
      · subst e
        simp [k1, k2, k3, p1, p2, hll, hlim, letters_ix, one_length, hlx]
        refine hn2 _ _ ⟨rfl, _, _, _, ?_, rfl⟩
        have hw : wl c j k j = letC (c / (49 + 5 * (j : Int)) + (j : Int) * (c / 49 % 3) + 3 * (k : Int)) := by unfold wl; rw [if_pos rfl]
        rw [snoc_list, hx, range_snoc, hw]
      · have e1 : ¬ (j : Int) = spot := by omega
        simp [k1, k2, k3, p1, p2, e1, hll, hlim, letters_ix, one_length, hlx]
        refine hn2 _ _ ⟨rfl, _, _, _, ?_, rfl⟩
        have hw : wl c spot k j = letC (c / (49 + 5 * (j : Int)) + (j : Int) * (c / 49 % 3)) := by unfold wl; rw [if_neg e, Int.add_zero]
        rw [snoc_list, hx, range_snoc, hw]
    · rintro z A1 ⟨rfl, x, o8, o9, hx, rfl⟩
      rw [rng_length] at hx
      have ex : x = wordS c long spot k := str_ext (by rw [hx]; simp [wordS, wcps])
      subst ex
      have hz : k < sizeLine := by have := line_of (n := 100) (by omega); omega
      simp [hz]
      exact hn _ _ ⟨rfl, _, _, _, _, by rw [range_snoc]⟩
  · rintro z A1 ⟨rfl, o6, o7, o8, o9, rfl⟩
    rw [rng_length]
    obtain ⟨n, hn⟩ : ∃ n : Nat, m.toNat = n := ⟨_, rfl⟩
    have hn2 : 2 ≤ n ∧ n ≤ 6 := by omega
    rw [hn]
    have nd : ((List.range n).map (wordS c long spot)).Nodup := by
      refine List.pairwise_map.mpr ((List.Pairwise.and_mem.mp List.nodup_range).imp fun {a b} h e => h.2.2 (wordS_inj hsp ?_ ?_ e))
      · have := List.mem_range.mp h.1; omega
      · have := List.mem_range.mp h.2.1; omega
    have ok : ∀ x ∈ (List.range n).map (wordS c long spot), NameOk x := fun x hx => by
      obtain ⟨k, _, rfl⟩ := List.mem_map.mp hx
      exact ⟨by rw [wordS_length]; omega, by rw [wordS_length]; omega, wordS_let _ _ _ _⟩
    have e0 : L2.atI ((List.range n).map fun k => D.str (wordS c long spot k)) 0 = some (.str (wordS c long spot 0)) := by
      have := atI_nat ((List.range n).map fun k => D.str (wordS c long spot k)) 0 (by simp; omega)
      rw [show ((0 : Nat) : Int) = 0 from rfl] at this
      rw [this]; simp
    have e1 : L2.ixN n 1 = some 1 := by unfold L2.ixN; rw [if_pos (by omega), if_pos (by omega)]; rfl
    have hlx : lim (long + 1) = true := lim_of (by omega)
    by_cases h4 : c / 49 % 4 = 1
    · simp [h4, e0, e1, hll, hlim, letters_ix, one_length, wordS_length, hlx]
      have := q (((List.range n).map (wordS c long spot)).set 1 (wordS c long spot 0 ++ ⟨#[letC (c / 196)]⟩)) (by simp; omega) ?_ ?_
      · rw [List.map_set, List.map_map] at this
        exact this
      · refine nodup_set nd fun hm => ?_
        obtain ⟨k, _, e⟩ := List.mem_map.mp hm
        have := congrArg Str.length e
        rw [one_snoc, wordS_length, wordS_length] at this
        omega
      · intro x hx
        rcases List.mem_or_eq_of_mem_set hx with hx | rfl
        · exact ok x hx
        · exact ⟨by rw [one_snoc]; omega, by rw [one_snoc, wordS_length]; omega, isLet_snoc (wordS_let _ _ _ _) (letC_ok _)⟩
    · simp [h4]
      have := q ((List.range n).map (wordS c long spot)) (by simp; omega) nd ok
      rw [List.map_map] at this
      exact this
end T3
set_option autoImplicit false
namespace T3
open PySem PySem.Spec PyProof.Rows L2

/-! ### houses -/
structure House where
  people : List (Str × Int)
  rooms : List (Str × List Str)
def memD (ms : List Str) : D := .tup (ms.map .str)
def House.pD (h : House) : D := .tup (h.people.map fun p => .tup [.str p.1, .int p.2])
def House.rD (h : House) : D := .tup (h.rooms.map fun r => .tup [.str r.1, memD r.2])
def House.toD (h : House) : D := .tup [h.pD, h.rD]
structure House.Ok (h : House) : Prop where
  p1 : 1 ≤ h.people.length
  p4 : h.people.length ≤ 4
  pr : (h.people.map (·.1)).Pairwise strLt
  pn : ∀ p ∈ h.people, NameOk p.1 ∧ 1 ≤ p.2 ∧ p.2 ≤ 3
  r1 : 1 ≤ h.rooms.length
  r4 : h.rooms.length ≤ 4
  rr : (h.rooms.map (·.1)).Pairwise strLt
  rn : ∀ r ∈ h.rooms, NameOk r.1 ∧ r.2 ≠ [] ∧ r.2.Sublist (h.people.map (·.1))
def sp_house : Sp3 := fun ds A Q _ => ∃ c, ds = [.int c] ∧ ∀ h : House, h.Ok → Q h.toD A
def sp_house_by_digits : Sp3 := sp_house

/-! ### a dict led by texts -/
section
variable {α : Type}
def putS : List (Str × α) → Str → α → List (Str × α)
  | [], k, d => [(k, d)]
  | (k', d') :: r, k, d => if k' = k then (k, d) :: r else (k', d') :: putS r k d
def ledD (f : α → D) (ps : List (Str × α)) : List (D × D) := ps.map fun p => (.str p.1, f p.2)
theorem ledD_put (f : α → D) (k : Str) (d : α) : ∀ ps : List (Str × α), dput (ledD f ps) (.str k) (f d) = ledD f (putS ps k d)
  | [] => rfl
  | (k', d') :: r => by
    show dput ((.str k', f d') :: ledD f r) _ _ = _
    rw [dput, putS]
    by_cases e : k' = k
    · subst e; rw [if_pos rfl, if_pos rfl]; rfl
    · rw [if_neg e, if_neg (fun z => e (D.str.inj z)), ledD_put f k d r]; rfl
theorem putS_mem {k : Str} {d : α} {p : Str × α} : ∀ {ps : List (Str × α)}, p ∈ putS ps k d → p = (k, d) ∨ p ∈ ps
  | [], h => by simp [putS] at h; exact .inl h
  | (k', d') :: r, h => by
    rw [putS] at h
    split at h
    · rcases List.mem_cons.mp h with h | h
      · exact .inl h
      · exact .inr (List.mem_cons_of_mem _ h)
    · rcases List.mem_cons.mp h with h | h
      · rw [h]; exact .inr List.mem_cons_self
      · rcases putS_mem h with h | h
        · exact .inl h
        · exact .inr (List.mem_cons_of_mem _ h)
theorem putS_keys {k x : Str} {d : α} : ∀ {ps : List (Str × α)}, x ∈ (putS ps k d).map (·.1) → x = k ∨ x ∈ ps.map (·.1)
  | ps, h => by
    obtain ⟨p, hp, rfl⟩ := List.mem_map.mp h
    rcases putS_mem hp with rfl | hp
    · exact .inl rfl
    · exact .inr (List.mem_map.mpr ⟨p, hp, rfl⟩)
theorem putS_nodup {k : Str} {d : α} : ∀ {ps : List (Str × α)}, (ps.map (·.1)).Nodup → ((putS ps k d).map (·.1)).Nodup
  | [], _ => by simp [putS]
  | (k', d') :: r, h => by
    rw [List.map_cons, List.nodup_cons] at h
    rw [putS]
    split
    · rename_i e; subst e; rw [List.map_cons, List.nodup_cons]; exact h
    · rename_i e
      rw [List.map_cons, List.nodup_cons]
      refine ⟨fun hm => ?_, putS_nodup h.2⟩
      rcases putS_keys hm with z | z
      · exact e z
      · exact h.1 z
theorem putS_length {k : Str} {d : α} : ∀ {ps : List (Str × α)}, 1 ≤ (putS ps k d).length ∧ (putS ps k d).length ≤ ps.length + 1
  | [] => by simp [putS]
  | (k', d') :: r => by
    rw [putS]
    split
    · simp
    · have := putS_length (k := k) (d := d) (ps := r)
      simp only [List.length_cons]; omega
def getS : List (Str × α) → Str → Option α
  | [], _ => none
  | (k', d) :: r, k => if k' = k then some d else getS r k
theorem ledD_get (f : α → D) (k : Str) : ∀ ps : List (Str × α), dget (ledD f ps) (.str k) = (getS ps k).map f
  | [] => rfl
  | (k', d') :: r => by
    show dget ((.str k', f d') :: ledD f r) _ = _
    rw [dget, getS]
    by_cases e : k' = k
    · subst e; rw [if_pos rfl, if_pos rfl]; rfl
    · rw [if_neg e, if_neg (fun z => e (D.str.inj z)), ledD_get f k r]
theorem getS_mem {k : Str} : ∀ {ps : List (Str × α)}, k ∈ ps.map (·.1) → ∃ d, getS ps k = some d ∧ (k, d) ∈ ps
  | (k', d') :: r, h => by
    rw [getS]
    by_cases e : k' = k
    · subst e; rw [if_pos rfl]; exact ⟨d', rfl, List.mem_cons_self⟩
    · rw [if_neg e]
      rw [List.map_cons, List.mem_cons] at h
      obtain ⟨d, h1, h2⟩ := getS_mem (h.resolve_left fun z => e z.symm)
      exact ⟨d, h1, List.mem_cons_of_mem _ h2⟩
  | [], h => by cases h
theorem ledD_keys (f : α → D) (ps : List (Str × α)) : (ledD f ps).map (·.1) = (ps.map (·.1)).map D.str := by
  unfold ledD; rw [List.map_map, List.map_map]; rfl
/-- the dict read by its keys in a row -/
theorem pick_row [Inhabited α] (ps : List (Str × α)) (ys : List Str) (h : ∀ y ∈ ys, y ∈ ps.map (·.1)) : ∃ qs : List (Str × α), qs.map (·.1) = ys ∧ (∀ q ∈ qs, q ∈ ps) ∧ ∀ q ∈ qs, getS ps q.1 = some q.2 := by
  induction ys with
  | nil => exact ⟨[], rfl, (fun _ h => nomatch h), (fun _ h => nomatch h)⟩
  | cons y ys ih =>
    obtain ⟨qs, h1, h2, h3⟩ := ih fun x hx => h x (List.mem_cons_of_mem _ hx)
    obtain ⟨d, e1, e2⟩ := getS_mem (h y List.mem_cons_self)
    refine ⟨(y, d) :: qs, by rw [List.map_cons, h1], fun q hq => ?_, fun q hq => ?_⟩
    · rcases List.mem_cons.mp hq with rfl | hq
      · exact e2
      · exact h2 q hq
    · rcases List.mem_cons.mp hq with rfl | hq
      · exact e1
      · exact h3 q hq
end
theorem okSort_strs (xs : List Str) (h : xs.length ≤ 1000) : okSort (xs.map D.str) = true := by
  have hz : xs.length ≤ sizeLine := line_of (by omega)
  have hp : ∀ l : List Str, poks (l.map D.str) = true := by
    intro l
    induction l with
    | nil => rfl
    | cons a l ih => rw [List.map_cons, poks, ih]; rfl
  simp only [okSort, hp, Bool.true_and, List.length_map, hz, decide_true, Bool.and_true, Bool.and_eq_true, Bool.or_eq_true, List.all_eq_true, decide_eq_true_eq]
  refine ⟨⟨fun a ha b hb => ?_, .inr fun a ha => ?_⟩, fun a ha => ?_⟩
  · obtain ⟨x, _, rfl⟩ := List.mem_map.mp ha
    obtain ⟨y, _, rfl⟩ := List.mem_map.mp hb
    simp [pd, PySem.W.alike]
  · obtain ⟨x, _, rfl⟩ := List.mem_map.mp ha; rfl
  · obtain ⟨x, _, rfl⟩ := List.mem_map.mp ha
    simp [dep]
end T3
set_option autoImplicit false
namespace T3
open PySem PySem.Spec PyProof.Rows L2

/-! ### who of the names is a member, by a number's bits -/
def pw2 : Nat → Int
  | 0 => 1 | 1 => 2 | 2 => 4 | _ => 8
def bitG (r : Int) : D → Bool
  | .int j => decide (r / pw2 j.toNat % 2 = 1)
  | _ => false
def nameF (names : List Str) : D → D
  | .int j => .str (names.getD j.toNat ⟨#[]⟩)
  | d => d
theorem range_get (names : List Str) : (List.range names.length).map (fun j => names.getD j ⟨#[]⟩) = names := by
  apply List.ext_getElem?
  intro j
  rw [List.getElem?_map]
  by_cases h : j < names.length
  · rw [List.getElem?_range h, List.getElem?_eq_getElem h]
    simp [List.getD, List.getElem?_eq_getElem h]
  · rw [List.getElem?_eq_none (by simp; omega), List.getElem?_eq_none (by omega)]; rfl
theorem bits_row (names : List Str) (r : Int) : ∃ ms : List Str, ms.Sublist names ∧ ((rng 0 names.length).filter (bitG r)).map (fun d => frz (nameF names d)) = ms.map .str := by
  refine ⟨((List.range names.length).filter fun j : Nat => bitG r (.int j)).map (fun j => names.getD j ⟨#[]⟩), ?_, ?_⟩
  · conv => rhs; rw [← range_get names]
    exact (List.filter_sublist).map _
  · unfold rng
    rw [List.filter_map, List.map_map, List.map_map]
    have e : (bitG r ∘ fun k : Nat => D.int (0 + (k : Int))) = fun j : Nat => bitG r (.int j) := by
      funext j; simp
    rw [e]
    apply List.map_congr_left
    intro j _
    simp [nameF]
theorem members_lc {z : S3} {A : AH} {Q : D → AH → Prop} {ir iN iJ : Nat} {names : List Str} {r : Int} (hl : names.length ≤ 4) (h1 : z[ir]? = some (some (.int r))) (h2 : z[iN]? = some (some (.lst (names.map .str)))) (n1 : iJ ≠ ir) (n2 : iJ ≠ iN) (hJ : iJ < z.length) (h3 : ∀ d, z[iJ]? = some (some d) → own d = false)
    (q : ∀ ms : List Str, ms.Sublist names → Q (.ml (ms.map .str)) A) : eLc (iR1 (aCons (fz (eN fLen (aCons (eB iN) (aNil)))) (aNil))) (.nm iJ) (tV (T3.e2 fEq (fz (T3.e2 fMod (fz (T3.e2 fFdiv (eB ir) (fz (T3.e2 fIxA (fz (eLst (aCons (fz (eC (.int 1))) (aCons (fz (eC (.int 2))) (aCons (fz (eC (.int 4))) (aCons (fz (eC (.int 8))) (aNil))))))) (eB iJ))))) (fz (eC (.int 2))))) (fz (eC (.int 1))))) (T3.e2 fIxA (eB iN) (eB iJ)) [iJ] z A Q := by
  have h62 : small62 (names.length : Int) := ⟨by omega, by omega⟩
  have z4 : 4 ≤ sizeLine := line_of (by omega)
  rw [ap_eLc]
  refine ⟨fun i hi d hd => ?_, ?_⟩
  · rw [List.mem_singleton.mp hi] at hd
    exact h3 d hd
  · simp [h2, h62]
    refine lc_filter (bitG r) (nameF names) _ [] (by rw [rng_length]; simp; have := line_of (n := 4) (by omega); omega) (fun x hx => ?_) ?_
    · obtain ⟨j, hj⟩ := List.mem_iff_getElem?.mp hx
      obtain ⟨hlt, rfl⟩ := rng_get hj
      have w1 : (z.set iJ (some (D.int (0 + (j : Int)))))[ir]? = some (some (.int r)) := by rw [List.getElem?_set_ne n1]; exact h1
      have w2 : (z.set iJ (some (D.int (0 + (j : Int)))))[iN]? = some (some (.lst (names.map .str))) := by rw [List.getElem?_set_ne n2]; exact h2
      have w3 : (z.set iJ (some (D.int (0 + (j : Int)))))[iJ]? = some (some (.int (0 + (j : Int)))) := by rw [List.getElem?_set_self (by simpa using hJ)]
      refine ⟨_, rfl, fun R k => ?_, fun _ R k => ?_⟩
      · have e4 : L2.atI [D.int 1, .int 2, .int 4, .int 8] (j : Int) = some (.int (pw2 j)) ∧ 0 < pw2 j ∧ pw2 j < 18446744073709551616 := by
          have : j = 0 ∨ j = 1 ∨ j = 2 ∨ j = 3 := by omega
          rcases this with rfl | rfl | rfl | rfl <;> exact ⟨rfl, by decide, by decide⟩
        obtain ⟨e4, p1, p2⟩ := e4
        simp only [Int.zero_add] at w1 w2 w3 k ⊢
        have kb : bitG r (.int j) = decide (r / pw2 j % 2 = 1) := by simp [bitG]
        rw [kb] at k
        by_cases hb : r / pw2 j % 2 = 1
        · rw [decide_eq_true hb] at k
          simp [w1, w3, z4, e4, p1, p2, hb]
          exact k
        · rw [decide_eq_false hb] at k
          simp [w1, w3, z4, e4, p1, p2, hb]
          exact k
      · simp only [Int.zero_add] at w1 w2 w3 k ⊢
        have e5 := atI_nat (names.map D.str) j (by simpa using hlt)
        simp [w2, w3, e5]
        simpa [nameF, List.getD, List.getElem?_eq_getElem hlt] using k
    · rw [List.nil_append]
      obtain ⟨ms, h1, h2⟩ := bits_row names r
      have e : (rng 0 names.length) = rng 0 (names.length) := rfl
      rw [h2]
      exact q ms h1
theorem poks_strs : ∀ l : List Str, poks (l.map D.str) = true
  | [] => rfl
  | a :: l => by rw [List.map_cons, poks, poks_strs l]; rfl
/-- xs == [] -/
theorem fEq_nil (A : AH) (xs : List D) (h : poks xs = true) : fEq A (.lst xs) (.lst []) = some (.bl (decide (xs = []))) := by
  have e : eqD (.lst xs) (.lst []) = decide (xs = []) := by
    unfold eqD
    rw [pd, pd, PyData.eqv]
    cases xs <;> simp [pds, PyData.eqvAll]
  simp [fEq, okEq, pok, h, poks, dep, deps, e]
theorem nodup_of_lt {xs : List Str} (h : xs.Pairwise strLt) : xs.Nodup := h.imp fun {a b} h e => by
  subst e
  exact List.lt_irrefl _ h
end T3
set_option autoImplicit false
namespace T3
open PySem PySem.Spec PyProof.Rows L2
def N_house_by_digits : List Str := ["_law_rest", "_law_people", "_law_many", "_law_k", "_law_name", "_law_names", "_law_rooms", "_law_room", "_law_members", "_law_j"]
def b_house_by_digits : TS3 := sSeq (sSet 1 (eDNew)) (sSeq (sSet 2 (fz (T3.e2 fAdd (fz (eC (.int 1))) (fz (T3.e2 fMod (eB 0) (fz (eC (.int 4)))))))) (sSeq (sSet 0 (T3.e2 fFdiv (eB 0) (fz (eC (.int 4))))) (sSeq (sFor (iR1 (aCons (fz (eV 2)) (aNil))) (.nm 3) (sSeq (sAsgP (.tp [4, 0]) (eCall sp_name_in [] (aCons (fz (eV 0)) (aNil)))) (sSeq (sPut 1 gDSet (eV 4) (T3.e2 fAdd (fz (eC (.int 1))) (fz (T3.e2 fMod (eB 0) (fz (eC (.int 3))))))) (sSeq (sSet 0 (T3.e2 fFdiv (eB 0) (fz (eC (.int 3))))) (sNil))))) (sSeq (sSet 5 (fz (eN fSorted (aCons (eB 1) (aNil))))) (sSeq (sSet 6 (eDNew)) (sSeq (sSet 2 (fz (T3.e2 fAdd (fz (eC (.int 1))) (fz (T3.e2 fMod (eB 0) (fz (eC (.int 4)))))))) (sSeq (sSet 0 (T3.e2 fFdiv (eB 0) (fz (eC (.int 4))))) (sSeq (sFor (iR1 (aCons (fz (eV 2)) (aNil))) (.nm 3) (sSeq (sAsgP (.tp [7, 0]) (eCall sp_name_in [] (aCons (fz (eV 0)) (aNil)))) (sSeq (sSet 8 (eLc (iR1 (aCons (fz (eN fLen (aCons (eB 5) (aNil)))) (aNil))) (.nm 9) (tV (T3.e2 fEq (fz (T3.e2 fMod (fz (T3.e2 fFdiv (eB 0) (fz (T3.e2 fIxA (fz (eLst (aCons (fz (eC (.int 1))) (aCons (fz (eC (.int 2))) (aCons (fz (eC (.int 4))) (aCons (fz (eC (.int 8))) (aNil))))))) (eB 9))))) (fz (eC (.int 2))))) (fz (eC (.int 1))))) (T3.e2 fIxA (eB 5) (eB 9)) [9])) (sFz 8 (sSeq (sIf (tV (T3.e2 fEq (eB 8) (fz (eLst (aNil))))) (sSeq (sSet 8 (fz (eSl (eB 5) (oNo) (oAt (eC (.int 1)))))) (sNil)) (sNil)) (sSeq (sPut 6 gDSet (eV 7) (eN fTuple (aCons (eB 8) (aNil)))) (sSeq (sSet 0 (T3.e2 fFdiv (eB 0) (fz (eC (.int 16))))) (sNil)))))))) (sFz 6 (sSeq (sRet (eTup (aCons (fz (eN fTuple (aCons (fz (eLc (iS (eV 5)) (.nm 4) (tYes3) (eTup (aCons (fz (eV 4)) (aCons (fz (T3.e2 fIxA (eB 1) (eB 4))) (aNil)))) [4])) (aNil)))) (aCons (fz (eN fTuple (aCons (fz (eLc (iS (eN fSorted (aCons (eB 6) (aNil)))) (.nm 7) (tYes3) (eTup (aCons (fz (eV 7)) (aCons (fz (T3.e2 fIxA (eB 6) (eB 7))) (aNil)))) [7])) (aNil)))) (aNil))))) (sNil)))))))))))
theorem cut_one (xs : List D) : cutD xs none (some 1) = xs.take 1 := by
  unfold cutD
  cases xs with
  | nil => simp
  | cons x xs => simp [HT.sIx]
def notOwn (o : Option D) : Prop := ∀ d, o = some d → own d = false
theorem notOwn_none : notOwn none := fun _ h => nomatch h
theorem notOwn_str (x : Str) : notOwn (some (.str x)) := fun _ h => by cases h; rfl
theorem notOwn_int (x : Int) : notOwn (some (.int x)) := fun _ h => by cases h; rfl
theorem sub_take1 (xs : List Str) (h : 1 ≤ xs.length) : (xs.take 1) ≠ [] ∧ (xs.take 1).Sublist xs := by
  cases xs with
  | nil => simp at h
  | cons a xs => exact ⟨by simp, by simp⟩
theorem m_house_by_digits (ds A Q) (h : sp_house_by_digits ds A Q (fun _ _ _ => False)) : b_house_by_digits { nx := fun _ A' => Q .non A', rt := Q } (start3 N_house_by_digits ds) A := by
  obtain ⟨c, rfl, q⟩ := h
  have h62 : small62 (1 + c % 4) := ⟨by omega, by omega⟩
  have zz : ∀ n, n ≤ 1000 → n < sizeLine := fun n hn => by have := line_of (n := 2000) (by omega); omega
  simp only [b_house_by_digits]
  refine seq_mid (fun z A' => A' = A ∧ z = [some (.int c), some (.md []), none, none, none, none, none, none, none, none]) (fun E' hr _ _ hn => ?_) ?_
  · simp [start3, N_house_by_digits]
    exact hn _ _ ⟨rfl, rfl⟩
  rintro z A1 ⟨rfl, rfl⟩
  refine seq_mid (fun z A' => A' = A1 ∧ z = [some (.int c), some (.md []), some (.int (1 + c % 4)), none, none, none, none, none, none, none]) (fun E' hr _ _ hn => ?_) ?_
  · simp
    exact hn _ _ ⟨rfl, rfl⟩
  rintro z A1 ⟨rfl, rfl⟩
  refine seq_mid (fun z A' => A' = A1 ∧ ∃ r, z = [some (.int r), some (.md []), some (.int (1 + c % 4)), none, none, none, none, none, none, none]) (fun E' hr _ _ hn => ?_) ?_
  · simp
    exact hn _ _ ⟨rfl, _, rfl⟩
  rintro z A1 ⟨rfl, r0, rfl⟩
  refine seq_mid (fun z A' => A' = A1 ∧ ∃ (P : List (Str × Int)) (r : Int) (o3 o4 : Option D), 1 ≤ P.length ∧ P.length ≤ 4 ∧ (P.map (·.1)).Nodup ∧ (∀ p ∈ P, NameOk p.1 ∧ 1 ≤ p.2 ∧ p.2 ≤ 3) ∧ notOwn o4 ∧ z = [some (.int r), some (.md (ledD .int P)), some (.int (1 + c % 4)), o3, o4, none, none, none, none, none]) (fun E' hr _ _ hn => ?_) ?_
  · simp [h62]
    refine for_inv (fun i z A' => A' = A1 ∧ ∃ (P : List (Str × Int)) (r : Int) (o3 o4 : Option D), (1 ≤ i → 1 ≤ P.length) ∧ P.length ≤ i ∧ (P.map (·.1)).Nodup ∧ (∀ p ∈ P, NameOk p.1 ∧ 1 ≤ p.2 ∧ p.2 ≤ 3) ∧ notOwn o4 ∧ z = [some (.int r), some (.md (ledD .int P)), some (.int (1 + c % 4)), o3, o4, none, none, none, none, none]) ⟨rfl, [], _, _, _, by omega, by simp, by simp, (fun _ h => nomatch h), notOwn_none, rfl⟩ ?_ ?_
    · rintro i y hy z A2 ⟨rfl, P, r, o3, o4, h1, h2, h3, h4, h5, rfl⟩
      obtain ⟨hi, rfl⟩ := rng_get hy
      refine ⟨_, rfl, fun E2 hr2 hb2 hn2 hc2 => ?_⟩
      simp
      refine ⟨_, rfl, fun x r' hx => ?_⟩
      have hz : (ledD D.int P).length < sizeLine := by have : (ledD D.int P).length = P.length := by simp [ledD]
                                                       have := zz P.length (by omega); omega
      simp [ap_tp, hz]
      rw [ledD_put D.int]
      refine hn2 _ _ ⟨rfl, putS P x (1 + r' % 3), r' / 3, _, _, fun _ => putS_length.1, by have := (putS_length (k := x) (d := 1 + r' % 3) (ps := P)).2; omega, putS_nodup h3, fun p hp => ?_, notOwn_str x, rfl⟩
      rcases putS_mem hp with rfl | hp
      · exact ⟨hx, by omega, by omega⟩
      · exact h4 p hp
    · rintro z A2 ⟨rfl, P, r, o3, o4, h1, h2, h3, h4, h5, rfl⟩
      rw [rng_length] at h1 h2
      exact hn _ _ ⟨rfl, P, r, o3, o4, h1 (by omega), by omega, h3, h4, h5, rfl⟩
  rintro z A1 ⟨rfl, P, r1, o3, o4, p1, p4, pn, pk, ho4, rfl⟩
  obtain ⟨ys, ey, hperm, hrise⟩ := sort_strs (P.map (·.1)) pn
  have hyl : ys.length = P.length := by rw [hperm.length_eq]; simp
  have hok : okSort ((P.map (·.1)).map D.str) = true := okSort_strs _ (by simp; omega)
  refine seq_mid (fun z A' => A' = A1 ∧ z = [some (.int r1), some (.md (ledD .int P)), some (.int (1 + c % 4)), o3, o4, some (.lst (ys.map .str)), none, none, none, none]) (fun E' hr _ _ hn => ?_) ?_
  · simp only [ap_sSet, ap_fz, ap_eN, ap_aCons, ap_eB, ap_aNil, List.getElem?_cons_succ, List.getElem?_cons_zero]
    refine ⟨_, rfl, .ml (ys.map .str), ?_, hn _ _ ⟨rfl, rfl⟩⟩
    rw [frz_md, fSorted_dct, ledD_keys, if_pos hok, ey]
  rintro z A1 ⟨rfl, rfl⟩
  refine seq_mid (fun z A' => A' = A1 ∧ z = [some (.int r1), some (.md (ledD .int P)), some (.int (1 + c % 4)), o3, o4, some (.lst (ys.map .str)), some (.md []), none, none, none]) (fun E' hr _ _ hn => ?_) ?_
  · simp
    exact hn _ _ ⟨rfl, rfl⟩
  rintro z A1 ⟨rfl, rfl⟩
  obtain ⟨m2, hm2⟩ : ∃ m2, 1 + r1 % 4 = m2 := ⟨_, rfl⟩
  have h62b : small62 m2 := ⟨by omega, by omega⟩
  refine seq_mid (fun z A' => A' = A1 ∧ ∃ r, z = [some (.int r), some (.md (ledD .int P)), some (.int m2), o3, o4, some (.lst (ys.map .str)), some (.md []), none, none, none]) (fun E' hr _ _ hn => ?_) ?_
  · simp [hm2]
    exact hn _ _ ⟨rfl, _, rfl⟩
  rintro z A1 ⟨rfl, r2, rfl⟩
  refine seq_mid (fun z A' => A' = A1 ∧ ∃ r, z = [some (.int r), some (.md (ledD .int P)), some (.int m2), o3, o4, some (.lst (ys.map .str)), some (.md []), none, none, none]) (fun E' hr _ _ hn => ?_) ?_
  · simp
    exact hn _ _ ⟨rfl, _, rfl⟩
  rintro z A1 ⟨rfl, r3, rfl⟩
  refine seq_mid (fun z A' => A' = A1 ∧ ∃ (R : List (Str × List Str)) (r : Int) (o3 o7 o8 : Option D), 1 ≤ R.length ∧ R.length ≤ 4 ∧ (R.map (·.1)).Nodup ∧ (∀ p ∈ R, NameOk p.1 ∧ p.2 ≠ [] ∧ p.2.Sublist ys) ∧ notOwn o7 ∧ z = [some (.int r), some (.md (ledD .int P)), some (.int m2), o3, o4, some (.lst (ys.map .str)), some (.md (ledD memD R)), o7, o8, none]) (fun E' hr _ _ hn => ?_) ?_
  · simp [h62b]
    refine for_inv (fun i z A' => A' = A1 ∧ ∃ (R : List (Str × List Str)) (r : Int) (o3 o7 o8 : Option D), (1 ≤ i → 1 ≤ R.length) ∧ R.length ≤ i ∧ (R.map (·.1)).Nodup ∧ (∀ p ∈ R, NameOk p.1 ∧ p.2 ≠ [] ∧ p.2.Sublist ys) ∧ notOwn o7 ∧ z = [some (.int r), some (.md (ledD .int P)), some (.int m2), o3, o4, some (.lst (ys.map .str)), some (.md (ledD memD R)), o7, o8, none]) ⟨rfl, [], _, _, _, _, by omega, by simp, by simp, (fun _ h => nomatch h), notOwn_none, rfl⟩ ?_ ?_
    · rintro i y hy z A2 ⟨rfl, R, r, o3, o7, o8, h1, h2, h3, h4, h5, rfl⟩
      obtain ⟨hi, rfl⟩ := rng_get hy
      refine ⟨_, rfl, fun E2 hr2 hb2 hn2 hc2 => ?_⟩
      have hz : R.length < sizeLine := zz _ (by omega)
      have hzl : (ledD memD R).length = R.length := by simp [ledD]
      refine seq_mid (fun z A' => A' = A2 ∧ ∃ (x : Str) (r' : Int), NameOk x ∧ z = [some (.int r'), some (.md (ledD .int P)), some (.int m2), some (.int (i : Int)), o4, some (.lst (ys.map .str)), some (.md (ledD memD R)), some (.str x), o8, none]) (fun E3 hr3 _ _ hn3 => ?_) ?_
      · simp
        refine ⟨_, rfl, fun x r' hx => ?_⟩
        simp [ap_tp]
        exact hn3 _ _ ⟨rfl, x, r', hx, by simp⟩
      rintro z A3 ⟨rfl, x, r', hx, rfl⟩
      refine seq_mid (fun z A' => A' = A3 ∧ ∃ ms : List Str, ms.Sublist ys ∧ z = [some (.int r'), some (.md (ledD .int P)), some (.int m2), some (.int (i : Int)), o4, some (.lst (ys.map .str)), some (.md (ledD memD R)), some (.str x), some (.ml (ms.map .str)), none]) (fun E3 hr3 _ _ hn3 => ?_) ?_
      · rw [ap_sSet]
        refine members_lc (r := r') (by omega) rfl rfl (by decide) (by decide) (by simp) (fun d hd => by simp at hd) fun ms hms => ?_
        exact hn3 _ _ ⟨rfl, ms, hms, rfl⟩
      rintro z A3 ⟨rfl, ms, hms, rfl⟩
      rw [ap_sFz]
      refine ⟨_, rfl, ?_⟩
      refine seq_mid (fun z A' => A' = A3 ∧ ∃ ms : List Str, ms ≠ [] ∧ ms.Sublist ys ∧ z = [some (.int r'), some (.md (ledD .int P)), some (.int m2), some (.int (i : Int)), o4, some (.lst (ys.map .str)), some (.md (ledD memD R)), some (.str x), some (.lst (ms.map .str)), none]) (fun E3 hr3 _ _ hn3 => ?_) ?_
      · have hp : poks (ms.map D.str) = true := poks_strs ms
        by_cases he : ms = []
        · subst he
          have ht := sub_take1 ys (by omega)
          have e0 : ∀ A, fEq A (.lst []) (.lst []) = some (.bl true) := fun A => by rw [fEq_nil A [] rfl]; rfl
          simp [e0, cut_one]
          refine hn3 _ _ ⟨rfl, ys.take 1, ht.1, ht.2, ?_⟩
          rw [List.map_take]
        · have hne : ¬ (ms.map D.str = []) := by simpa using he
          simp [fEq_nil _ _ hp, he]
          exact hn3 _ _ ⟨rfl, ms, he, hms, rfl⟩
      rintro z A3 ⟨rfl, ms, hne, hms, rfl⟩
      simp [hzl, hz]
      rw [show D.tup (ms.map D.str) = memD ms from rfl, ledD_put memD]
      refine hn2 _ _ ⟨rfl, putS R x ms, r' / 16, _, _, _, fun _ => putS_length.1, by have := (putS_length (k := x) (d := ms) (ps := R)).2; omega, putS_nodup h3, fun p hp => ?_, notOwn_str x, rfl⟩
      rcases putS_mem hp with rfl | hp
      · exact ⟨hx, hne, hms⟩
      · exact h4 p hp
    · rintro z A2 ⟨rfl, R, r, o3, o7, o8, h1, h2, h3, h4, h5, rfl⟩
      rw [rng_length] at h1 h2
      exact hn _ _ ⟨rfl, R, r, o3, o7, o8, h1 (by omega), by omega, h3, h4, h5, rfl⟩
  rintro z A1 ⟨rfl, R, r4, o3, o7, o8, q1, q4, qn, qk, ho7, rfl⟩
  rw [ap_sFz]
  refine ⟨_, rfl, ?_⟩
  obtain ⟨zs, ez, hpermz, hrisez⟩ := sort_strs (R.map (·.1)) qn
  have hzsl : zs.length = R.length := by rw [hpermz.length_eq]; simp
  have hokz : okSort ((R.map (·.1)).map D.str) = true := okSort_strs _ (by simp; omega)
  obtain ⟨ps, eps, hps, hgp⟩ := pick_row P ys fun y hy => hperm.mem_iff.mp hy
  obtain ⟨rs, ers, hrs, hgr⟩ := pick_row R zs fun y hy => hpermz.mem_iff.mp hy
  have lps : ps.length = ys.length := by rw [← eps]; simp
  have lrs : rs.length = zs.length := by rw [← ers]; simp
  have z2 : 2 ≤ sizeLine := line_of (by omega)
  have H : (House.mk ps rs).Ok := by
    refine ⟨by show 1 ≤ ps.length; omega, by show ps.length ≤ 4; omega, by show (ps.map (·.1)).Pairwise _; rw [eps]; exact hrise, fun p hp => pk p (hps p hp), by show 1 ≤ rs.length; omega, by show rs.length ≤ 4; omega, by show (rs.map (·.1)).Pairwise _; rw [ers]; exact hrisez, fun r hr => ?_⟩
    have := qk r (hrs r hr)
    exact ⟨this.1, this.2.1, by show r.2.Sublist (ps.map (·.1)); rw [eps]; exact this.2.2⟩
  simp [z2]
  refine ⟨fun d hd => ho4 d hd, ?_⟩
  refine lc_map (fun d => .tup [d, (dget (ledD .int P) d).getD .non]) (ys.map .str) [] (by simp; have := zz ys.length (by omega); omega) (fun x hx => ?_) ?_
  · obtain ⟨y, hy, rfl⟩ := List.mem_map.mp hx
    obtain ⟨n, hn1, _⟩ := getS_mem (hperm.mem_iff.mp hy)
    refine ⟨_, rfl, fun R' k => ?_⟩
    rw [ledD_get, hn1] at k
    simp [z2, ledD_get, hn1]
    exact k
  · simp
    refine ⟨fun d hd => ho7 d hd, _, ⟨by rw [ledD_keys]; exact hokz, rfl⟩, ?_⟩
    rw [ledD_keys, ez]
    simp
    refine lc_map (fun d => .tup [d, (dget (ledD memD R) d).getD .non]) (zs.map .str) [] (by simp; have := zz zs.length (by omega); omega) (fun x hx => ?_) ?_
    · obtain ⟨y, hy, rfl⟩ := List.mem_map.mp hx
      obtain ⟨n, hn1, _⟩ := getS_mem (hpermz.mem_iff.mp hy)
      refine ⟨_, rfl, fun R' k => ?_⟩
      rw [ledD_get, hn1] at k
      simp [z2, ledD_get, hn1]
      exact k
    · have e1 : ys.map (fun x => D.tup [.str x, (dget (ledD .int P) (.str x)).getD .non]) = ps.map fun p => .tup [.str p.1, .int p.2] := by
        rw [← eps, List.map_map]
        apply List.map_congr_left
        intro p hp
        simp [ledD_get, hgp p hp]
      have e2 : zs.map (fun x => D.tup [.str x, (dget (ledD memD R) (.str x)).getD .non]) = rs.map fun r => .tup [.str r.1, memD r.2] := by
        rw [← ers, List.map_map]
        apply List.map_congr_left
        intro p hp
        simp [ledD_get, hgr p hp]
      have hq := q ⟨ps, rs⟩ H
      unfold House.toD House.pD House.rD at hq
      rw [← e1, ← e2] at hq
      simp
      exact hq
end T3
set_option autoImplicit false
namespace T3
open PySem PySem.Spec PyProof.Rows L2
def N_house : List Str := ["_law_cell", "_law_numbers", "_law_words_here", "_law_people", "_law_names", "_law_rooms", "_law_k", "_law_bits", "_law_members", "_law_name", "_law_many", "_law_j"]
def b_house : TS3 := sSeq (sIf (tV (T3.e2 fEq (fz (T3.e2 fMod (eB 0) (fz (eC (.int 2))))) (fz (eC (.int 0))))) (sSeq (sRet (eCall sp_house_by_digits [] (aCons (fz (T3.e2 fFdiv (eB 0) (fz (eC (.int 2))))) (aNil)))) (sNil)) (sNil)) (sSeq (sSet 1 (fz (eCall sp_stream [] (aCons (fz (eV 0)) (aCons (fz (eC (.int 12))) (aNil)))))) (sSeq (sSet 2 (fz (eCall sp_words [] (aCons (fz (T3.e2 fIxA (eB 1) (fz (eC (.int 0))))) (aCons (fz (eC (.int 6))) (aNil)))))) (sSeq (sSet 3 (eLc (iR1 (aCons (fz (T3.e2 fAdd (fz (eC (.int 1))) (fz (T3.e2 fMod (fz (T3.e2 fIxA (eB 1) (fz (eC (.int 1))))) (fz (eC (.int 4))))))) (aNil))) (.nm 6) (tYes3) (eTup (aCons (fz (T3.e2 fIxA (eB 2) (eB 6))) (aCons (fz (T3.e2 fAdd (fz (eC (.int 1))) (fz (T3.e2 fMod (fz (T3.e2 fIxA (eB 1) (fz (T3.e2 fAdd (fz (eC (.int 2))) (eB 6))))) (fz (eC (.int 3))))))) (aNil)))) [6])) (sFz 3 (sSeq (sSet 4 (fz (eN fSorted (aCons (fz (eLc (iS (eV 3)) (.tp [9, 10]) (tYes3) (eV 9) [9, 10])) (aNil))))) (sSeq (sSet 5 (eLst (aNil))) (sSeq (sFor (iR1 (aCons (fz (T3.e2 fAdd (fz (eC (.int 1))) (fz (T3.e2 fMod (fz (T3.e2 fFdiv (fz (T3.e2 fIxA (eB 1) (fz (eC (.int 1))))) (fz (eC (.int 4))))) (fz (eC (.int 4))))))) (aNil))) (.nm 6) (sSeq (sSet 7 (T3.e2 fIxA (eB 1) (fz (T3.e2 fAdd (fz (eC (.int 6))) (eB 6))))) (sSeq (sSet 8 (eLc (iR1 (aCons (fz (eN fLen (aCons (eB 4) (aNil)))) (aNil))) (.nm 11) (tV (T3.e2 fEq (fz (T3.e2 fMod (fz (T3.e2 fFdiv (eB 7) (fz (T3.e2 fIxA (fz (eLst (aCons (fz (eC (.int 1))) (aCons (fz (eC (.int 2))) (aCons (fz (eC (.int 4))) (aCons (fz (eC (.int 8))) (aNil))))))) (eB 11))))) (fz (eC (.int 2))))) (fz (eC (.int 1))))) (T3.e2 fIxA (eB 4) (eB 11)) [11])) (sFz 8 (sSeq (sIf (tV (T3.e2 fEq (eB 8) (fz (eLst (aNil))))) (sSeq (sSet 8 (fz (eLst (aCons (fz (T3.e2 fIxA (eB 4) (fz (T3.e2 fMod (fz (T3.e2 fFdiv (eB 7) (fz (eC (.int 16))))) (fz (eN fLen (aCons (eB 4) (aNil)))))))) (aNil))))) (sNil)) (sNil)) (sSeq (sM 5 okL gAppend (aCons (fz (eTup (aCons (fz (T3.e2 fIxA (eB 2) (fz (T3.e2 fSub (fz (eC (.int 5))) (eB 6))))) (aCons (fz (eN fTuple (aCons (eB 8) (aNil)))) (aNil))))) (aNil)) kDrop) (sNil))))))) (sSeq (sRet (eTup (aCons (fz (eN fTuple (aCons (fz (eN fSorted (aCons (eB 3) (aNil)))) (aNil)))) (aCons (fz (eN fTuple (aCons (fz (eN fSorted (aCons (eB 5) (aNil)))) (aNil)))) (aNil))))) (sNil)))))))))
theorem perm_map_ex {α β : Type} {g : α → β} : ∀ {m : List β} {l : List α}, m.Perm (l.map g) → ∃ l' : List α, l'.Perm l ∧ m = l'.map g
  | [], l, h => by
    have : l = [] := by simpa using h.symm.eq_nil
    subst this
    exact ⟨[], .refl _, rfl⟩
  | b :: m, l, h => by
    obtain ⟨a, ha, rfl⟩ := List.mem_map.mp (h.mem_iff.mp List.mem_cons_self)
    obtain ⟨s, t, rfl⟩ := List.append_of_mem ha
    have h2 : (g a :: m).Perm (g a :: (s ++ t).map g) := by
      refine h.trans ?_
      rw [List.map_append, List.map_cons, List.map_append]
      exact List.perm_middle
    obtain ⟨l', h3, rfl⟩ := perm_map_ex h2.cons_inv
    exact ⟨a :: l', (h3.cons a).trans List.perm_middle.symm, rfl⟩
theorem sort_ledF {α : Type} (f : α → D) (P : List (Str × α)) (hn : (P.map (·.1)).Nodup) (hal : ∀ p ∈ P, ∀ q ∈ P, PySem.W.alike (pd (f p.2)) (pd (f q.2)) = true) : ∃ P' : List (Str × α), sortD (P.map fun p => .tup [.str p.1, f p.2]) = P'.map (fun p => .tup [.str p.1, f p.2]) ∧ P'.Perm P ∧ (P'.map (·.1)).Pairwise strLt := by
  obtain ⟨qs, h1, h2, h3⟩ := sort_led (P.map fun p => (p.1, f p.2)) (by rw [List.map_map]; exact hn) fun p hp q hq => by
    obtain ⟨a, ha, rfl⟩ := List.mem_map.mp hp
    obtain ⟨b, hb, rfl⟩ := List.mem_map.mp hq
    exact hal a ha b hb
  obtain ⟨P', h4, rfl⟩ := perm_map_ex h2
  rw [List.map_map] at h1 h3
  rw [List.map_map] at h1
  exact ⟨P', h1, h4, h3⟩
theorem okSort_led (ps : List (Str × D)) (h : ps.length ≤ 1000) (hp : ∀ p ∈ ps, pok p.2 = true ∧ dep p.2 ≤ 40) (hal : ∀ p ∈ ps, ∀ q ∈ ps, PySem.W.alike (pd p.2) (pd q.2) = true) : okSort (ps.map fun p => .tup [.str p.1, p.2]) = true := by
  have hz : ps.length ≤ sizeLine := line_of (by omega)
  have hk : ∀ l : List (Str × D), (∀ p ∈ l, pok p.2 = true ∧ dep p.2 ≤ 40) → poks (l.map fun p => D.tup [.str p.1, p.2]) = true := by
    intro l
    induction l with
    | nil => intro _; rfl
    | cons a l ih =>
      intro h
      rw [List.map_cons, poks, ih fun p hp => h p (List.mem_cons_of_mem _ hp)]
      simp [pok, poks, (h a List.mem_cons_self).1]
  simp only [okSort, hk ps hp, Bool.true_and, List.length_map, hz, decide_true, Bool.and_true, Bool.and_eq_true, Bool.or_eq_true, List.all_eq_true, decide_eq_true_eq]
  refine ⟨⟨fun a ha b hb => ?_, .inl fun a ha => ?_⟩, fun a ha => ?_⟩
  · obtain ⟨x, hx, rfl⟩ := List.mem_map.mp ha
    obtain ⟨y, hy, rfl⟩ := List.mem_map.mp hb
    simp [pd, pds, PySem.W.alike, PySem.W.alikeAll, hal x hx y hy]
  · obtain ⟨x, _, rfl⟩ := List.mem_map.mp ha; rfl
  · obtain ⟨x, hx, rfl⟩ := List.mem_map.mp ha
    have := (hp x hx).2
    simp [dep, deps]; omega
theorem take_get {α : Type} (ws : List α) (d : α) (n : Nat) (h : n ≤ ws.length) : (List.range n).map (fun k => ws.getD k d) = ws.take n := by
  apply List.ext_getElem?
  intro j
  rw [List.getElem?_map, List.getElem?_take]
  by_cases hj : j < n
  · rw [List.getElem?_range hj, if_pos hj, List.getElem?_eq_getElem (by omega)]
    simp [List.getD, List.getElem?_eq_getElem (show j < ws.length by omega)]
  · rw [List.getElem?_eq_none (by simp; omega), if_neg hj]; rfl
theorem getD_at {α : Type} (ws : List α) (d : α) (j : Nat) (h : j < ws.length) : ws.getD j d = ws[j] := by
  simp [List.getD, List.getElem?_eq_getElem h]
theorem memD_alike (a b : List Str) : PySem.W.alike (pd (memD a)) (pd (memD b)) = true := by
  have : ∀ a b : List Str, PySem.W.alikeAll (pds (a.map D.str)) (pds (b.map D.str)) = true := by
    intro a
    induction a with
    | nil => intro b; simp [pds, PySem.W.alikeAll]
    | cons x a ih =>
      intro b
      cases b with
      | nil => simp [pds, PySem.W.alikeAll]
      | cons y b => simp [pds, pd, PySem.W.alikeAll, PySem.W.alike, ih b]
  unfold memD
  rw [pd, pd, PySem.W.alike]
  exact this a b
theorem memD_pok (a : List Str) : pok (memD a) = true ∧ dep (memD a) ≤ 40 := by
  unfold memD
  refine ⟨by rw [pok]; exact poks_strs a, ?_⟩
  have : ∀ a : List Str, deps (a.map D.str) = 0 := by
    intro a
    induction a with
    | nil => rfl
    | cons x a ih => rw [List.map_cons, deps, ih]; simp [dep]
  rw [dep, this]; omega
theorem rise_unique : ∀ {xs ys : List Str}, xs.Perm ys → xs.Pairwise strLt → ys.Pairwise strLt → xs = ys
  | [], ys, h, _, _ => by rw [h.symm.eq_nil]
  | a :: xs, [], h, _, _ => by cases h.eq_nil
  | a :: xs, b :: ys, h, h1, h2 => by
    rw [List.pairwise_cons] at h1 h2
    have e : a = b := by
      rcases List.mem_cons.mp (h.mem_iff.mp List.mem_cons_self) with e | ha
      · exact e
      rcases List.mem_cons.mp (h.mem_iff.mpr List.mem_cons_self) with e | hb
      · exact e.symm
      exact absurd (h1.1 b hb) (List.lt_asymm (h2.1 a ha))
    subst e
    rw [rise_unique h.cons_inv h1.2 h2.2]
def pairF (ws : List Str) (ns : List Int) : D → D
  | .int k => .tup [.str (ws.getD k.toNat ⟨#[]⟩), .int (1 + ns.getD (2 + k.toNat) 0 % 3)]
  | d => d
def firstF : D → D
  | .tup [a, _] => a
  | d => d
theorem m_house (ds A Q) (h : sp_house ds A Q (fun _ _ _ => False)) : b_house { nx := fun _ A' => Q .non A', rt := Q } (start3 N_house ds) A := by
  obtain ⟨c, rfl, q⟩ := h
  have zz : ∀ n, n ≤ 1000 → n < sizeLine := fun n hn => by have := line_of (n := 2000) (by omega); omega
  by_cases h0 : c % 2 = 0
  · simp [b_house, start3, N_house, h0]
    exact ⟨_, rfl, q⟩
  simp only [b_house, ap_sSeq]
  refine seq_mid (t := sIf _ _ _) (fun z A' => A' = A ∧ z = [some (.int c), none, none, none, none, none, none, none, none, none, none, none]) (fun E' hr _ _ hn => ?_) ?_
  · simp [start3, N_house, h0]
    exact hn _ _ ⟨rfl, rfl⟩
  rintro z A1 ⟨rfl, rfl⟩
  refine seq_mid (fun z A' => A' = A1 ∧ ∃ ns : List Int, ns.length = 12 ∧ z = [some (.int c), some (.lst (ns.map .int)), none, none, none, none, none, none, none, none, none, none]) (fun E' hr _ _ hn => ?_) ?_
  · simp
    exact ⟨c, 12, rfl, by omega, fun ns hns hcs => hn _ _ ⟨rfl, ns, by omega, by simp⟩⟩
  rintro z A1 ⟨rfl, ns, hn12, rfl⟩
  have at12 : ∀ j : Nat, j < 12 → L2.atI (ns.map D.int) (j : Int) = some (.int (ns.getD j 0)) := fun j hj => by
    rw [atI_nat _ _ (by simp; omega), getD_at _ _ _ (by omega)]; simp
  obtain ⟨n0, hn0⟩ : ∃ n, ns.getD 0 0 = n := ⟨_, rfl⟩
  obtain ⟨n1, hn1⟩ : ∃ n, ns.getD 1 0 = n := ⟨_, rfl⟩
  have a0 : L2.atI (ns.map D.int) 0 = some (.int n0) := by have := at12 0 (by omega); rw [hn0] at this; exact this
  have a1 : L2.atI (ns.map D.int) 1 = some (.int n1) := by have := at12 1 (by omega); rw [hn1] at this; exact this
  refine seq_mid (fun z A' => A' = A1 ∧ ∃ ws : List Str, ws.length = 6 ∧ ws.Nodup ∧ (∀ x ∈ ws, NameOk x) ∧ z = [some (.int c), some (.lst (ns.map .int)), some (.lst (ws.map .str)), none, none, none, none, none, none, none, none, none]) (fun E' hr _ _ hn => ?_) ?_
  · simp [a0]
    exact ⟨n0, 6, rfl, by omega, fun ws h1 h2 h3 => hn _ _ ⟨rfl, ws, by omega, h2, h3, by simp⟩⟩
  rintro z A1 ⟨rfl, ws, hw6, hwn, hwk, rfl⟩
  have atW : ∀ j : Nat, j < 6 → L2.atI (ws.map D.str) (j : Int) = some (.str (ws.getD j ⟨#[]⟩)) := fun j hj => by
    rw [atI_nat _ _ (by simp; omega), getD_at _ _ _ (by omega)]; simp
  -- people
  obtain ⟨m, hm⟩ : ∃ m : Nat, 1 + n1 % 4 = m := ⟨(1 + n1 % 4).toNat, by omega⟩
  have hm4 : 1 ≤ m ∧ m ≤ 4 := by omega
  have h62 : small62 (m : Int) := ⟨by omega, by omega⟩
  have z2 : 2 ≤ sizeLine := line_of (by omega)
  obtain ⟨P, hP⟩ : ∃ P : List (Str × Int), (List.range m).map (fun k => (ws.getD k ⟨#[]⟩, 1 + ns.getD (2 + k) 0 % 3)) = P := ⟨_, rfl⟩
  have hPl : P.length = m := by rw [← hP]; simp
  have hPn : P.map (·.1) = ws.take m := by
    rw [← hP, List.map_map]
    exact take_get ws ⟨#[]⟩ m (by omega)
  have hPk : ∀ p ∈ P, NameOk p.1 ∧ 1 ≤ p.2 ∧ p.2 ≤ 3 := fun p hp => by
    rw [← hP] at hp
    obtain ⟨k, hk, rfl⟩ := List.mem_map.mp hp
    have := List.mem_range.mp hk
    refine ⟨hwk _ ?_, by simp only; omega, by simp only; omega⟩
    simp only
    rw [getD_at _ _ _ (by omega)]
    exact List.getElem_mem _
  refine seq_mid (fun z A' => A' = A1 ∧ z = [some (.int c), some (.lst (ns.map .int)), some (.lst (ws.map .str)), some (.ml (P.map fun p => .tup [.str p.1, .int p.2])), none, none, none, none, none, none, none, none]) (fun E' hr _ _ hn => ?_) ?_
  · simp [a1, hm, h62]
    refine lc_map (pairF ws ns) (rng 0 m) [] (by rw [rng_length]; have := zz m (by omega); simp; omega) (fun x hx => ?_) ?_
    · obtain ⟨j, hj⟩ := List.mem_iff_getElem?.mp hx
      obtain ⟨hlt, rfl⟩ := rng_get hj
      refine ⟨_, rfl, fun R k => ?_⟩
      have b1 := atW j (by omega)
      have b2 := at12 (2 + j) (by omega)
      have b2' : L2.atI (ns.map D.int) (2 + (j : Int)) = some (.int (ns.getD (2 + j) 0)) := by rw [← b2]; congr 1
      simp only [Int.zero_add] at k
      simp [b1, b2', z2]
      simpa [pairF] using k
    · rw [List.nil_append]
      have e : (rng 0 m).map (fun x => frz (pairF ws ns x)) = P.map fun p => .tup [.str p.1, .int p.2] := by
        rw [← hP]
        unfold rng
        rw [List.map_map, List.map_map]
        apply List.map_congr_left
        intro k _
        simp [pairF]
      rw [e]
      exact hn _ _ ⟨rfl, rfl⟩
  rintro z A1 ⟨rfl, rfl⟩
  rw [ap_sFz]
  refine ⟨_, rfl, ?_⟩
  -- names
  have hPnd : (P.map (·.1)).Nodup := by rw [hPn]; exact (List.take_sublist m ws).nodup hwn
  obtain ⟨ys, ey, hperm, hrise⟩ := sort_strs (P.map (·.1)) hPnd
  have hyl : ys.length = m := by rw [hperm.length_eq]; simp [hPl]
  have hok : okSort ((P.map (·.1)).map D.str) = true := okSort_strs _ (by simp; omega)
  refine seq_mid (fun z A' => A' = A1 ∧ z = [some (.int c), some (.lst (ns.map .int)), some (.lst (ws.map .str)), some (.lst (P.map fun p => .tup [.str p.1, .int p.2])), some (.lst (ys.map .str)), none, none, none, none, none, none, none]) (fun E' hr _ _ hn => ?_) ?_
  · simp
    refine lc_map firstF (P.map fun p => .tup [.str p.1, .int p.2]) [] (by simp; have := zz m (by omega); omega) (fun x hx => ?_) ?_
    · obtain ⟨p, hp, rfl⟩ := List.mem_map.mp hx
      refine ⟨_, rfl, fun R k => ?_⟩
      simp
      exact k
    · rw [List.nil_append]
      have e : (P.map fun p => D.tup [.str p.1, .int p.2]).map (fun x => frz (firstF x)) = (P.map (·.1)).map D.str := by
        rw [List.map_map, List.map_map]
        apply List.map_congr_left
        intro p _
        simp [firstF]
      rw [e]
      simp only [frz_ml, fSorted_lst, if_pos hok, ey]
      exact ⟨_, rfl, hn _ _ ⟨rfl, rfl⟩⟩
  rintro z A1 ⟨rfl, rfl⟩
  refine seq_mid (fun z A' => A' = A1 ∧ z = [some (.int c), some (.lst (ns.map .int)), some (.lst (ws.map .str)), some (.lst (P.map fun p => .tup [.str p.1, .int p.2])), some (.lst (ys.map .str)), some (.ml []), none, none, none, none, none, none]) (fun E' hr _ _ hn => ?_) ?_
  · simp
    exact hn _ _ ⟨rfl, rfl⟩
  rintro z A1 ⟨rfl, rfl⟩
  -- rooms
  obtain ⟨m2, hm2⟩ : ∃ m : Nat, 1 + n1 / 4 % 4 = m := ⟨(1 + n1 / 4 % 4).toNat, by omega⟩
  have hm24 : 1 ≤ m2 ∧ m2 ≤ 4 := by omega
  have h62b : small62 (m2 : Int) := ⟨by omega, by omega⟩
  refine seq_mid (fun z A' => A' = A1 ∧ ∃ (R : List (Str × List Str)) (o6 o7 o8 : Option D), R.map (·.1) = (ws.reverse).take m2 ∧ (∀ p ∈ R, p.2 ≠ [] ∧ p.2.Sublist ys) ∧ z = [some (.int c), some (.lst (ns.map .int)), some (.lst (ws.map .str)), some (.lst (P.map fun p => .tup [.str p.1, .int p.2])), some (.lst (ys.map .str)), some (.ml (R.map fun r => .tup [.str r.1, memD r.2])), o6, o7, o8, none, none, none]) (fun E' hr _ _ hn => ?_) ?_
  · simp [a1, hm2, h62b]
    refine for_inv (fun i z A' => A' = A1 ∧ ∃ (R : List (Str × List Str)) (o6 o7 o8 : Option D), R.map (·.1) = (ws.reverse).take i ∧ (∀ p ∈ R, p.2 ≠ [] ∧ p.2.Sublist ys) ∧ z = [some (.int c), some (.lst (ns.map .int)), some (.lst (ws.map .str)), some (.lst (P.map fun p => .tup [.str p.1, .int p.2])), some (.lst (ys.map .str)), some (.ml (R.map fun r => .tup [.str r.1, memD r.2])), o6, o7, o8, none, none, none]) ⟨rfl, [], _, _, _, by simp, (fun _ h => nomatch h), rfl⟩ ?_ ?_
    · rintro i y hy z A2 ⟨rfl, R, o6, o7, o8, h1, h2, rfl⟩
      obtain ⟨hi, rfl⟩ := rng_get hy
      have hi' : i < m2 := by omega
      refine ⟨_, rfl, fun E2 hr2 hb2 hn2 hc2 => ?_⟩
      have hRl : R.length = i := by
        have := congrArg List.length h1
        simp at this
        omega
      have hz : R.length < sizeLine := zz _ (by omega)
      have b6 := at12 (6 + i) (by omega)
      have b6' : L2.atI (ns.map D.int) (6 + (i : Int)) = some (.int (ns.getD (6 + i) 0)) := by rw [← b6]; congr 1
      obtain ⟨bits, hbits⟩ : ∃ b, ns.getD (6 + i) 0 = b := ⟨_, rfl⟩
      rw [hbits] at b6'
      refine seq_mid (fun z A' => A' = A2 ∧ z = [some (.int c), some (.lst (ns.map .int)), some (.lst (ws.map .str)), some (.lst (P.map fun p => .tup [.str p.1, .int p.2])), some (.lst (ys.map .str)), some (.ml (R.map fun r => .tup [.str r.1, memD r.2])), some (.int (i : Int)), some (.int bits), o8, none, none, none]) (fun E3 hr3 _ _ hn3 => ?_) ?_
      · simp [b6']
        exact hn3 _ _ ⟨rfl, by simp⟩
      rintro z A3 ⟨rfl, rfl⟩
      refine seq_mid (fun z A' => A' = A3 ∧ ∃ ms : List Str, ms.Sublist ys ∧ z = [some (.int c), some (.lst (ns.map .int)), some (.lst (ws.map .str)), some (.lst (P.map fun p => .tup [.str p.1, .int p.2])), some (.lst (ys.map .str)), some (.ml (R.map fun r => .tup [.str r.1, memD r.2])), some (.int (i : Int)), some (.int bits), some (.ml (ms.map .str)), none, none, none]) (fun E3 hr3 _ _ hn3 => ?_) ?_
      · rw [ap_sSet]
        refine members_lc (r := bits) (by omega) rfl rfl (by decide) (by decide) (by simp) (fun d hd => by simp at hd) fun ms hms => ?_
        exact hn3 _ _ ⟨rfl, ms, hms, rfl⟩
      rintro z A3 ⟨rfl, ms, hms, rfl⟩
      rw [ap_sFz]
      refine ⟨_, rfl, ?_⟩
      refine seq_mid (fun z A' => A' = A3 ∧ ∃ ms : List Str, ms ≠ [] ∧ ms.Sublist ys ∧ z = [some (.int c), some (.lst (ns.map .int)), some (.lst (ws.map .str)), some (.lst (P.map fun p => .tup [.str p.1, .int p.2])), some (.lst (ys.map .str)), some (.ml (R.map fun r => .tup [.str r.1, memD r.2])), some (.int (i : Int)), some (.int bits), some (.lst (ms.map .str)), none, none, none]) (fun E3 hr3 _ _ hn3 => ?_) ?_
      · have hp : poks (ms.map D.str) = true := poks_strs ms
        have z1 : 1 ≤ sizeLine := line_of (by omega)
        by_cases he : ms = []
        · subst he
          have e0 : ∀ A, fEq A (.lst []) (.lst []) = some (.bl true) := fun A => by rw [fEq_nil A [] rfl]; rfl
          have hpos : 0 < ys.length := by omega
          obtain ⟨d, hd, hdm⟩ := atI_int (ys.map D.str) (bits / 16 % (ys.length : Int)) (Int.emod_nonneg _ (by omega)) (by simp; exact Int.emod_lt_of_pos _ (by omega))
          obtain ⟨y, hym, rfl⟩ := List.mem_map.mp hdm
          simp [e0, hpos, hd, z1]
          exact hn3 _ _ ⟨rfl, [y], by simp, List.singleton_sublist.mpr hym, by simp⟩
        · have hne : ¬ (ms.map D.str = []) := by simpa using he
          simp [fEq_nil _ _ hp, he]
          exact hn3 _ _ ⟨rfl, ms, he, hms, rfl⟩
      rintro z A3 ⟨rfl, ms, hne, hms, rfl⟩
      have b5 := atW (5 - i) (by omega)
      have b5' : L2.atI (ws.map D.str) (5 - (i : Int)) = some (.str (ws.getD (5 - i) ⟨#[]⟩)) := by rw [← b5]; congr 1; omega
      simp [b5', z2, hz]
      refine hn2 _ _ ⟨rfl, R ++ [(ws.getD (5 - i) ⟨#[]⟩, ms)], some (.int i), some (.int bits), some (.lst (ms.map .str)), ?_, fun p hp => ?_, by simp [memD]⟩
      · rw [List.map_append, h1, List.take_add_one]
        congr 1
        rw [List.getElem?_reverse (by omega), List.getElem?_eq_getElem (by omega), getD_at _ _ _ (by omega)]
        simp [hw6]
      · rcases List.mem_append.mp hp with hp | hp
        · exact h2 p hp
        · rw [List.mem_singleton.mp hp]; exact ⟨hne, hms⟩
    · rintro z A2 ⟨rfl, R, o6, o7, o8, h1, h2, rfl⟩
      rw [rng_length] at h1
      have e : ((m2 : Int)).toNat = m2 := by omega
      first | rw [e] at h1 | skip
      exact hn _ _ ⟨rfl, R, o6, o7, o8, h1, h2, rfl⟩
  rintro z A1 ⟨rfl, R, o6, o7, o8, h1, h2, rfl⟩
  have hRl : R.length = m2 := by
    have := congrArg List.length h1
    simp at this
    omega
  have hRnd : (R.map (·.1)).Nodup := by rw [h1]; exact (List.take_sublist m2 _).nodup ((List.reverse_perm ws).nodup_iff.mpr hwn)
  obtain ⟨P', eP, hPp, hPr⟩ := sort_ledF D.int P hPnd fun p _ q _ => by simp [pd, PySem.W.alike]
  obtain ⟨R', eR, hRp, hRr⟩ := sort_ledF memD R hRnd fun p _ q _ => memD_alike _ _
  have okP : okSort (P.map fun p => .tup [.str p.1, .int p.2]) = true := by
    have := okSort_led (P.map fun p => (p.1, D.int p.2)) (by simp; omega) (fun p hp => by obtain ⟨a, _, rfl⟩ := List.mem_map.mp hp; exact ⟨rfl, by simp [dep]⟩) (fun p hp q hq => by
      obtain ⟨a, _, rfl⟩ := List.mem_map.mp hp
      obtain ⟨b, _, rfl⟩ := List.mem_map.mp hq
      simp [pd, PySem.W.alike])
    rw [List.map_map] at this
    exact this
  have okR : okSort (R.map fun p => .tup [.str p.1, memD p.2]) = true := by
    have := okSort_led (R.map fun p => (p.1, memD p.2)) (by simp; omega) (fun p hp => by obtain ⟨a, _, rfl⟩ := List.mem_map.mp hp; exact memD_pok _) (fun p hp q hq => by
      obtain ⟨a, _, rfl⟩ := List.mem_map.mp hp
      obtain ⟨b, _, rfl⟩ := List.mem_map.mp hq
      exact memD_alike _ _)
    rw [List.map_map] at this
    exact this
  have hys : ys = P'.map (·.1) := rise_unique (hperm.trans (hPp.map _).symm) hrise hPr
  have H : (House.mk P' R').Ok := by
    have l1 := hPp.length_eq
    have l2 := hRp.length_eq
    refine ⟨by show 1 ≤ P'.length; omega, by show P'.length ≤ 4; omega, hPr, fun p hp => hPk p (hPp.mem_iff.mp hp), by show 1 ≤ R'.length; omega, by show R'.length ≤ 4; omega, hRr, fun r hr => ?_⟩
    have hr' := hRp.mem_iff.mp hr
    refine ⟨hwk _ ?_, (h2 r hr').1, by show r.2.Sublist (P'.map (·.1)); rw [← hys]; exact (h2 r hr').2⟩
    have : r.1 ∈ R.map (·.1) := List.mem_map.mpr ⟨r, hr', rfl⟩
    rw [h1] at this
    exact List.mem_reverse.mp (List.mem_of_mem_take this)
  have hq := q ⟨P', R'⟩ H
  unfold House.toD House.pD House.rD at hq
  simp only at hq
  rw [← eP, ← eR] at hq
  simp [okP, okR, z2]
  exact hq
end T3
set_option autoImplicit false
namespace T3
open PySem PySem.Spec PyProof.Rows L2
def N_same : List Str := ["_law_found", "_law_due", "_law_one", "_law_other"]
def b_same (self : Sp3) : TS3 := sSeq (sIf (tV (T3.e2 fIsN (eB 1) (fz (eC .non)))) (sSeq (sRet (T3.e2 fIsN (eB 0) (fz (eC .non)))) (sNil)) (sNil)) (sSeq (sIf (tV (e1 (fIsi "bool") (eB 1))) (sSeq (sRet (eAnd (e1 (fIsi "bool") (eB 0)) (T3.e2 fEq (eB 0) (eB 1)))) (sNil)) (sNil)) (sSeq (sIf (tV (e1 (fIsi "str") (eB 1))) (sSeq (sRet (eAnd (e1 (fIsi "str") (eB 0)) (T3.e2 fEq (eB 0) (eB 1)))) (sNil)) (sNil)) (sSeq (sIf (tV (e1 (fIsi "int") (eB 1))) (sSeq (sRet (eAnd (e1 (fIsi "int") (eB 0)) (eAnd (eNot (e1 (fIsi "bool") (eB 0))) (T3.e2 fEq (eB 0) (eB 1))))) (sNil)) (sNil)) (sSeq (sIf (tAnd3 (tV (e1 (fIsi "list") (eB 1))) (tNot3 (tV (e1 (fIsi "list") (eB 0))))) (sSeq (sRet (eC (.bl false))) (sNil)) (sNil)) (sSeq (sIf (tAnd3 (tV (e1 (fIsi "tuple") (eB 1))) (tNot3 (tV (e1 (fIsi "tuple") (eB 0))))) (sSeq (sRet (eC (.bl false))) (sNil)) (sNil)) (sSeq (sIf (tV (T3.e2 fNe (fz (eN fLen (aCons (eB 0) (aNil)))) (fz (eN fLen (aCons (eB 1) (aNil)))))) (sSeq (sRet (eC (.bl false))) (sNil)) (sNil)) (sSeq (sFor (iZp (aCons (fz (eV 0)) (aCons (fz (eV 1)) (aNil)))) (.tp [2, 3]) (sSeq (sIf (tNot3 (tV (eCall self [] (aCons (fz (eV 2)) (aCons (fz (eV 3)) (aNil)))))) (sSeq (sRet (eC (.bl false))) (sNil)) (sNil)) (sNil))) (sSeq (sRet (eC (.bl true))) (sNil)))))))))
/-- what is held against the due: data, or a list that others hold -/
def FOk (A : AH) (f : D) : Prop := pok f = true ∨ ∃ a xs, f = .ref a ∧ A a = some (.lst xs) ∧ poks xs = true
def sp_same : Nat → Sp3
  | 0 => fun _ _ _ _ => False
  | n + 1 => fun ds A Q _ => ∃ f d, ds = [f, d] ∧ FOk A f ∧ pok d = true ∧ dep d ≤ n ∧ n ≤ 40 ∧ Q (.bl (decide (vw A f = d))) A
theorem never_same (ds A Q E) : ¬ sp_same 0 ds A Q E := fun h => h
theorem l_same (n : Nat) (ds A Q E) (h : sp_same (n + 1) ds A Q E) : ds.length = (["_law_found", "_law_due"] : List Str).length := by obtain ⟨f, d, rfl, _⟩ := h; rfl
mutual
/-- equal by ==, and of the same kinds -/
theorem eqv_same : ∀ a : D, pok a = true → eqD a a = true
  | a, h => eqv_refl a h
end
theorem fIsi_ref (T : String) (A : AH) {a : Addr} {xs : List D} (h : A a = some (.lst xs)) : fIsi T A (.ref a) = some (.bl (isT "list" T)) := by
  simp [fIsi, tyD, h]
theorem zip_same : ∀ {xs ys : List D}, xs.length = ys.length → ((List.zipWith pairD xs ys).all fun d => match d with | .tup [a, b] => decide (a = b) | _ => false) = decide (xs = ys)
  | [], [], _ => rfl
  | [], _ :: _, h => by simp at h
  | _ :: _, [], h => by simp at h
  | x :: xs, y :: ys, h => by
    have := zip_same (xs := xs) (ys := ys) (by simpa using h)
    rw [List.zipWith_cons_cons, List.all_cons, this]
    by_cases e : x = y
    · subst e; simp [pairD]
    · simp [pairD, e]
theorem dep_mem : ∀ {ys : List D} {n : Nat}, deps ys ≤ n → ∀ y ∈ ys, dep y ≤ n
  | y :: ys, n, h, z, hz => by
    rw [deps] at h
    rcases List.mem_cons.mp hz with rfl | hz
    · omega
    · exact dep_mem (by omega) z hz
  | [], _, _, z, hz => by cases hz
/-- the walk over two rows of one length -/
theorem same_walk {n : Nat} {E : Ends3} {ws : Ws} {A : AH} {f d : D} : ∀ (xs ys : List D) (o2 o3 : Option D), xs.length = ys.length → poks xs = true → poks ys = true → deps ys ≤ n → n ≤ 40 → Held A ws →
    (xs = ys → ∀ o2 o3, E.nx [some f, some d, o2, o3] A) → (xs ≠ ys → E.rt (.bl false) A) →
    forW (.tp [2, 3]) (sSeq (sIf (tNot3 (tV (eCall (sp_same (n + 1)) [] (aCons (fz (eV 2)) (aCons (fz (eV 3)) (aNil)))))) (sSeq (sRet (eC (.bl false))) (sNil)) (sNil)) (sNil)) E ws (List.zipWith pairD xs ys) [some f, some d, o2, o3] A
  | [], [], o2, o3, _, _, _, _, _, hw, q1, _ => ⟨hw, q1 rfl _ _⟩
  | [], _ :: _, _, _, h, _, _, _, _, _, _, _ => by simp at h
  | _ :: _, [], _, _, h, _, _, _, _, _, _, _ => by simp at h
  | x :: xs, y :: ys, o2, o3, h, hx, hy, hd, hn, hw, q1, q2 => by
    simp only [poks, Bool.and_eq_true] at hx hy
    have ox : own x = false := by cases x <;> first | rfl | simp [pok] at hx
    have oy : own y = false := by cases y <;> first | rfl | simp [pok] at hy
    have hd2 : dep y ≤ n ∧ deps ys ≤ n := by rw [deps] at hd; omega
    rw [List.zipWith_cons_cons, for_cons]
    refine ⟨hw, _, rfl, ?_⟩
    simp [ox, oy, frz_of ox, frz_of oy]
    refine ⟨x, y, rfl, .inl hx.1, hy.1, hd2.1, hn, ?_⟩
    rw [vw_pok hx.1]
    by_cases e : x = y
    · simp [e]
      exact same_walk xs ys _ _ (by simpa using h) hx.2 hy.2 hd2.2 hn hw (fun z o2 o3 => q1 (by rw [e, z]) o2 o3) fun z => q2 fun w => z (List.cons.inj w).2
    · simp [e]
      exact q2 fun w => e (List.cons.inj w).1
theorem isT_ne : isT "NoneType" "bool" = false ∧ isT "NoneType" "str" = false ∧ isT "NoneType" "int" = false ∧ isT "NoneType" "list" = false ∧ isT "NoneType" "tuple" = false ∧
    isT "bool" "str" = false ∧ isT "bool" "int" = true ∧ isT "bool" "list" = false ∧ isT "bool" "tuple" = false ∧ isT "int" "bool" = false ∧ isT "int" "str" = false ∧ isT "int" "list" = false ∧ isT "int" "tuple" = false ∧
    isT "str" "bool" = false ∧ isT "str" "int" = false ∧ isT "str" "list" = false ∧ isT "str" "tuple" = false ∧ isT "list" "bool" = false ∧ isT "list" "str" = false ∧ isT "list" "int" = false ∧ isT "list" "tuple" = false ∧
    isT "tuple" "bool" = false ∧ isT "tuple" "str" = false ∧ isT "tuple" "int" = false ∧ isT "tuple" "list" = false := by decide
theorem vw_ref {A : AH} {a : Addr} {xs : List D} (h : A a = some (.lst xs)) : vw A (.ref a) = .lst xs := by simp [vw, h]
theorem fLen_ref {A : AH} {a : Addr} {xs : List D} (h : A a = some (.lst xs)) : fLen A [.ref a] = some (.int xs.length) := by simp [fLen, vw, h]
theorem m_same (n : Nat) (ds A Q) (h : sp_same (n + 1) ds A Q (fun _ _ _ => False)) : b_same (sp_same n) { nx := fun _ A' => Q .non A', rt := Q } (start3 N_same ds) A := by
  obtain ⟨f, d, rfl, hf, hd, hdep, hn, q⟩ := h
  obtain ⟨t1, t2, t3, t4, t5, t6, t7, t8, t9, t10, t11, t12, t13, t14, t15, t16, t17, t18, t19, t20, t21, t22, t23, t24, t25⟩ := isT_ne
  have tl := isT_self "list"
  have od : own d = false := by cases d <;> first | rfl | simp [pok] at hd
  have of : own f = false := by
    rcases hf with hf | ⟨a, xs, rfl, _⟩
    · cases f <;> first | rfl | simp [pok] at hf
    · rfl
  have ff := frz_of of
  have fd := frz_of od
  cases d with
  | non =>
    simp [b_same, start3, N_same, ff]
    have e : (f = .non) ↔ vw A f = .non := by
      rcases hf with hf | ⟨a, xs, rfl, ha, _⟩
      · rw [vw_pok hf]
      · simp [vw, ha]
    rw [show decide (f = D.non) = decide (vw A f = D.non) from decide_eq_decide.mpr e]
    exact q
  | bl b =>
    simp [b_same, start3, N_same, ff, fIsi_bl]
    rcases hf with hf | ⟨a, xs, rfl, ha, _⟩
    · rw [vw_pok hf] at q
      cases f with
      | bl b' =>
        simp [fIsi_bl]
        have : (b' == b) = decide (D.bl b' = D.bl b) := by rw [Bool.eq_iff_iff]; simp
        rw [this]; exact q
      | non => simp [fIsi_non, t1]; simpa using q
      | int i => simp [fIsi_int, t10]; simpa using q
      | str i => simp [fIsi_str, t14]; simpa using q
      | tup i => simp [fIsi_tup, t22]; simpa using q
      | lst i => simp [fIsi_lst, t18]; simpa using q
      | _ => simp [pok] at hf
    · simp [fIsi_ref _ _ ha, t18]
      rw [vw_ref ha] at q
      simpa using q
  | str x =>
    simp [b_same, start3, N_same, ff, fIsi_str, t14]
    rcases hf with hf | ⟨a, xs, rfl, ha, _⟩
    · rw [vw_pok hf] at q
      cases f with
      | str i => simp [fIsi_str]; simpa using q
      | non => simp [fIsi_non, t2]; simpa using q
      | bl i => simp [fIsi_bl, t6]; simpa using q
      | int i => simp [fIsi_int, t11]; simpa using q
      | tup i => simp [fIsi_tup, t23]; simpa using q
      | lst i => simp [fIsi_lst, t19]; simpa using q
      | _ => simp [pok] at hf
    · simp [fIsi_ref _ _ ha, t19]
      rw [vw_ref ha] at q
      simpa using q
  | int j =>
    simp [b_same, start3, N_same, ff, fIsi_int, t10, t11]
    rcases hf with hf | ⟨a, xs, rfl, ha, _⟩
    · rw [vw_pok hf] at q
      cases f with
      | int i => simp [fIsi_int, t10]; simpa using q
      | non => simp [fIsi_non, t3]; simpa using q
      | bl i => simp [fIsi_bl, t7]; simpa using q
      | str i => simp [fIsi_str, t15]; simpa using q
      | tup i => simp [fIsi_tup, t24]; simpa using q
      | lst i => simp [fIsi_lst, t20]; simpa using q
      | _ => simp [pok] at hf
    · simp [fIsi_ref _ _ ha, t20]
      rw [vw_ref ha] at q
      simpa using q
  | lst ys =>
    cases n with
    | zero => simp [dep] at hdep
    | succ n =>
      rw [dep] at hdep
      rw [pok] at hd
      simp [b_same, start3, N_same, ff, fIsi_lst, t18, t19, t20, t21]
      have go : ∀ (ws : Ws) (xs : List D), Held A ws → poks xs = true → vw A f = .lst xs → xs.length = ys.length → forW (.tp [2, 3]) (sSeq (sIf (tNot3 (tV (eCall (sp_same (n + 1)) [] (aCons (fz (eV 2)) (aCons (fz (eV 3)) (aNil)))))) (sSeq (sRet (eC (.bl false))) (sNil)) (sNil)) (sNil)) { nx := sSeq (sRet (eC (.bl true))) sNil { nx := fun _ A' => Q .non A', rt := Q }, rt := Q } ws (List.zipWith pairD xs ys) [some f, some (.lst ys), none, none] A := fun ws xs hw hx ev hl => by
        rw [ev] at q
        refine same_walk xs ys none none hl hx hd (by omega) (by omega) hw (fun e _ _ => ?_) fun e => ?_
        · simp; simpa [e] using q
        · simpa [e] using q
      rcases hf with hf | ⟨a, xs, rfl, ha, hx⟩
      · rw [vw_pok hf] at q
        cases f with
        | lst xs =>
          rw [pok] at hf
          by_cases hl : xs.length = ys.length
          · simp [fIsi_lst, t21, hl]
            exact go [] xs (by rw [held_nil]; trivial) hf rfl hl
          · have hne : ¬ xs = ys := fun e => hl (by rw [e])
            have hl' : ¬ ((xs.length : Int) = ys.length) := by omega
            simp [fIsi_lst, t21, hl']
            simpa [hne] using q
        | non => simp [fIsi_non, t4]; simpa using q
        | bl i => simp [fIsi_bl, t8]; simpa using q
        | int i => simp [fIsi_int, t12]; simpa using q
        | str i => simp [fIsi_str, t16]; simpa using q
        | tup i => simp [fIsi_tup, t25]; simpa using q
        | _ => simp [pok] at hf
      · have q' := q
        rw [vw_ref ha] at q'
        by_cases hl : xs.length = ys.length
        · simp [fIsi_ref _ _ ha, t21, fLen_ref ha, hl, zipI_ref _ _ _ ha]
          exact go [(a, xs)] xs (by simp [ha]) hx (vw_ref ha) hl
        · have hne : ¬ xs = ys := fun e => hl (by rw [e])
          have hl' : ¬ ((xs.length : Int) = ys.length) := by omega
          simp [fIsi_ref _ _ ha, t21, fLen_ref ha, hl']
          simpa [hne] using q'
  | tup ys =>
    cases n with
    | zero => simp [dep] at hdep
    | succ n =>
      rw [dep] at hdep
      rw [pok] at hd
      simp [b_same, start3, N_same, ff, fIsi_tup, t22, t23, t24, t25]
      rcases hf with hf | ⟨a, xs, rfl, ha, hx⟩
      · rw [vw_pok hf] at q
        cases f with
        | tup xs =>
          rw [pok] at hf
          by_cases hl : xs.length = ys.length
          · simp [fIsi_tup, hl]
            refine same_walk xs ys none none hl hf hd (by omega) (by omega) (by rw [held_nil]; trivial) (fun e _ _ => ?_) fun e => ?_
            · simp; simpa [e] using q
            · simpa [e] using q
          · have hne : ¬ xs = ys := fun e => hl (by rw [e])
            have hl' : ¬ ((xs.length : Int) = ys.length) := by omega
            simp [fIsi_tup, hl']
            simpa [hne] using q
        | non => simp [fIsi_non, t5]; simpa using q
        | bl i => simp [fIsi_bl, t9]; simpa using q
        | int i => simp [fIsi_int, t13]; simpa using q
        | str i => simp [fIsi_str, t17]; simpa using q
        | lst i => simp [fIsi_lst, t21]; simpa using q
        | _ => simp [pok] at hf
      · simp [fIsi_ref _ _ ha, t21]
        rw [vw_ref ha] at q
        simpa using q
  | _ => simp [pok] at hd
end T3
set_option autoImplicit false
namespace T3
open PySem PySem.Spec PyProof.Rows L2
/-! ### is_name, is_whole -/
def N_is_name : List Str := ["thing", "sign"]
def b_is_name : TS3 := sSeq (sIf (tOr3 (tNot3 (tV (e1 (fIsi "str") (eB 0)))) (tNot3 (tV (e3 fLe fLe (fz (eC (.int 1))) (fz (eN fLen (aCons (eB 0) (aNil)))) (fz (eC (.int 8))))))) (sSeq (sRet (eC (.bl false))) (sNil)) (sNil)) (sSeq (sRet (eN fAll (aCons (fz (eLc (iS (eV 0)) (.nm 1) (tYes3) (T3.e2 (fInA id) (eB 1) (fz (eC (.str "abcdefghijklmnopqrstuvwxyz")))) [1])) (aNil)))) (sNil))
def N_is_whole : List Str := ["thing"]
def b_is_whole : TS3 := sSeq (sRet (eAnd (e1 (fIsi "int") (eB 0)) (eNot (e1 (fIsi "bool") (eB 0))))) (sNil)
def isName : D → Bool
  | .str x => decide (1 ≤ x.length) && decide (x.length ≤ 8) && x.cps.toList.all fun c => decide (c ∈ letters.cps.toList)
  | _ => false
/-- what may be asked about -/
def thingOk : D → Bool
  | .str x => decide (x.length ≤ 1000) | d => pok d
theorem thing_pok {d : D} (h : thingOk d = true) : pok d = true := by
  cases d <;> first | rfl | exact h
theorem pok_own {d : D} (h : pok d = true) : own d = false := by cases d <;> first | rfl | simp [pok] at h
def sp_is_name : Sp3 := fun ds A Q _ => ∃ d, ds = [d] ∧ thingOk d = true ∧ Q (.bl (isName d)) A
theorem isName_str (x : Str) : isName (.str x) = (decide (1 ≤ x.length) && decide (x.length ≤ 8) && x.cps.toList.all fun c => decide (c ∈ letters.cps.toList)) := rfl
theorem isName_ok {x : Str} : isName (.str x) = true ↔ NameOk x := by
  rw [isName_str]
  simp only [Bool.and_eq_true, decide_eq_true_eq, List.all_eq_true]
  constructor
  · rintro ⟨⟨h1, h2⟩, h3⟩
    exact ⟨h1, h2, fun c hc => letters_mem.mp (h3 c hc)⟩
  · intro h
    exact ⟨⟨h.one, h.eight⟩, fun c hc => letters_mem.mpr (h.lets c hc)⟩
theorem signs_allF (x : Str) (g : Nat → Bool) : (signs x).map (fun d => frz (match d with | .str y => .bl (g (y.cps.getD 0 0)) | d => d)) = (x.cps.toList.map g).map .bl := by
  unfold signs
  rw [List.map_map, List.map_map]
  apply List.map_congr_left
  intro c _
  simp
theorem signs_short {x : Str} (h : x.length ≤ 1000) : ([] : List D).length + (signs x).length ≤ sizeLine := by
  rw [signs_length]
  have e : x.cps.size = x.length := rfl
  have := sizeLine_eq
  rw [e]; simp; omega
theorem not_str {d : D} (h : thingOk d = true) (hn : ∀ x, d ≠ .str x) : isName d = false ∧ ∀ A, fIsi "str" A d = some (.bl false) := by
  cases d <;> first | exact absurd rfl (hn _) | exact ⟨rfl, fun _ => rfl⟩ | simp [thingOk, pok] at h
theorem m_is_name (ds A Q) (h : sp_is_name ds A Q (fun _ _ _ => False)) : b_is_name { nx := fun _ A' => Q .non A', rt := Q } (start3 N_is_name ds) A := by
  obtain ⟨d, rfl, hd, q⟩ := h
  by_cases hs : ∃ x, d = .str x
  · obtain ⟨x, rfl⟩ := hs
    have hx : x.length ≤ 1000 := by simpa [thingOk] using hd
    have hl : lim x.length = true := lim_of (by omega)
    rw [isName_str] at q
    by_cases h1 : 1 ≤ x.length
    · have e1 : (1 : Int) ≤ x.length := by omega
      by_cases h2 : x.length ≤ 8
      · have e2 : (x.length : Int) ≤ 8 := by omega
        rw [decide_eq_true h1, decide_eq_true h2, Bool.true_and, Bool.true_and] at q
        simp [b_is_name, start3, N_is_name, fIsi_str, hl, e1, e2]
        refine lc_map (fun d => match d with | .str y => .bl (decide (y.cps.getD 0 0 ∈ letters.cps.toList)) | d => d) (signs x) [] (signs_short hx) (fun y hy => ?_) ?_
        · obtain ⟨c, hc, rfl⟩ := signs_mem hy
          refine ⟨_, rfl, fun R r => ?_⟩
          simp
          exact ⟨_, fIn_sign _ id c _, by simpa [letters] using r⟩
        · rw [List.nil_append, signs_allF x fun c => decide (c ∈ letters.cps.toList)]
          simp
          simp at q
          exact q
      · have e2 : ¬ (x.length : Int) ≤ 8 := by omega
        rw [decide_eq_false h2, Bool.and_false, Bool.false_and] at q
        simp [b_is_name, start3, N_is_name, fIsi_str, hl, e1, e2]
        exact q
    · have e1 : ¬ (1 : Int) ≤ x.length := by omega
      rw [decide_eq_false h1, Bool.false_and, Bool.false_and] at q
      simp [b_is_name, start3, N_is_name, fIsi_str, hl, e1]
      exact q
  · obtain ⟨e1, e2⟩ := not_str hd fun x e => hs ⟨x, e⟩
    rw [e1] at q
    simp only [b_is_name, start3, N_is_name]
    simp [frz_of (pok_own (thing_pok hd)), e2]
    exact q
def isWhole : D → Bool
  | .int _ => true | _ => false
def sp_is_whole : Sp3 := fun ds A Q _ => ∃ d, ds = [d] ∧ pok d = true ∧ Q (.bl (isWhole d)) A
theorem m_is_whole (ds A Q) (h : sp_is_whole ds A Q (fun _ _ _ => False)) : b_is_whole { nx := fun _ A' => Q .non A', rt := Q } (start3 N_is_whole ds) A := by
  obtain ⟨d, rfl, hd, q⟩ := h
  obtain ⟨t1, t2, t3, t4, t5, t6, t7, t8, t9, t10, t11, t12, t13, t14, t15, t16, t17, t18, t19, t20, t21, t22, t23, t24, t25⟩ := isT_ne
  cases d with
  | non => simp [b_is_whole, start3, N_is_whole, fIsi_non, t3]; exact q
  | bl b => simp [b_is_whole, start3, N_is_whole, fIsi_bl, t7]; exact q
  | int b => simp [b_is_whole, start3, N_is_whole, fIsi_int, t10]; exact q
  | str b => simp [b_is_whole, start3, N_is_whole, fIsi_str, t15]; exact q
  | tup b => simp [b_is_whole, start3, N_is_whole, fIsi_tup, t24]; exact q
  | lst b => simp [b_is_whole, start3, N_is_whole, fIsi_lst, t20]; exact q
  | _ => simp [pok] at hd
theorem mkD_nodup : ∀ {ps acc : List (D × D)}, ((acc ++ ps).map (·.1)).Nodup → ps.foldl (fun acc p => dput acc p.1 p.2) acc = acc ++ ps
  | [], acc, _ => by simp
  | (k, d) :: r, acc, h => by
    have hk : k ∉ acc.map (·.1) := fun hm => by
      rw [List.map_append, List.nodup_append] at h
      exact h.2.2 k hm k (by simp) rfl
    rw [List.foldl_cons, dput_new hk, mkD_nodup (by simpa using h)]
    simp
theorem House.dict {h : House} (ok : h.Ok) : ∃ ps, pairsOf (h.people.map fun p => .tup [.str p.1, .int p.2]) = some ps ∧ mkD ps = ledD .int h.people := by
  refine ⟨ledD .int h.people, ?_, ?_⟩
  · have : ∀ l : List (Str × Int), pairsOf (l.map fun p => D.tup [.str p.1, .int p.2]) = some (ledD .int l) := by
      intro l
      induction l with
      | nil => rfl
      | cons a l ih => rw [List.map_cons, pairsOf, if_pos (kfit_str _), ih]; rfl
    exact this _
  · have hn : ((ledD D.int h.people).map (·.1)).Nodup := by
      rw [ledD_keys]
      exact List.pairwise_map.mpr ((nodup_of_lt ok.pr).imp fun {a b} h e => h (D.str.inj e))
    exact mkD_nodup (acc := []) hn
end T3
set_option autoImplicit false
namespace T3
open PySem PySem.Spec PyProof.Rows L2
def N_sameA : List Str := ["_law_found", "_law_due", "_law_one", "_law_other"]
def b_sameA (self : Sp3) : TS3 := sSeq (sIf (tV (T3.e2 fIsN (eB 1) (fz (eC .non)))) (sSeq (sRet (T3.e2 fIsN (eB 0) (fz (eC .non)))) (sNil)) (sNil)) (sSeq (sIf (tV (T3.e1 (fIsi "str") (eB 1))) (sSeq (sRet (eAnd (T3.e1 (fIsi "str") (eB 0)) (T3.e2 fEq (eB 0) (eB 1)))) (sNil)) (sNil)) (sSeq (sIf (tV (T3.e1 (fIsi "int") (eB 1))) (sSeq (sRet (eAnd (T3.e1 (fIsi "int") (eB 0)) (eAnd (eNot (T3.e1 (fIsi "bool") (eB 0))) (T3.e2 fEq (eB 0) (eB 1))))) (sNil)) (sNil)) (sSeq (sIf (tAnd3 (tV (T3.e1 (fIsi "list") (eB 1))) (tNot3 (tV (T3.e1 (fIsi "list") (eB 0))))) (sSeq (sRet (eC (.bl false))) (sNil)) (sNil)) (sSeq (sIf (tAnd3 (tV (T3.e1 (fIsi "tuple") (eB 1))) (tNot3 (tV (T3.e1 (fIsi "tuple") (eB 0))))) (sSeq (sRet (eC (.bl false))) (sNil)) (sNil)) (sSeq (sIf (tV (T3.e2 fNe (fz (eN fLen (aCons (eB 0) (aNil)))) (fz (eN fLen (aCons (eB 1) (aNil)))))) (sSeq (sRet (eC (.bl false))) (sNil)) (sNil)) (sSeq (sFor (iZp (aCons (fz (eV 0)) (aCons (fz (eV 1)) (aNil)))) (.tp [2, 3]) (sSeq (sIf (tNot3 (tV (eCall self [] (aCons (fz (eV 2)) (aCons (fz (eV 3)) (aNil)))))) (sSeq (sRet (eC (.bl false))) (sNil)) (sNil)) (sNil))) (sSeq (sRet (eC (.bl true))) (sNil))))))))
def sp_sameA : Nat → Sp3
  | 0 => fun _ _ _ _ => False
  | n + 1 => fun ds A Q _ => ∃ f d, ds = [f, d] ∧ FOk A f ∧ nb d = true ∧ dep d ≤ n ∧ n ≤ 40 ∧ Q (.bl (decide (vw A f = d))) A
theorem never_sameA (ds A Q E) : ¬ sp_sameA 0 ds A Q E := fun h => h
theorem l_sameA (n : Nat) (ds A Q E) (h : sp_sameA (n + 1) ds A Q E) : ds.length = (["_law_found", "_law_due"] : List Str).length := by obtain ⟨f, d, rfl, _⟩ := h; rfl
theorem pok_own' {d : D} (h : pok d = true) : own d = false := by cases d <;> first | rfl | simp [pok] at h
/-- the walk over two rows of one length -/
theorem sameA_walk {n : Nat} {E : Ends3} {ws : Ws} {A : AH} {f d : D} : ∀ (xs ys : List D) (o2 o3 : Option D), xs.length = ys.length → poks xs = true → nbs ys = true → deps ys ≤ n → n ≤ 40 → Held A ws →
    (xs = ys → ∀ o2 o3, E.nx [some f, some d, o2, o3] A) → (xs ≠ ys → E.rt (.bl false) A) →
    forW (.tp [2, 3]) (sSeq (sIf (tNot3 (tV (eCall (sp_sameA (n + 1)) [] (aCons (fz (eV 2)) (aCons (fz (eV 3)) (aNil)))))) (sSeq (sRet (eC (.bl false))) (sNil)) (sNil)) (sNil)) E ws (List.zipWith pairD xs ys) [some f, some d, o2, o3] A
  | [], [], o2, o3, _, _, _, _, _, hw, q1, _ => ⟨hw, q1 rfl _ _⟩
  | [], _ :: _, _, _, h, _, _, _, _, _, _, _ => by simp at h
  | _ :: _, [], _, _, h, _, _, _, _, _, _, _ => by simp at h
  | x :: xs, y :: ys, o2, o3, h, hx, hy, hd, hn, hw, q1, q2 => by
    simp only [poks, Bool.and_eq_true] at hx
    simp only [nbs, Bool.and_eq_true] at hy
    have ox : own x = false := by cases x <;> first | rfl | simp [pok] at hx
    have oy : own y = false := pok_own' (nb_pok _ hy.1)
    have hd2 : dep y ≤ n ∧ deps ys ≤ n := by rw [deps] at hd; omega
    rw [List.zipWith_cons_cons, for_cons]
    refine ⟨hw, _, rfl, ?_⟩
    simp [ox, oy, frz_of ox, frz_of oy]
    refine ⟨x, y, rfl, .inl hx.1, hy.1, hd2.1, hn, ?_⟩
    rw [vw_pok hx.1]
    by_cases e : x = y
    · simp [e]
      exact sameA_walk xs ys _ _ (by simpa using h) hx.2 hy.2 hd2.2 hn hw (fun z o2 o3 => q1 (by rw [e, z]) o2 o3) fun z => q2 fun w => z (List.cons.inj w).2
    · simp [e]
      exact q2 fun w => e (List.cons.inj w).1
theorem m_sameA (n : Nat) (ds A Q) (h : sp_sameA (n + 1) ds A Q (fun _ _ _ => False)) : b_sameA (sp_sameA n) { nx := fun _ A' => Q .non A', rt := Q } (start3 N_sameA ds) A := by
  obtain ⟨f, d, rfl, hf, hd0, hdep, hn, q⟩ := h
  have hd := nb_pok _ hd0
  obtain ⟨t1, t2, t3, t4, t5, t6, t7, t8, t9, t10, t11, t12, t13, t14, t15, t16, t17, t18, t19, t20, t21, t22, t23, t24, t25⟩ := isT_ne
  have tl := isT_self "list"
  have od : own d = false := by cases d <;> first | rfl | simp [pok] at hd
  have of : own f = false := by
    rcases hf with hf | ⟨a, xs, rfl, _⟩
    · cases f <;> first | rfl | simp [pok] at hf
    · rfl
  have ff := frz_of of
  have fd := frz_of od
  cases d with
  | non =>
    simp [b_sameA, start3, N_sameA, ff]
    have e : (f = .non) ↔ vw A f = .non := by
      rcases hf with hf | ⟨a, xs, rfl, ha, _⟩
      · rw [vw_pok hf]
      · simp [vw, ha]
    rw [show decide (f = D.non) = decide (vw A f = D.non) from decide_eq_decide.mpr e]
    exact q
  | bl b => simp [nb] at hd0
  | str x =>
    simp [b_sameA, start3, N_sameA, ff, fIsi_str, t14]
    rcases hf with hf | ⟨a, xs, rfl, ha, _⟩
    · rw [vw_pok hf] at q
      cases f with
      | str i => simp [fIsi_str]; simpa using q
      | non => simp [fIsi_non, t2]; simpa using q
      | bl i => simp [fIsi_bl, t6]; simpa using q
      | int i => simp [fIsi_int, t11]; simpa using q
      | tup i => simp [fIsi_tup, t23]; simpa using q
      | lst i => simp [fIsi_lst, t19]; simpa using q
      | _ => simp [pok] at hf
    · simp [fIsi_ref _ _ ha, t19]
      rw [vw_ref ha] at q
      simpa using q
  | int j =>
    simp [b_sameA, start3, N_sameA, ff, fIsi_int, t10, t11]
    rcases hf with hf | ⟨a, xs, rfl, ha, _⟩
    · rw [vw_pok hf] at q
      cases f with
      | int i => simp [fIsi_int, t10]; simpa using q
      | non => simp [fIsi_non, t3]; simpa using q
      | bl i => simp [fIsi_bl, t7]; simpa using q
      | str i => simp [fIsi_str, t15]; simpa using q
      | tup i => simp [fIsi_tup, t24]; simpa using q
      | lst i => simp [fIsi_lst, t20]; simpa using q
      | _ => simp [pok] at hf
    · simp [fIsi_ref _ _ ha, t20]
      rw [vw_ref ha] at q
      simpa using q
  | lst ys =>
    cases n with
    | zero => simp [dep] at hdep
    | succ n =>
      rw [dep] at hdep
      rw [pok] at hd
      rw [nb] at hd0
      simp [b_sameA, start3, N_sameA, ff, fIsi_lst, t18, t19, t20, t21]
      have go : ∀ (ws : Ws) (xs : List D), Held A ws → poks xs = true → vw A f = .lst xs → xs.length = ys.length → forW (.tp [2, 3]) (sSeq (sIf (tNot3 (tV (eCall (sp_sameA (n + 1)) [] (aCons (fz (eV 2)) (aCons (fz (eV 3)) (aNil)))))) (sSeq (sRet (eC (.bl false))) (sNil)) (sNil)) (sNil)) { nx := sSeq (sRet (eC (.bl true))) sNil { nx := fun _ A' => Q .non A', rt := Q }, rt := Q } ws (List.zipWith pairD xs ys) [some f, some (.lst ys), none, none] A := fun ws xs hw hx ev hl => by
        rw [ev] at q
        refine sameA_walk xs ys none none hl hx hd0 (by omega) (by omega) hw (fun e _ _ => ?_) fun e => ?_
        · simp; simpa [e] using q
        · simpa [e] using q
      rcases hf with hf | ⟨a, xs, rfl, ha, hx⟩
      · rw [vw_pok hf] at q
        cases f with
        | lst xs =>
          rw [pok] at hf
          by_cases hl : xs.length = ys.length
          · simp [fIsi_lst, t21, hl]
            exact go [] xs (by rw [held_nil]; trivial) hf rfl hl
          · have hne : ¬ xs = ys := fun e => hl (by rw [e])
            have hl' : ¬ ((xs.length : Int) = ys.length) := by omega
            simp [fIsi_lst, t21, hl']
            simpa [hne] using q
        | non => simp [fIsi_non, t4]; simpa using q
        | bl i => simp [fIsi_bl, t8]; simpa using q
        | int i => simp [fIsi_int, t12]; simpa using q
        | str i => simp [fIsi_str, t16]; simpa using q
        | tup i => simp [fIsi_tup, t25]; simpa using q
        | _ => simp [pok] at hf
      · have q' := q
        rw [vw_ref ha] at q'
        by_cases hl : xs.length = ys.length
        · simp [fIsi_ref _ _ ha, t21, fLen_ref ha, hl, zipI_ref _ _ _ ha]
          exact go [(a, xs)] xs (by simp [ha]) hx (vw_ref ha) hl
        · have hne : ¬ xs = ys := fun e => hl (by rw [e])
          have hl' : ¬ ((xs.length : Int) = ys.length) := by omega
          simp [fIsi_ref _ _ ha, t21, fLen_ref ha, hl']
          simpa [hne] using q'
  | tup ys =>
    cases n with
    | zero => simp [dep] at hdep
    | succ n =>
      rw [dep] at hdep
      rw [pok] at hd
      rw [nb] at hd0
      simp [b_sameA, start3, N_sameA, ff, fIsi_tup, t22, t23, t24, t25]
      rcases hf with hf | ⟨a, xs, rfl, ha, hx⟩
      · rw [vw_pok hf] at q
        cases f with
        | tup xs =>
          rw [pok] at hf
          by_cases hl : xs.length = ys.length
          · simp [fIsi_tup, hl]
            refine sameA_walk xs ys none none hl hf hd0 (by omega) (by omega) (by rw [held_nil]; trivial) (fun e _ _ => ?_) fun e => ?_
            · simp; simpa [e] using q
            · simpa [e] using q
          · have hne : ¬ xs = ys := fun e => hl (by rw [e])
            have hl' : ¬ ((xs.length : Int) = ys.length) := by omega
            simp [fIsi_tup, hl']
            simpa [hne] using q
        | non => simp [fIsi_non, t5]; simpa using q
        | bl i => simp [fIsi_bl, t9]; simpa using q
        | int i => simp [fIsi_int, t13]; simpa using q
        | str i => simp [fIsi_str, t17]; simpa using q
        | lst i => simp [fIsi_lst, t21]; simpa using q
        | _ => simp [pok] at hf
      · simp [fIsi_ref _ _ ha, t21]
        rw [vw_ref ha] at q
        simpa using q
  | _ => simp [pok] at hd
end T3
set_option autoImplicit false
namespace T3
open PySem PySem.Spec PyProof.Rows L2
def isL (c : Nat) : Bool := decide (97 ≤ c) && decide (c ≤ 122)
/-- the letters from a place on -/
def runAt (x : Str) (i : Nat) : Str := ⟨((x.cps.toList.drop i).takeWhile isL).toArray⟩
/-- the name stands somewhere behind an @ and ahead of no letter -/
def calledIn (x : Str) (p : Str) : Bool := (List.range x.length).any fun j => decide (x.cps.toList[j]? = some 64) && decide (runAt x (j + 1) = p)
def sp_letters_at : Sp3 := fun ds A Q _ => ∃ (x : Str) (i : Nat), ds = [.str x, .int i] ∧ i ≤ x.length ∧ x.length ≤ 1000 ∧ Q (.str (runAt x i)) A
def sp_names_in : Sp3 := fun ds A Q _ => ∃ (x : Str) (ps : List Str), (ds = [.str x, .lst (ps.map .str)] ∨ ds = [.str x, .tup (ps.map .str)]) ∧ x.length ≤ 1000 ∧ ps.length ≤ 1000 ∧ Q (.ml (sortD ((setS (ps.filter (calledIn x))).map D.str))) A
def sp_saying : Sp3 := fun ds A Q _ => ∃ (c : Int) (ws : List Str), ds = [.int c, .lst (ws.map .str)] ∧ 1 ≤ ws.length ∧ ws.length ≤ 6 ∧ (∀ x ∈ ws, NameOk x) ∧ ∀ x : Str, x.length ≤ 60 → Q (.str x) A
def sp_named : Sp3 := fun ds A Q _ => ∃ (x p : Str), ds = [.str x, .str p] ∧ x.length ≤ 1000 ∧ NameOk p ∧ Q (.bl (calledIn x p)) A
def sp_law : Sp3 := fun ds A Q _ => ∃ ns, ds = [script ns] ∧ ns.length ≤ 63 ∧ ∀ A, Q (.bl true) A
theorem law_true {ns : List Int} (hl : ns.length ≤ 63) {Q : D → AH → Prop} (hq : ∀ A, Q (.bl true) A) : sp_law [script ns] (fun _ => none) Q fun _ _ _ => False := ⟨ns, rfl, hl, hq⟩
/-- letters_at(saying, at); slots 0:saying 1:at 2:end -/
def N_letters_at : List Str := ["saying", "at", "end"]
def b_letters_at : TS3 := sSeq (sSet 2 (eV 1)) (sSeq (sWhile (tAnd3 (tV (T3.e2 fLt (eB 2) (fz (eN fLen (aCons (eB 0) (aNil)))))) (tV (T3.e2 (fInA id) (fz (T3.e2 fIxA (eB 0) (eB 2))) (fz (eC (.str "abcdefghijklmnopqrstuvwxyz")))))) (sSeq (sAug 2 (fun i j => i + j) (eC (.int 1))) (sNil))) (sSeq (sRet (eSl (eB 0) (oAt (eV 1)) (oAt (eV 2)))) (sNil)))
/-- names_in(saying, people); slots 0:saying 1:people 2:called 3:at 4:sign 5:name -/
def N_names_in : List Str := ["saying", "people", "called", "at", "sign", "name"]
def b_names_in : TS3 := sSeq (sSet 2 (eDNew)) (sSeq (sFor (iEnS (aCons (fz (eV 0)) (aNil))) (.tp [3, 4]) (sSeq (sIf (tV (T3.e2 fEq (eB 4) (fz (eC (.str "@"))))) (sSeq (sPut 2 gDSet (eCall sp_letters_at [] (aCons (fz (eV 0)) (aCons (fz (T3.e2 fAdd (eB 3) (fz (eC (.int 1))))) (aNil)))) (eC (.bl true))) (sNil)) (sNil)) (sNil))) (sSeq (sRet (eN fSortSet (aCons (fz (eLc (iS (eV 1)) (.nm 5) (tV (T3.e2 (fInA id) (eB 5) (eB 2))) (eV 5) [5])) (aNil)))) (sNil)))
/-- saying(cell, words_here); slots 0:cell 1:words_here 2:pieces 3:saying_here 4:rest 5:k 6:word -/
def N_saying : List Str := ["_law_cell", "_law_words_here", "_law_pieces", "_law_saying_here", "_law_rest", "_law_k", "_law_word"]
def b_saying : TS3 := sSeq (sSet 2 (fz (T3.e2 fAdd (fz (T3.e2 fAdd (fz (T3.e2 fAdd (fz (eLst (aCons (fz (eC (.str "@"))) (aCons (fz (eC (.str "@"))) (aNil))))) (eB 1))) (fz (eLc (iS (eV 1)) (.nm 6) (tYes3) (eSl (eB 6) (oNo) (oAt (T3.e1 fNeg (fz (eC (.int 1)))))) [6])))) (fz (eLst (aCons (fz (eC (.str "a"))) (aCons (fz (eC (.str "z"))) (aCons (fz (eC (.str " "))) (aCons (fz (eC (.str ","))) (aCons (fz (eC (.str "7"))) (aCons (fz (eC (.str "A"))) (aCons (fz (eC (.str "@@"))) (aCons (fz (eC (.str "."))) (aNil)))))))))))))) (sSeq (sSet 3 (eC (.str "x"))) (sSeq (sSet 4 (eV 0)) (sSeq (sIf (tV (T3.e2 fEq (fz (T3.e2 fMod (eB 0) (fz (eC (.int 3))))) (fz (eC (.int 0))))) (sSeq (sSet 3 (eC (.str "@"))) (sNil)) (sNil)) (sSeq (sSet 4 (T3.e2 fFdiv (eB 4) (fz (eC (.int 3))))) (sSeq (sFor (iR1 (aCons (fz (eC (.int 60))) (aNil))) (.nm 5) (sSeq (sSet 3 (fz (T3.e2 fAdd (eB 3) (fz (T3.e2 fIxA (eB 2) (fz (T3.e2 fMod (eB 4) (fz (eN fLen (aCons (eB 2) (aNil))))))))))) (sSeq (sSet 4 (T3.e2 fFdiv (eB 4) (fz (eN fLen (aCons (eB 2) (aNil)))))) (sSeq (sIf (tV (T3.e2 fEq (eB 4) (fz (eC (.int 0))))) (sSeq (sRet (eSl (eB 3) (oNo) (oAt (eC (.int 60))))) (sNil)) (sNil)) (sNil))))) (sSeq (sRet (eSl (eB 3) (oNo) (oAt (eC (.int 60))))) (sNil)))))))
/-- named(saying_here, name); slots 0:saying_here 1:name 2:at 3:end -/
def N_named : List Str := ["_law_saying_here", "_law_name", "_law_at", "_law_end"]
def b_named : TS3 := sSeq (sFor (iR1 (aCons (fz (eN fLen (aCons (eB 0) (aNil)))) (aNil))) (.nm 2) (sSeq (sSet 3 (fz (T3.e2 fAdd (fz (T3.e2 fAdd (eB 2) (fz (eC (.int 1))))) (fz (eN fLen (aCons (eB 1) (aNil))))))) (sSeq (sIf (tAnd3 (tV (T3.e2 fEq (fz (T3.e2 fIxA (eB 0) (eB 2))) (fz (eC (.str "@"))))) (tV (T3.e2 fEq (fz (eSl (eB 0) (oAt (T3.e2 fAdd (eB 2) (fz (eC (.int 1))))) (oAt (eV 3)))) (eB 1)))) (sSeq (sIf (tOr3 (tV (T3.e2 fGe (eB 3) (fz (eN fLen (aCons (eB 0) (aNil)))))) (tNot3 (tV (e3 fLe fLe (fz (eC (.str "a"))) (fz (T3.e2 fIxA (eB 0) (eB 3))) (fz (eC (.str "z"))))))) (sSeq (sRet (eC (.bl true))) (sNil)) (sNil)) (sNil)) (sNil)) (sNil)))) (sSeq (sRet (eC (.bl false))) (sNil))
/-- law(script); slots 0:script 1:words_here 2:people 3:cell 4:saying_here 5:due 6:handed 7:told 8:name -/
def N_law : List Str := ["_law_script", "_law_words_here", "_law_people", "_law_cell", "_law_saying_here", "_law_due", "_law_handed", "_law_told", "_law_name"]
def b_law : TS3 := sSeq (sSet 1 (fz (eSl (fz (eCall sp_words [] (aCons (fz (eCall sp_cell_at [] (aCons (fz (eV 0)) (aCons (fz (eC (.int 0))) (aNil))))) (aCons (fz (eC (.int 6))) (aNil))))) (oNo) (oAt (T3.e2 fAdd (fz (eC (.int 1))) (fz (T3.e2 fMod (fz (eCall sp_cell_at [] (aCons (fz (eV 0)) (aCons (fz (eC (.int 1))) (aNil))))) (fz (eC (.int 6)))))))))) (sSeq (sSet 2 (fz (eN fListA (aCons (eB 1) (aNil))))) (sSeq (sIf (tV (T3.e2 fEq (fz (T3.e2 fMod (fz (T3.e2 fFdiv (fz (eCall sp_cell_at [] (aCons (fz (eV 0)) (aCons (fz (eC (.int 1))) (aNil))))) (fz (eC (.int 6))))) (fz (eC (.int 3))))) (fz (eC (.int 1))))) (sSeq (sSet 2 (fz (T3.e2 fAdd (fz (T3.e1 fRevL (eB 2))) (fz (eSl (eB 2) (oNo) (oAt (eC (.int 1)))))))) (sNil)) (sNil)) (sSeq (sFor (iS (T3.e2 fAdd (fz (eSl (eB 0) (oAt (eC (.int 2))) (oAt (eC (.int 62))))) (fz (eLst (aCons (fz (T3.e2 fAdd (fz (T3.e2 fMul (fz (eCall sp_cell_at [] (aCons (fz (eV 0)) (aCons (fz (eC (.int 0))) (aNil))))) (fz (eC (.int 7))))) (fz (eC (.int 1))))) (aNil)))))) (.nm 3) (sSeq (sSet 4 (fz (eCall sp_saying [] (aCons (fz (eV 3)) (aCons (fz (eV 1)) (aNil)))))) (sSeq (sSet 5 (fz (eN fSorted (aCons (fz (eLc (iS (eV 1)) (.nm 8) (tV (eCall sp_named [] (aCons (fz (eV 4)) (aCons (fz (eV 8)) (aNil))))) (eV 8) [8])) (aNil))))) (sSeq (sFor (iS (eLst (aCons (fz (eV 2)) (aCons (fz (eN fTuple (aCons (eB 2) (aNil)))) (aNil))))) (.nm 6) (sSeq (sSetR 7 (eCall sp_names_in [] (aCons (fz (eV 4)) (aCons (fz (eV 6)) (aNil))))) (sSeq (sIf (tNot3 (tV (eCall (sp_sameA 4) [] (aCons (fz (eV 7)) (aCons (fz (eV 5)) (aNil)))))) (sSeq (sRet (eC (.bl false))) (sNil)) (sNil)) (sSeq (sDrop (eMR okL gAppend (eV 7) (aCons (fz (eC (.str "x"))) (aNil)))) (sSeq (sIf (tNot3 (tV (eCall (sp_sameA 4) [] (aCons (fz (eCall sp_names_in [] (aCons (fz (eV 4)) (aCons (fz (eV 6)) (aNil))))) (aCons (fz (eV 5)) (aNil)))))) (sSeq (sRet (eC (.bl false))) (sNil)) (sNil)) (sNil)))))) (sNil))))) (sSeq (sIf (tOr3 (tV (T3.e2 fNe (fz (eCall sp_names_in [] (aCons (fz (T3.e2 fAdd (fz (eC (.str "hi @"))) (fz (T3.e2 fIxA (eB 1) (fz (eC (.int 0))))))) (aCons (fz (eLst (aNil))) (aNil))))) (fz (eLst (aNil))))) (tV (T3.e2 fNe (fz (eCall sp_names_in [] (aCons (fz (T3.e2 fAdd (fz (eC (.str "hi @"))) (fz (T3.e2 fIxA (eB 1) (fz (eC (.int 0))))))) (aCons (fz (eTup (aNil))) (aNil))))) (fz (eLst (aNil)))))) (sSeq (sRet (eC (.bl false))) (sNil)) (sNil)) (sSeq (sRet (eOr (T3.e2 fEq (eB 2) (fz (eN fListA (aCons (eB 1) (aNil))))) (T3.e2 fEq (eB 2) (fz (T3.e2 fAdd (fz (T3.e1 fRevL (fz (eN fListA (aCons (eB 1) (aNil)))))) (fz (eSl (fz (eN fListA (aCons (eB 1) (aNil)))) (oNo) (oAt (eC (.int 1)))))))))) (sNil))))))
theorem l_names_in (ds A Q E) (h : sp_names_in ds A Q E) : ds.length = (["saying", "people"] : List Str).length := by
  obtain ⟨_, _, h | h, _⟩ := h <;> (subst h; rfl)
theorem while_inv {c : TT3} {tb : TS3} {E : Ends3} {z : S3} {A : AH} (I : Nat → S3 → AH → Prop) (n0 : Nat) (h0 : I n0 z A)
    (step : ∀ n z A, I n z A → ∀ K : S3 → AH → Prop, (∀ n', n' < n → ∀ z A, I n' z A → K z A) → c z A fun b A1 => if b = true then tb { E with nx := K, ct := K, bk := E.nx } z A1 else E.nx z A1) : sWhile c tb E z A :=
  ⟨I, ⟨n0, h0⟩, fun n z A h => step n z A h _ fun n' hn z A hI => ⟨n', hn, hI⟩⟩
end T3
set_option autoImplicit false
namespace T3
open PySem PySem.Spec PyProof.Rows L2
theorem take_run {l : List Nat} : ∀ {i e : Nat}, i ≤ e → e ≤ l.length → (∀ j, i ≤ j → j < e → ∃ c, l[j]? = some c ∧ isL c = true) → (e = l.length ∨ ∃ c, l[e]? = some c ∧ isL c = false) → (l.drop i).take (e - i) = (l.drop i).takeWhile isL := by
  intro i e hie hel hin hend
  obtain ⟨n, rfl⟩ : ∃ n, e = i + n := ⟨e - i, by omega⟩
  rw [Nat.add_sub_cancel_left]
  clear hie
  induction n generalizing i with
  | zero =>
    rw [List.take_zero]
    rcases hend with h | ⟨c, hc, hl⟩
    · rw [List.drop_of_length_le (by omega)]; rfl
    · have hlt := (List.getElem?_eq_some_iff.mp hc).1
      rw [Nat.add_zero] at hlt hc
      rw [List.drop_eq_getElem_cons hlt, List.takeWhile_cons, if_neg]
      have : l[i] = c := (List.getElem?_eq_some_iff.mp hc).2
      rw [this, hl]; simp
  | succ n ih =>
    obtain ⟨c, hc, hl⟩ := hin i (Nat.le_refl _) (by omega)
    have hlt := (List.getElem?_eq_some_iff.mp hc).1
    have e1 : l[i] = c := (List.getElem?_eq_some_iff.mp hc).2
    rw [List.drop_eq_getElem_cons hlt, List.take_succ_cons, List.takeWhile_cons, if_pos (by rw [e1]; exact hl)]
    have := ih (i := i + 1) (by omega) (fun j h1 h2 => hin j (by omega) (by omega)) (by rw [show i + 1 + n = i + (n + 1) by omega]; exact hend)
    rw [this]
theorem cut_nat {x : Str} {i e : Nat} (hie : i ≤ e) (he : e ≤ x.length) : cutS x (some (i : Int)) (some (e : Int)) = ⟨((x.cps.toList.drop i).take (e - i)).toArray⟩ := by
  unfold cutS
  rw [HT.sIx_nat, HT.sIx_nat, Nat.min_eq_left he, Nat.min_eq_left (Nat.le_trans hie he)]
theorem m_letters_at (ds A Q) (h : sp_letters_at ds A Q (fun _ _ _ => False)) : b_letters_at { nx := fun _ A' => Q .non A', rt := Q } (start3 N_letters_at ds) A := by
  obtain ⟨x, i, rfl, hi, hx, q⟩ := h
  have hl : lim x.length = true := lim_of (by omega)
  have hxl : x.cps.toList.length = x.length := by simp [Str.length]
  simp [b_letters_at, start3, N_letters_at]
  refine while_inv (fun n z A' => A' = A ∧ ∃ e : Nat, n = x.length - e ∧ i ≤ e ∧ e ≤ x.length ∧ (∀ j, i ≤ j → j < e → ∃ c, x.cps.toList[j]? = some c ∧ isL c = true) ∧ z = [some (.str x), some (.int i), some (.int e)]) (x.length - i)
    ⟨rfl, i, rfl, Nat.le_refl _, hi, fun j h1 h2 => by omega, rfl⟩ ?_
  rintro n z A1 ⟨rfl, e, rfl, h1, h2, h3, rfl⟩ K hK
  have fin : (e = x.length ∨ ∃ c, x.cps.toList[e]? = some c ∧ isL c = false) → cutS x (some (i : Int)) (some (e : Int)) = runAt x i := fun h => by
    rw [cut_nat h1 h2]
    unfold runAt
    rw [take_run h1 (by omega) h3 (by rw [hxl]; exact h)]
  by_cases hlt : e < x.length
  · have hlt' : (e : Int) < x.length := by omega
    obtain ⟨c, hc⟩ : ∃ c, x.cps.toList[e]? = some c := ⟨_, List.getElem?_eq_getElem (by omega)⟩
    have hat : L2.atI x.cps.toList (e : Int) = some c := by
      rw [atI_nat _ _ (by omega)]
      rw [List.getElem?_eq_getElem (by omega)] at hc
      exact hc
    have hm : decide (c ∈ letters.cps.toList) = isL c := by
      unfold isL
      rw [Bool.eq_iff_iff, decide_eq_true_iff, letters_mem, Bool.and_eq_true, decide_eq_true_iff, decide_eq_true_iff]
    simp [hl, hlt', hat]
    refine ⟨_, fIn_sign _ id c _, ?_⟩
    simp only [id]
    rw [show ("abcdefghijklmnopqrstuvwxyz" : Str) = letters from rfl, hm]
    cases hL : isL c with
    | true =>
      simp
      exact hK _ (by omega) _ _ ⟨rfl, e + 1, rfl, by omega, by omega, fun j a b => by
        by_cases hj : j = e
        · subst hj; exact ⟨c, hc, hL⟩
        · exact h3 j a (by omega), by simp⟩
    | false =>
      simp [hl, fin (.inr ⟨c, hc, hL⟩)]
      exact q
  · have hlt' : ¬ (e : Int) < x.length := by omega
    simp [hl, hlt', fin (.inl (by omega))]
    exact q
end T3
set_option autoImplicit false
namespace T3
open PySem PySem.Spec PyProof.Rows L2
def calledTo (x : Str) (n : Nat) (p : Str) : Bool := (List.range n).any fun j => decide (x.cps.toList[j]? = some 64) && decide (runAt x (j + 1) = p)
theorem calledTo_next (x : Str) (n : Nat) (p : Str) : calledTo x (n + 1) p = (calledTo x n p || (decide (x.cps.toList[n]? = some 64) && decide (runAt x (n + 1) = p))) := by
  unfold calledTo
  rw [List.range_succ, List.any_append]
  simp
theorem sign_at (c : Nat) : ((⟨#[c]⟩ : Str) = "@") ↔ c = 64 := by
  constructor
  · intro h
    have := congrArg (fun x : Str => x.cps.toList) h
    have e : ("@" : Str).cps.toList = [64] := by decide +kernel
    simp only at this
    rw [e] at this
    simpa using this
  · rintro rfl; rfl
theorem m_names_in (ds A Q) (h : sp_names_in ds A Q (fun _ _ _ => False)) : b_names_in { nx := fun _ A' => Q .non A', rt := Q } (start3 N_names_in ds) A := by
  obtain ⟨x, ps, hd, hx, hps, q⟩ := h
  obtain ⟨d, rfl, ho, hf, hit⟩ : ∃ d, ds = [.str x, d] ∧ own d = false ∧ frz d = d ∧ ∀ A, itemsW A d = some (ps.map .str, []) := by
    rcases hd with rfl | rfl
    · exact ⟨_, rfl, rfl, rfl, fun _ => rfl⟩
    · exact ⟨_, rfl, rfl, rfl, fun _ => rfl⟩
  have hxl : x.cps.toList.length = x.length := by simp [Str.length]
  simp [b_names_in, start3, N_names_in]
  refine for_inv (fun i z A' => A' = A ∧ ∃ kvs o3 o4, kvs.length ≤ i ∧ (∀ p, (dget kvs (.str p)).isSome = calledTo x i p) ∧ z = [some (.str x), some d, some (.md kvs), o3, o4, none]) ⟨rfl, [], none, none, Nat.le_refl _, fun p => rfl, rfl⟩ ?_ ?_
  · rintro i y hy z A1 ⟨rfl, kvs, o3, o4, hl, hk, rfl⟩
    obtain ⟨s, hs, rfl⟩ := enum_get hy
    obtain ⟨c, hc, rfl⟩ : ∃ c, x.cps.toList[i]? = some c ∧ s = .str ⟨#[c]⟩ := by
      unfold signs at hs
      rw [List.getElem?_map] at hs
      cases hc : x.cps.toList[i]? with
      | none => rw [hc] at hs; cases hs
      | some c => rw [hc] at hs; cases hs; exact ⟨c, rfl, rfl⟩
    have hi : i < x.length := by rw [← hxl]; exact (List.getElem?_eq_some_iff.mp hc).1
    have hz : kvs.length < sizeLine := by have := line_of (n := 2000) (by omega); omega
    refine ⟨_, rfl, fun E' hr hb hn hcc => ?_⟩
    by_cases h64 : c = 64
    · have e : ((⟨#[c]⟩ : Str) = "@") := (sign_at c).mpr h64
      simp [e, hz]
      refine ⟨x, i + 1, by simp, hi, hx, ?_⟩
      simp [hz]
      refine hn _ _ ⟨rfl, _, _, _, Nat.le_trans dput_length (Nat.succ_le_succ hl), fun p => ?_, rfl⟩
      rw [calledTo_next, hc, h64]
      by_cases hp : runAt x (i + 1) = p
      · subst hp
        rw [dget_put_same]; simp
      · rw [dget_put_ne (fun z => hp (D.str.inj z).symm), hk p]
        simp [hp]
    · have e : ¬ ((⟨#[c]⟩ : Str) = "@") := fun z => h64 ((sign_at c).mp z)
      simp [e]
      refine hn _ _ ⟨rfl, kvs, _, _, by omega, fun p => ?_, rfl⟩
      rw [hk p, calledTo_next, hc]
      simp [h64]
  · rintro z A1 ⟨rfl, kvs, o3, o4, hl, hk, rfl⟩
    have hlen : (enumD 0 (signs x)).length = x.length := by rw [enum_length]; unfold signs; rw [List.length_map, hxl]
    rw [hlen] at hk
    simp [ho, hf, hit]
    refine lc_filter (fun d => match d with | .str p => calledIn x p | _ => false) id (ps.map D.str) [] (by have := line_of (n := 2000) (by omega); simp; omega) (fun y hy => ?_) ?_
    · obtain ⟨p, _, rfl⟩ := List.mem_map.mp hy
      refine ⟨_, rfl, fun R r => ?_, fun _ R r => ?_⟩
      · have r' : R (calledIn x p) A1 := r
        have e : calledTo x x.length p = calledIn x p := rfl
        simp [hk p, e]
        cases hc : calledIn x p <;> rw [hc] at r' <;> simp [r']
      · simp
        exact r
    · have e : ((ps.map D.str).filter fun d => match d with | .str p => calledIn x p | _ => false).map (fun d => frz (id d)) = (ps.filter (calledIn x)).map D.str := by
        clear q hd hps hit
        induction ps with
        | nil => rfl
        | cons p ps ih =>
          rw [List.map_cons, List.filter_cons, List.filter_cons]
          cases hp : calledIn x p with
          | true => rw [if_pos (by exact hp), if_pos rfl, List.map_cons, ih]; rfl
          | false => rw [if_neg (by simp [hp]), if_neg (by simp), ih]
      rw [List.nil_append, e]
      have hl2 : (ps.filter (calledIn x)).length ≤ 1000 := Nat.le_trans (List.length_filter_le _ _) hps
      simp [hl2]
      exact q
end T3
set_option autoImplicit false
namespace T3
open PySem PySem.Spec PyProof.Rows L2
theorem run_iff : ∀ (q l : List Nat), (∀ c ∈ q, isL c = true) → (l.takeWhile isL = q ↔ l.take q.length = q ∧ (l.length ≤ q.length ∨ ∃ c, l[q.length]? = some c ∧ isL c = false))
  | [], [], _ => by simp
  | [], b :: l, _ => by
    cases hb : isL b <;> simp [List.takeWhile_cons, hb]
  | a :: q, [], _ => by simp
  | a :: q, b :: l, h => by
    have ha := h a List.mem_cons_self
    have ih := run_iff q l fun c hc => h c (List.mem_cons_of_mem _ hc)
    rw [List.takeWhile_cons, List.length_cons, List.take_succ_cons, List.length_cons, List.getElem?_cons_succ]
    cases hb : isL b with
    | true =>
      rw [if_pos rfl, List.cons.injEq, List.cons.injEq, ih, Nat.add_le_add_iff_right, and_assoc]
    | false =>
      rw [if_neg (by simp)]
      constructor
      · intro z; cases z
      · rintro ⟨z, _⟩
        rw [List.cons.injEq] at z
        rw [z.1, ha] at hb; cases hb
theorem fLe_sign (A : AH) (a b : Nat) : fLe A (.str ⟨#[a]⟩) (.str ⟨#[b]⟩) = some (.bl (decide (a ≤ b))) := by
  have e : ltD (.str ⟨#[b]⟩) (.str ⟨#[a]⟩) = decide (b < a) := by
    unfold ltD
    rw [pd, pd, PySem.W.dataLt_str]
    rw [decide_eq_decide]
    show [b] < [a] ↔ b < a
    rw [List.cons_lt_cons_iff]
    simp
  have h : a ≤ b ↔ ¬ b < a := by omega
  simp only [fLe, okLt_str, e, if_true, h, decide_not]
theorem run_named {x p : Str} {i : Nat} (hp : ∀ c ∈ p.cps.toList, isL c = true) (h1 : 1 ≤ p.length) (hi : i ≤ x.length) :
    (runAt x i = p) ↔ cutS x (some (i : Int)) (some ((i + p.length : Nat) : Int)) = p ∧ (x.length ≤ i + p.length ∨ ∃ c, x.cps.toList[i + p.length]? = some c ∧ isL c = false) := by
  have hxl : x.cps.toList.length = x.length := by simp [Str.length]
  have hpl : p.cps.toList.length = p.length := by simp [Str.length]
  have key := run_iff p.cps.toList (x.cps.toList.drop i) hp
  have ext : ∀ (l : List Nat), ((⟨l.toArray⟩ : Str) = p ↔ l = p.cps.toList) := fun l => by
    constructor
    · intro h; rw [← h]
    · intro h; rw [h]
  have e1 : cutS x (some (i : Int)) (some ((i + p.length : Nat) : Int)) = ⟨((x.cps.toList.drop i).take p.length).toArray⟩ := by
    unfold cutS
    rw [HT.sIx_nat, HT.sIx_nat, Nat.min_eq_left hi]
    congr 2
    by_cases hle : i + p.length ≤ x.length
    · rw [Nat.min_eq_left hle, Nat.add_sub_cancel_left]
    · rw [Nat.min_eq_right (by omega), List.take_of_length_le (by rw [List.length_drop]; omega), List.take_of_length_le (by rw [List.length_drop]; omega)]
  unfold runAt
  rw [ext, key, e1, ext, hpl, List.length_drop, List.getElem?_drop, hxl]
  have e2 : x.length - i ≤ p.length ↔ x.length ≤ i + p.length := by omega
  rw [e2]
theorem m_named (ds A Q) (h : sp_named ds A Q (fun _ _ _ => False)) : b_named { nx := fun _ A' => Q .non A', rt := Q } (start3 N_named ds) A := by
  obtain ⟨x, p, rfl, hx, hp, q⟩ := h
  have hxl : x.cps.toList.length = x.length := by simp [Str.length]
  have hl : lim x.length = true := lim_of (by omega)
  have hlp : lim p.length = true := lim_of (by have := hp.eight; omega)
  have h62 : small62 (x.length : Int) := ⟨by omega, by omega⟩
  have hpL : ∀ c ∈ p.cps.toList, isL c = true := fun c hc => by
    have := hp.lets c hc
    unfold isL; simp; omega
  simp [b_named, start3, N_named, hl, h62]
  refine for_inv (fun i z A' => A' = A ∧ calledTo x i p = false ∧ ∃ o2 o3, z = [some (.str x), some (.str p), o2, o3]) ⟨rfl, rfl, none, none, rfl⟩ ?_ ?_
  · rintro i y hy z A1 ⟨rfl, hk, o2, o3, rfl⟩
    obtain ⟨hi, rfl⟩ := rng_get hy
    refine ⟨_, rfl, fun E' hr hb hn hcc => ?_⟩
    obtain ⟨c, hc⟩ : ∃ c, x.cps.toList[i]? = some c := ⟨_, List.getElem?_eq_getElem (by omega)⟩
    have hat : L2.atI x.cps.toList (i : Int) = some c := by
      rw [atI_nat _ _ (by omega)]
      rw [List.getElem?_eq_getElem (by omega)] at hc
      exact hc
    have hrun := run_named (x := x) (p := p) (i := i + 1) hpL hp.one (by omega)
    have hend : ((i : Int) + 1 + (p.length : Int)) = ((i + 1 + p.length : Nat) : Int) := by omega
    have hi1 : ((i : Int) + 1) = ((i + 1 : Nat) : Int) := by omega
    have no : ∀ o3, (c = 64 → runAt x (i + 1) ≠ p) → E'.nx [some (.str x), some (.str p), some (.int (i : Int)), o3] A1 := fun o3 h => by
      refine hn _ _ ⟨rfl, ?_, _, _, rfl⟩
      rw [calledTo_next, hk, hc]
      by_cases h64 : c = 64
      · simp [h h64]
      · simp [h64]
    by_cases h64 : c = 64
    · have e : ((⟨#[c]⟩ : Str) = "@") := (sign_at c).mpr h64
      simp [hl, hlp, hat, e]
      rw [hend, hi1]
      by_cases hcut : cutS x (some ((i + 1 : Nat) : Int)) (some ((i + 1 + p.length : Nat) : Int)) = p
      · simp only [hcut]
        simp
        have yes : runAt x (i + 1) = p → E'.rt (.bl true) A1 := fun h => by
          have e : calledIn x p = true := by
            unfold calledIn
            rw [List.any_eq_true]
            exact ⟨i, List.mem_range.mpr (by omega), by simp [hc, h64, h]⟩
          rw [e] at q
          exact hr _ _ q
        by_cases hge : x.length ≤ i + 1 + p.length
        · exact .inr ⟨by omega, yes (hrun.mpr ⟨hcut, .inl hge⟩)⟩
        · obtain ⟨c2, hc2⟩ : ∃ c2, x.cps.toList[i + 1 + p.length]? = some c2 := ⟨_, List.getElem?_eq_getElem (by omega)⟩
          have hat2 : L2.atI x.cps.toList ((i + 1 + p.length : Nat) : Int) = some c2 := by
            rw [atI_nat _ _ (by omega)]
            rw [List.getElem?_eq_getElem (by omega)] at hc2
            exact hc2
          rw [hend]
          refine .inl ⟨by omega, .str ⟨#[c2]⟩, ⟨c2, hat2, rfl⟩, ?_⟩
          rw [frz_str, show ("a" : Str) = ⟨#[97]⟩ from rfl, show ("z" : Str) = ⟨#[122]⟩ from rfl, fLe_sign, fLe_sign]
          by_cases ha : 97 ≤ c2
          · by_cases hz : c2 ≤ 122
            · refine .inr ⟨by simp [ha], _, rfl, .inr ⟨by simp [hz], no _ fun _ z => ?_⟩⟩
              rcases (hrun.mp z).2 with w | ⟨c3, h3, h4⟩
              · exact hge w
              · rw [hc2] at h3; cases h3
                unfold isL at h4; simp [ha, hz] at h4
            · refine .inr ⟨by simp [ha], _, rfl, .inl ⟨by simp [hz], yes (hrun.mpr ⟨hcut, .inr ⟨c2, hc2, by unfold isL; simp [hz]⟩⟩)⟩⟩
          · exact .inl ⟨by simp [ha], yes (hrun.mpr ⟨hcut, .inr ⟨c2, hc2, by unfold isL; simp [ha]⟩⟩)⟩
      · simp only [hcut]
        simp
        refine no _ fun _ z => hcut (hrun.mp z).1
    · have e : ¬ ((⟨#[c]⟩ : Str) = "@") := fun z => h64 ((sign_at c).mp z)
      simp [hl, hlp, hat, e]
      exact no _ fun z => absurd z h64
  · rintro z A1 ⟨rfl, hk, o2, o3, rfl⟩
    rw [rng_length] at hk
    have e : calledIn x p = false := hk
    rw [e] at q
    simp
    exact q
end T3
set_option autoImplicit false
namespace T3
open PySem PySem.Spec PyProof.Rows L2
theorem cut_last {x : Str} : (cutS x none (some (-1))).length ≤ x.length := by
  unfold cutS
  have e : x.cps.toList.length = x.length := by simp [Str.length]
  generalize HT.sIx x.length 0 none = a
  generalize HT.sIx x.length x.length (some (-1)) = b
  simp [Str.length]
  omega
theorem cut_to {x : Str} (n : Nat) : (cutS x none (some (n : Int))).length ≤ n := by
  unfold cutS
  rw [HT.sIx_nat, HT.sIx_none]
  simp [Str.length]
  omega
section
variable {c : Int} {ws P2 : List Str} {A : AH} {Q : D → AH → Prop}
def sayI (c : Int) (ws P2 : List Str) (A : AH) (i : Nat) (z : S3) (A' : AH) : Prop := A' = A ∧ ∃ (S : Str) (r : Int) (o5 : Option D), S.length ≤ 1 + 8 * i ∧ z = [some (.int c), some (.lst (ws.map .str)), some (.lst (P2.map .str)), some (.str S), some (.int r), o5, none]
theorem saying_fin (q : ∀ x : Str, x.length ≤ 60 → Q (.str x) A) : ∀ (z : S3) (A' : AH), sayI c ws P2 A (rng 0 60).length z A' → sSeq (sRet (eSl (eB 3) oNo (oAt (eC (D.int 60))))) sNil { nx := fun x A' => Q D.non A', rt := Q } z A' := by
  rintro z A1 ⟨rfl, S, r, o5, hS, rfl⟩
  rw [rng_length] at hS
  have hl : lim S.length = true := lim_of (by omega)
  simp [hl]
  exact q _ (cut_to 60)
theorem saying_step (hpos : 0 < P2.length) (hPl : P2.length = 10 + 2 * ws.length) (h6 : ws.length ≤ 6) (hPm : ∀ p ∈ P2, p.length ≤ 8) (q : ∀ x : Str, x.length ≤ 60 → Q (.str x) A) (i : Nat) (y : D) (hy : (rng 0 60)[i]? = some y) (z : S3) (A' : AH) (h : sayI c ws P2 A i z A') :
    ∃ z', setP (.nm 5) y z = some z' ∧ ∀ E' : Ends3, (∀ d A, Q d A → E'.rt d A) → (∀ z A, sSeq (sRet (eSl (eB 3) oNo (oAt (eC (D.int 60))))) sNil { nx := fun x A' => Q D.non A', rt := Q } z A → E'.bk z A) → (∀ z A1, sayI c ws P2 A (i + 1) z A1 → E'.nx z A1) → (∀ z A1, sayI c ws P2 A (i + 1) z A1 → E'.ct z A1) →
    sSeq (sSet 3 (fz (T3.e2 fAdd (eB 3) (fz (T3.e2 fIxA (eB 2) (fz (T3.e2 fMod (eB 4) (fz (eN fLen (aCons (eB 2) aNil)))))))))) (sSeq (sSet 4 (T3.e2 fFdiv (eB 4) (fz (eN fLen (aCons (eB 2) aNil))))) (sSeq (sIf (tV (T3.e2 fEq (eB 4) (fz (eC (D.int 0))))) (sSeq (sRet (eSl (eB 3) oNo (oAt (eC (D.int 60))))) sNil) sNil) sNil)) E' z' A' := by
  obtain ⟨rfl, S, r, o5, hS, rfl⟩ := h
  obtain ⟨hi, rfl⟩ := rng_get hy
  refine ⟨_, rfl, fun E' hr hb hn hcc => ?_⟩
  have h64 : (P2.length : Int) < 18446744073709551616 := by omega
  obtain ⟨x, hx, hxm⟩ := atI_int (P2.map D.str) (r % (P2.length : Int)) (Int.emod_nonneg _ (by omega)) (by rw [List.length_map]; exact Int.emod_lt_of_pos _ (by omega))
  obtain ⟨p, hp, rfl⟩ := List.mem_map.mp hxm
  have hp8 := hPm p hp
  have hl : lim (S.length + p.length) = true := lim_of (by omega)
  have hlen := str_append_length S p
  have hl2 : lim (S ++ p).length = true := lim_of (by omega)
  simp [hpos, h64, hx, hl]
  by_cases h0 : r / (P2.length : Int) = 0
  · simp [h0, hl2]
    exact hr _ _ (q _ (cut_to 60))
  · simp [h0]
    exact hn _ _ ⟨rfl, _, _, _, by omega, rfl⟩
end
theorem m_saying (ds A Q) (h : sp_saying ds A Q (fun _ _ _ => False)) : b_saying { nx := fun _ A' => Q .non A', rt := Q } (start3 N_saying ds) A := by
  obtain ⟨c, ws, rfl, h1, h6, hw, q⟩ := h
  have z2 : 2 ≤ sizeLine := line_of (by omega)
  have z8 : 8 ≤ sizeLine := line_of (by omega)
  have l1 : lim (2 + ws.length) = true := lim_of (by omega)
  have h62 : small62 (60 : Int) := by unfold small62; decide
  simp [b_saying, start3, N_saying, z2, z8, l1]
  refine lc_map (fun d => match d with | .str w => .str (cutS w none (some (-1))) | d => d) (ws.map D.str) [] (by have := line_of (n := 2000) (by omega); simp; omega) (fun y hy => ?_) ?_
  · obtain ⟨p, hp, rfl⟩ := List.mem_map.mp hy
    have hlp : lim p.length = true := lim_of (by have := (hw p hp).eight; omega)
    refine ⟨_, rfl, fun R r => ?_⟩
    simp [hlp]
    exact r
  · rw [List.nil_append]
    have e : (ws.map D.str).map (fun x => frz (match x with | .str w => .str (cutS w none (some (-1))) | d => d)) = (ws.map fun w => cutS w none (some (-1))).map D.str := by
      rw [List.map_map, List.map_map]; rfl
    rw [e]
    simp
    refine ⟨_, ⟨lim_of (by omega), rfl⟩, ?_⟩
    obtain ⟨P, hP, hPl, hPm⟩ : ∃ P : List Str, (D.str "@" :: D.str "@" :: (List.map D.str ws ++ List.map (D.str ∘ fun w => cutS w none (some (-1))) ws)) = P.map D.str ∧ P.length = 2 + 2 * ws.length ∧ ∀ p ∈ P, p.length ≤ 8 := by
      refine ⟨"@" :: "@" :: (ws ++ ws.map fun w => cutS w none (some (-1))), by simp, by simp; omega, fun p hp => ?_⟩
      have l1 : ("@" : Str).length = 1 := by decide +kernel
      simp only [List.mem_cons, List.mem_append, List.mem_map] at hp
      rcases hp with rfl | rfl | hp | ⟨w, hp, rfl⟩
      · omega
      · omega
      · exact (hw p hp).eight
      · have := (hw w hp).eight; have := cut_last (x := w); omega
    rw [hP, frz_ml, fAdd_lst, if_pos (lim_of (by rw [List.length_map]; show P.length + 8 ≤ _; omega))]
    refine ⟨_, rfl, ?_⟩
    rw [frz_ml]
    obtain ⟨P2, hP2, hPl2, hPm2⟩ : ∃ P2 : List Str, (P.map D.str ++ [D.str "a", D.str "z", D.str " ", D.str ",", D.str "7", D.str "A", D.str "@@", D.str "."]) = P2.map D.str ∧ P2.length = 10 + 2 * ws.length ∧ ∀ p ∈ P2, p.length ≤ 8 := by
      refine ⟨P ++ (["a", "z", " ", ",", "7", "A", "@@", "."] : List Str), by simp, by simp; omega, fun p hp => ?_⟩
      rcases List.mem_append.mp hp with hp | hp
      · exact hPm p hp
      · have all : ∀ p ∈ (["a", "z", " ", ",", "7", "A", "@@", "."] : List Str), p.length ≤ 8 := by decide +kernel
        exact all p hp
    rw [hP2]
    clear hP2 hP
    have hpos : 0 < P2.length := by omega
    have h64 : (P2.length : Int) < 18446744073709551616 := by omega
    have lx : ("x" : Str).length = 1 := by decide +kernel
    have la : ("@" : Str).length = 1 := by decide +kernel
    by_cases h3 : c % 3 = 0
    · refine .inr ⟨h3, h62, ?_⟩
      refine for_inv (fun i z A' => A' = A ∧ ∃ (S : Str) (r : Int) (o5 : Option D), S.length ≤ 1 + 8 * i ∧ z = [some (.int c), some (.lst (ws.map .str)), some (.lst (P2.map .str)), some (.str S), some (.int r), o5, none]) ⟨rfl, "@", c / 3, none, by omega, rfl⟩ ?_ ?_
      · exact saying_step hpos hPl2 h6 hPm2 q
      · exact saying_fin q
    · refine .inl ⟨h3, h62, ?_⟩
      refine for_inv (fun i z A' => A' = A ∧ ∃ (S : Str) (r : Int) (o5 : Option D), S.length ≤ 1 + 8 * i ∧ z = [some (.int c), some (.lst (ws.map .str)), some (.lst (P2.map .str)), some (.str S), some (.int r), o5, none]) ⟨rfl, "x", c / 3, none, by omega, rfl⟩ ?_ ?_
      · exact saying_step hpos hPl2 h6 hPm2 q
      · exact saying_fin q
end T3
set_option autoImplicit false
namespace T3
open PySem PySem.Spec PyProof.Rows L2
theorem called_perm {ps ws : List Str} (f : Str → Bool) (hw : ws.Nodup) (hm : ∀ x, x ∈ ps ↔ x ∈ ws) : (setS (ps.filter f)).Perm (ws.filter f) := by
  rw [List.perm_ext_iff_of_nodup setS_nodup (hw.filter f)]
  intro x
  rw [setS_mem, List.mem_filter, List.mem_filter, hm]
theorem m_law (ds A Q) (h : sp_law ds A Q (fun _ _ _ => False)) : b_law { nx := fun _ A' => Q .non A', rt := Q } (start3 N_law ds) A := by
  obtain ⟨ns, rfl, hns, q⟩ := h
  have z1 : 1 ≤ sizeLine := line_of (by omega)
  have z2 : 2 ≤ sizeLine := line_of (by omega)
  simp only [b_law, start3, N_law]
  refine seq_mid (fun z A' => A' = A ∧ ∃ ws : List Str, 1 ≤ ws.length ∧ ws.length ≤ 6 ∧ ws.Nodup ∧ (∀ x ∈ ws, NameOk x) ∧ z = [some (script ns), some (.lst (ws.map .str)), none, none, none, none, none, none, none]) (fun E' hr _ _ hn => ?_) ?_
  · simp
    refine ⟨ns, _, rfl, by omega, fun c0 => ⟨c0, 6, rfl, by omega, fun ws0 hl0 hn0 hk0 => ?_⟩⟩
    simp
    refine ⟨ns, _, rfl, by omega, fun c1 => ?_⟩
    simp
    obtain ⟨k, hk, hk6⟩ : ∃ k : Nat, 1 + c1 % 6 = ((k + 1 : Nat) : Int) ∧ k < 6 := ⟨(c1 % 6).toNat, by omega, by omega⟩
    refine hn _ _ ⟨rfl, ws0.take (k + 1), by rw [List.length_take]; omega, by rw [List.length_take]; omega, hn0.sublist (List.take_sublist _ _), fun x hx => hk0 x (List.mem_of_mem_take hx), ?_⟩
    have e : cutD (ws0.map D.str) none (some (1 + c1 % 6)) = (ws0.take (k + 1)).map D.str := by
      unfold cutD
      rw [hk, HT.sIx_none, HT.sIx_nat, List.drop_zero, Nat.sub_zero, List.length_map, List.map_take]
      congr 1
      omega
    rw [e]
  rintro z A1 ⟨rfl, ws, hw1, hw6, hwn, hwk, rfl⟩
  refine seq_mid (fun z A' => A' = A1 ∧ z = [some (script ns), some (.lst (ws.map .str)), some (.lst (ws.map .str)), none, none, none, none, none, none]) (fun E' hr _ _ hn => ?_) ?_
  · simp
    exact hn _ _ ⟨rfl, rfl⟩
  rintro z A2 ⟨rfl, rfl⟩
  refine seq_mid (fun z A' => A' = A2 ∧ ∃ ps : List Str, (ps = ws ∨ ps = ws.reverse ++ ws.take 1) ∧ z = [some (script ns), some (.lst (ws.map .str)), some (.lst (ps.map .str)), none, none, none, none, none, none]) (fun E' hr _ _ hn => ?_) ?_
  · simp
    refine ⟨ns, _, rfl, by omega, fun c1 => ?_⟩
    by_cases h1 : c1 / 6 % 3 = 1
    · have hl : lim (ws.length + (cutD (ws.map D.str) none (some 1)).length) = true := by
        rw [cut_one]
        exact lim_of (by simp; omega)
      simp [h1, hl]
      refine hn _ _ ⟨rfl, _, .inr rfl, ?_⟩
      rw [cut_one]
      simp
    · simp [h1]
      exact hn _ _ ⟨rfl, _, .inl rfl, rfl⟩
  rintro z A3 ⟨rfl, ps, hps, rfl⟩
  have hpl : ps.length ≤ 7 := by
    rcases hps with rfl | rfl
    · omega
    · simp; omega
  have hmem : ∀ x, x ∈ ps ↔ x ∈ ws := fun x => by
    rcases hps with rfl | rfl
    · exact Iff.rfl
    · simp only [List.mem_append, List.mem_reverse]
      exact ⟨fun h => h.elim id List.mem_of_mem_take, .inl⟩
  refine seq_mid (fun z A' => ∃ o3 o4 o5 o6 o7, z = [some (script ns), some (.lst (ws.map .str)), some (.lst (ps.map .str)), o3, o4, o5, o6, o7, none]) (fun E' hr _ _ hn => ?_) ?_
  · have hs : ∀ A, fSl A (script ns) (some 2) (some 62) = some (.ml (cutD (ns.map D.int) (some 2) (some 62))) := fun _ => rfl
    have hcl : (cutD (ns.map D.int) (some 2) (some 62)).length ≤ 63 := by
      unfold cutD
      simp
      omega
    have hci : ∀ d ∈ cutD (ns.map D.int) (some 2) (some 62), ∃ c, d = .int c := by
      intro d hd
      obtain ⟨c, _, rfl⟩ := List.mem_map.mp (List.mem_of_mem_drop (List.mem_of_mem_take hd))
      exact ⟨c, rfl⟩
    generalize cutD (ns.map D.int) (some 2) (some 62) = cells at hs hcl hci
    simp [hs]
    refine ⟨ns, _, rfl, by omega, fun c2 => ?_⟩
    have hlc : lim (cells.length + 1) = true := lim_of (by omega)
    have hmul : ∀ A, fMul A (.int c2) (.int 7) = some (.int (c2 * 7)) := fun A => fMul_small (.inr (by decide))
    simp [z1, hlc, hmul]
    refine for_inv (fun i z A' => ∃ o3 o4 o5 o6 o7, z = [some (script ns), some (.lst (ws.map .str)), some (.lst (ps.map .str)), o3, o4, o5, o6, o7, none]) ⟨_, _, _, _, _, rfl⟩ ?_ ?_
    · rintro i y hy z A4 ⟨o3, o4, o5, o6, o7, rfl⟩
      obtain ⟨c3, rfl⟩ : ∃ c3, y = .int c3 := by
        rcases List.mem_append.mp (List.mem_of_getElem? hy) with hm | hm
        · exact hci _ hm
        · rw [List.mem_singleton] at hm; exact ⟨_, hm⟩
      refine ⟨_, rfl, fun E2 hr2 hb2 hn2 hc2 => ?_⟩
      simp
      refine ⟨c3, ws, rfl, hw1, hw6, hwk, fun x hx => ?_⟩
      simp
      refine lc_filter (fun d => match d with | .str p => calledIn x p | _ => false) id (ws.map D.str) [] (by have := line_of (n := 2000) (by omega); simp; omega) (fun y hy => ?_) ?_
      · obtain ⟨p, hp, rfl⟩ := List.mem_map.mp hy
        refine ⟨_, rfl, fun R r => ?_, fun _ R r => ?_⟩
        · have r' : R (calledIn x p) A4 := r
          simp
          refine ⟨x, p, rfl, by omega, hwk p hp, ?_⟩
          cases hcc : calledIn x p <;> rw [hcc] at r' <;> simp [r']
        · simp
          exact r
      · have e : ((ws.map D.str).filter fun d => match d with | .str p => calledIn x p | _ => false).map (fun d => frz (id d)) = (ws.filter (calledIn x)).map D.str := by
          rw [List.filter_map, List.map_map]; rfl
        rw [List.nil_append, e]
        have hfl : (ws.filter (calledIn x)).length ≤ 6 := Nat.le_trans (List.length_filter_le _ _) hw6
        have hok := okSort_strs (ws.filter (calledIn x)) (by omega)
        obtain ⟨ys, ey, py, _⟩ := sort_strs _ (hwn.filter (calledIn x))
        have hset : sortD ((setS (ps.filter (calledIn x))).map D.str) = ys.map D.str := by
          rw [sort_strs_perm (called_perm _ hwn hmem) (hwn.filter _), ey]
        have hyl : ys.length ≤ 6 := by rw [py.length_eq]; exact hfl
        have hpk : poks (ys.map D.str) = true := poks_strs ys
        have hnb : nbs (ys.map D.str) = true := by
          have : ∀ l : List Str, nbs (l.map D.str) = true := by
            intro l
            induction l with
            | nil => rfl
            | cons a l ih => rw [List.map_cons, nbs, ih]; rfl
          exact this ys
        have hdp : deps (ys.map D.str) = 0 := by
          have : ∀ l : List Str, deps (l.map D.str) = 0 := by
            intro l
            induction l with
            | nil => rfl
            | cons a l ih => rw [List.map_cons, deps, ih]; rfl
          exact this ys
        have hyz : ys.length < sizeLine := by have := line_of (n := 1000) (by omega); omega
        simp [hok, ey, z2]
        refine for_inv (fun i z A' => ∃ o6 o7, z = [some (script ns), some (.lst (ws.map .str)), some (.lst (ps.map .str)), some (.int c3), some (.str x), some (.lst (ys.map .str)), o6, o7, none]) ⟨_, _, rfl⟩ ?_ ?_
        · rintro j y hy z A5 ⟨o6, o7, rfl⟩
          have hy' : (y = .lst (ps.map D.str) ∨ y = .tup (ps.map D.str)) := by
            have hm := List.mem_of_getElem? hy
            simpa using hm
          have hoy : own y = false ∧ frz y = y := by rcases hy' with rfl | rfl <;> exact ⟨rfl, rfl⟩
          refine ⟨_, rfl, fun E3 hr3 hb3 hn3 hc3 => ?_⟩
          have ask : ∀ (A : AH) (Q : D → AH → Prop), Q (.ml (ys.map D.str)) A → sp_names_in [.str x, y] A Q fun _ _ _ => False := fun A Q hq => by
            refine ⟨x, ps, ?_, by omega, by omega, by rw [hset]; exact hq⟩
            rcases hy' with rfl | rfl
            · exact .inl rfl
            · exact .inr rfl
          simp [hoy.1, hoy.2]
          refine ask _ _ ?_
          simp
          intro a ha
          refine ⟨_, .lst (ys.map D.str), rfl, .inr ⟨a, _, rfl, put_same, hpk⟩, ?_, ?_, by decide, ?_⟩
          · rw [nb]; exact hnb
          · exact Nat.le_trans (m := 2) (by rw [dep]; omega) (by decide)
          rw [vw_ref put_same]
          simp [put_same, hyz, hoy.1, hoy.2]
          refine ask _ _ ?_
          refine ⟨.lst (ys.map D.str), .lst (ys.map D.str), rfl, .inl ?_, ?_, ?_, by decide, ?_⟩
          · rw [pok]; exact hpk
          · rw [nb]; exact hnb
          · exact Nat.le_trans (m := 2) (by rw [dep]; omega) (by decide)
          rw [vw_lst]
          simp
          exact hn3 _ _ ⟨_, _, rfl⟩
        · rintro z A5 ⟨o6, o7, rfl⟩
          exact hn2 _ _ ⟨_, _, _, _, _, rfl⟩
    · rintro z A4 ⟨o3, o4, o5, o6, o7, rfl⟩
      exact hn _ _ ⟨_, _, _, _, _, rfl⟩
  rintro z A4 ⟨o3, o4, o5, o6, o7, rfl⟩
  obtain ⟨w0, hw0, hw0m⟩ : ∃ w0, L2.atI (ws.map D.str) 0 = some (.str w0) ∧ w0 ∈ ws := by
    obtain ⟨y, hy, hym⟩ := atI_int (ws.map D.str) 0 (by omega) (by rw [List.length_map]; omega)
    obtain ⟨w0, hm, rfl⟩ := List.mem_map.mp hym
    exact ⟨w0, hy, hm⟩
  have h8 := (hwk w0 hw0m).eight
  have lh : ("hi @" : Str).length = 4 := by decide +kernel
  have hl4 : lim (4 + w0.length) = true := lim_of (by omega)
  have hlen := str_append_length "hi @" w0
  have hask : ∀ (A : AH) (Q : D → AH → Prop) (d : D), (d = .lst [] ∨ d = .tup []) → Q (.ml []) A → sp_names_in [.str ("hi @" ++ w0), d] A Q fun _ _ _ => False := fun A Q d hd hq => by
    refine ⟨_, [], ?_, by rw [hlen, lh]; omega, by simp, ?_⟩
    · rcases hd with rfl | rfl
      · exact .inl rfl
      · exact .inr rfl
    · have e : sortD ((setS (([] : List Str).filter (calledIn ("hi @" ++ w0)))).map D.str) = [] := by simp [setS, sortD]
      rw [e]; exact hq
  have hne : ∀ A, fNe A (.lst []) (.lst []) = some (.bl false) := fun A => by
    rw [fNe_nb A (a := .lst []) (b := .lst []) rfl rfl (by simp [dep, deps])]; simp
  simp [hw0, lh, hl4]
  refine hask _ _ _ (.inl rfl) ?_
  simp [hne, hw0, lh, hl4]
  refine hask _ _ _ (.inr rfl) ?_
  simp [hne]
  have heq : ∀ (A : AH) (us vs : List Str), fEq A (.lst (us.map D.str)) (.lst (vs.map D.str)) = some (.bl (decide (us = vs))) := fun A us vs => by
    have hnb : ∀ l : List Str, nbs (l.map D.str) = true ∧ deps (l.map D.str) = 0 := by
      intro l
      induction l with
      | nil => exact ⟨rfl, rfl⟩
      | cons a l ih => exact ⟨by rw [List.map_cons, nbs, ih.1]; rfl, by rw [List.map_cons, deps, ih.2]; rfl⟩
    rw [fEq_nb A (a := .lst (us.map D.str)) (b := .lst (vs.map D.str)) (hnb us).1 (hnb vs).1 (by rw [vw_lst, dep, (hnb us).2]; decide)]
    congr 2
    rw [vw_lst, vw_lst, decide_eq_decide]
    constructor
    · intro h
      exact (List.map_inj_right (fun a b h => D.str.inj h)).mp (D.lst.inj h)
    · rintro rfl; rfl
  rw [heq]
  by_cases hp : ps = ws
  · exact ⟨_, rfl, .inr ⟨by simp [hp], q _⟩⟩
  · refine ⟨_, rfl, .inl ⟨by simp [hp], _, ⟨by rw [cut_one]; exact lim_of (by simp; omega), rfl⟩, ?_⟩⟩
    have e2 : frz (D.ml ((ws.map D.str).reverse ++ cutD (ws.map D.str) none (some 1))) = .lst ((ws.reverse ++ ws.take 1).map D.str) := by
      rw [cut_one]; simp
    rw [e2, heq]
    have e3 : ps = ws.reverse ++ ws.take 1 := hps.resolve_left hp
    exact ⟨_, rfl, by rw [decide_eq_true e3]; exact q _⟩
end T3
set_option autoImplicit false
namespace T3
open PySem PySem.Spec PyProof.Rows L2
def topS (i : Nat) : Stmt := PySem.Challenge.pw_talkmarks_k03_who_is_named.main.body.getD i (.Pass ⟨0, 0, 0, 0⟩)
structure Txt (mg : Str → Option Value) : Prop where
  b_bool : mg "bool" = none
  b_enumerate : mg "enumerate" = none
  b_int : mg "int" = none
  b_isinstance : mg "isinstance" = none
  b_len : mg "len" = none
  b_list : mg "list" = none
  b_range : mg "range" = none
  b_set : mg "set" = none
  b_sorted : mg "sorted" = none
  b_str : mg "str" = none
  b_tuple : mg "tuple" = none
  b_zip : mg "zip" = none
  c0_LETTERS : ∃ t, mg "LETTERS" = some (.str "abcdefghijklmnopqrstuvwxyz" t)
section
variable {P : Program} {w : World} {K : PySem.W.Frag} {mg : Str → Option Value} {base : Heap}
abbrev s_letters_at : Stmt := topS 2
theorem l_letters_at (ds A Q E) (h : sp_letters_at ds A Q E) : ds.length = (["saying", "at"] : List Str).length := by first | (obtain ⟨rfl, _⟩ := h; rfl) | (obtain ⟨_, rfl, _⟩ := h; rfl) | (obtain ⟨_, _, rfl, _⟩ := h; rfl) | (obtain ⟨_, _, _, rfl, _⟩ := h; rfl) | (obtain ⟨_, _, _, _, rfl, _⟩ := h; rfl) | (obtain ⟨_, _, _, _, _, rfl, _⟩ := h; rfl) | (obtain ⟨_, _, _, _, _, _, rfl, _⟩ := h; rfl)
theorem sc_letters_at : FnScope N_letters_at ["saying", "at"] (defScope s_letters_at) := ⟨rfl, rfl, rfl, by decide +kernel, rfl, by decide +kernel, by decide +kernel⟩
theorem ok_letters_at {f : Addr} {fd : FuncData} (F : Fun K "letters_at" "letters_at" s_letters_at f fd) (T : Txt mg) : FnOk P w K mg base CX0 1 f fd ["saying", "at"] (lsp K w sp_letters_at) := by
  refine fn3 (t := b_letters_at) F sc_letters_at l_letters_at (fun cdv A outer s H E C hr => ?_) m_letters_at
  have hu := hr.units
  exact pss3_cons (ps3_set (i := 2) sc_letters_at.nd rfl (by first | exact Or.inl rfl | exact Or.inr rfl) (pe3_v (pv 1))) (pss3_cons (ps3_while PassesOwn.never (PW.pt (pw3_and (pt3_cmp (op_ltP hu) o_lt (pb3_v (pv 2)) (pb3 (pe3_callB call_lenA o_len rfl T.b_len (by decide +kernel) (pab3_cons (pb3_v (pv 0)) (pab3_nil)))) (nomark _)) (pw3_and1 (pt3_cmp (op_inA hu) (o_inA id) (pb3 (pe3_ix (ix_all hu) o_ixA (pb3_v (pv 0)) (pb3_v (pv 2)) (fun _ _ => rfl))) (pb3 (pe3_gsE rfl T.c0_LETTERS)) (by rfl))))) (pss3_cons (ps3_aug (i := 2) sc_letters_at.nd rfl (by first | exact Or.inl rfl | exact Or.inr rfl) (pe3_int) ip_add) (pss3_nil))) (pss3_cons (ps3_ret (pe3_slice (pb3_v (pv 0)) (po3_some (pe3_v (pv 1))) (po3_some (pe3_v (pv 2))))) (pss3_nil)))
abbrev s_names_in : Stmt := topS 3
theorem sc_names_in : FnScope N_names_in ["saying", "people"] (defScope s_names_in) := ⟨rfl, rfl, rfl, by decide +kernel, rfl, by decide +kernel, by decide +kernel⟩
theorem ok_names_in {f : Addr} {fd : FuncData} (F : Fun K "names_in" "names_in" s_names_in f fd) (T : Txt mg) (G_letters_at : Def3 P w K mg base "letters_at" 1 ["saying", "at"] sp_letters_at) : FnOk P w K mg base CX0 2 f fd ["saying", "people"] (lsp K w sp_names_in) := by
  refine fn3 (t := b_names_in) F sc_names_in l_names_in (fun cdv A outer s H E C hr => ?_) m_names_in
  have hu := hr.units
  exact pss3_cons (ps3_set (i := 2) sc_names_in.nd rfl (by first | exact Or.inl rfl | exact Or.inr rfl) (pe3_dnew)) (pss3_cons (ps3_for (p := .tp [3, 4]) PassesOwn.never rfl (pi3_enumS rfl T.b_enumerate (pa3_cons (pe3_v (pv 0)) (pa3_nil))) (pg_tup (by rfl) (pgs_cons (pg_name (i := 3) sc_names_in.nd rfl (by first | exact Or.inl rfl | exact Or.inr rfl)) (pgs_cons (pg_name (i := 4) sc_names_in.nd rfl (by first | exact Or.inl rfl | exact Or.inr rfl)) (pgs_nil)))) (pss3_cons (ps3_if (pt3_cmp (op_eqP hu) o_eq (pb3_v (pv 4)) (pb3 (pe3_str)) (nomark _)) (pss3_cons (ps3_put (set_dk hu) s_dset (pv 2) (pe3_def G_letters_at (hr.mono (by decide)) rfl (pa3_cons (pe3_v (pv 0)) (pa3_cons (pe3_op op_addA o_add (pb3_v (pv 3)) (pb3 (pe3_int))) (pa3_nil)))) (pe3_bl)) (pss3_nil)) (pss3_nil)) (pss3_nil))) (pss3_cons (ps3_ret (pe3_sortSet rfl hu rfl T.b_sorted rfl T.b_set (pab3_cons (pb3 (pe3_lc (own := [("name", 5)]) (p := .nm 5) rfl sc_names_in.nd (pi3_s (pe3_v (pv 1))) (blkOk_by (N := N_names_in) (sc := defScope s_names_in) (by decide +kernel)) (by decide) (fun _ _ _ _ _ => pg_name (i := 5) sc_names_in.nd rfl (by first | exact Or.inl rfl | exact Or.inr rfl)) (fun _ _ _ _ _ _ => pts3_one (pt3_cmp (op_inA hu) (o_inA id) (pb3_v (pv 5)) (pb3_v (pv 2)) (by rfl))) (fun _ _ _ _ _ _ => pe3_v (pv 5)))) (pab3_nil)))) (pss3_nil)))
abbrev s_cell_at : Stmt := topS 5
theorem l_cell_at (ds A Q E) (h : sp_cell_at ds A Q E) : ds.length = (["_law_script", "_law_k"] : List Str).length := by first | (obtain ⟨rfl, _⟩ := h; rfl) | (obtain ⟨_, rfl, _⟩ := h; rfl) | (obtain ⟨_, _, rfl, _⟩ := h; rfl) | (obtain ⟨_, _, _, rfl, _⟩ := h; rfl) | (obtain ⟨_, _, _, _, rfl, _⟩ := h; rfl) | (obtain ⟨_, _, _, _, _, rfl, _⟩ := h; rfl) | (obtain ⟨_, _, _, _, _, _, rfl, _⟩ := h; rfl)
theorem sc_cell_at : FnScope N_cell_at ["_law_script", "_law_k"] (defScope s_cell_at) := ⟨rfl, rfl, rfl, by decide +kernel, rfl, by decide +kernel, by decide +kernel⟩
theorem ok_cell_at {f : Addr} {fd : FuncData} (F : Fun K "_law_cell_at" "_law_cell_at" s_cell_at f fd) (T : Txt mg) : FnOk P w K mg base CX0 1 f fd ["_law_script", "_law_k"] (lsp K w sp_cell_at) := by
  refine fn3 (t := b_cell_at) F sc_cell_at l_cell_at (fun cdv A outer s H E C hr => ?_) m_cell_at
  have hu := hr.units
  exact pss3_cons (ps3_if (pt3_cmp (op_ltP hu) o_lt (pb3_v (pv 1)) (pb3 (pe3_callB call_lenA o_len rfl T.b_len (by decide +kernel) (pab3_cons (pb3_v (pv 0)) (pab3_nil)))) (nomark _)) (pss3_cons (ps3_ret (pe3_ix (ix_all hu) o_ixA (pb3_v (pv 0)) (pb3_v (pv 1)) (fun _ _ => rfl))) (pss3_nil)) (pss3_nil)) (pss3_cons (ps3_ret (pe3_int)) (pss3_nil))
abbrev s_words : Stmt := topS 6
theorem l_words (ds A Q E) (h : sp_words ds A Q E) : ds.length = (["_law_cell", "_law_many"] : List Str).length := by first | (obtain ⟨rfl, _⟩ := h; rfl) | (obtain ⟨_, rfl, _⟩ := h; rfl) | (obtain ⟨_, _, rfl, _⟩ := h; rfl) | (obtain ⟨_, _, _, rfl, _⟩ := h; rfl) | (obtain ⟨_, _, _, _, rfl, _⟩ := h; rfl) | (obtain ⟨_, _, _, _, _, rfl, _⟩ := h; rfl) | (obtain ⟨_, _, _, _, _, _, rfl, _⟩ := h; rfl)
theorem sc_words : FnScope N_words ["_law_cell", "_law_many"] (defScope s_words) := ⟨rfl, rfl, rfl, by decide +kernel, rfl, by decide +kernel, by decide +kernel⟩
theorem ok_words {f : Addr} {fd : FuncData} (F : Fun K "_law_words" "_law_words" s_words f fd) (T : Txt mg) : FnOk P w K mg base CX0 1 f fd ["_law_cell", "_law_many"] (lsp K w sp_words) := by
  refine fn3 (t := b_words) F sc_words l_words (fun cdv A outer s H E C hr => ?_) m_words
  have hu := hr.units
  exact pss3_cons (ps3_set (i := 2) sc_words.nd rfl (by first | exact Or.inl rfl | exact Or.inr rfl) (pe3_str)) (pss3_cons (ps3_set (i := 3) sc_words.nd rfl (by first | exact Or.inl rfl | exact Or.inr rfl) (pe3_fz (pe3_op op_addA o_add (pb3 (pe3_int)) (pb3 (pe3_op op_mod o_mod (pb3_v (pv 0)) (pb3 (pe3_int))))))) (pss3_cons (ps3_set (i := 4) sc_words.nd rfl (by first | exact Or.inl rfl | exact Or.inr rfl) (pe3_op op_mod o_mod (pb3 (pe3_op op_fdivW o_fdiv (pb3_v (pv 0)) (pb3 (pe3_int)))) (pb3_v (pv 3)))) (pss3_cons (ps3_set (i := 5) sc_words.nd rfl (by first | exact Or.inl rfl | exact Or.inr rfl) (pe3_lst (pa3_nil))) (pss3_cons (ps3_for (p := .nm 6) PassesOwn.never rfl (pi3_range1 rfl T.b_range (pa3_cons (pe3_v (pv 1)) (pa3_nil))) (pg_name (i := 6) sc_words.nd rfl (by first | exact Or.inl rfl | exact Or.inr rfl)) (pss3_cons (ps3_set (i := 7) sc_words.nd rfl (by first | exact Or.inl rfl | exact Or.inr rfl) (pe3_str)) (pss3_cons (ps3_for (p := .nm 8) PassesOwn.never rfl (pi3_range1 rfl T.b_range (pa3_cons (pe3_v (pv 3)) (pa3_nil))) (pg_name (i := 8) sc_words.nd rfl (by first | exact Or.inl rfl | exact Or.inr rfl)) (pss3_cons (ps3_set (i := 9) sc_words.nd rfl (by first | exact Or.inl rfl | exact Or.inr rfl) (pe3_fz (pe3_op op_addA o_add (pb3 (pe3_op op_fdivW o_fdiv (pb3_v (pv 0)) (pb3 (pe3_op op_addA o_add (pb3 (pe3_int)) (pb3 (pe3_op op_mulA o_mul (pb3 (pe3_int)) (pb3_v (pv 8)))))))) (pb3 (pe3_op op_mulA o_mul (pb3_v (pv 8)) (pb3 (pe3_op op_mod o_mod (pb3 (pe3_op op_fdivW o_fdiv (pb3_v (pv 0)) (pb3 (pe3_int)))) (pb3 (pe3_int))))))))) (pss3_cons (ps3_if (pt3_cmp (op_eqP hu) o_eq (pb3_v (pv 8)) (pb3_v (pv 4)) (nomark _)) (pss3_cons (ps3_set (i := 9) sc_words.nd rfl (by first | exact Or.inl rfl | exact Or.inr rfl) (pe3_fz (pe3_op op_addA o_add (pb3_v (pv 9)) (pb3 (pe3_op op_mulA o_mul (pb3 (pe3_int)) (pb3_v (pv 6))))))) (pss3_nil)) (pss3_nil)) (pss3_cons (ps3_set (i := 7) sc_words.nd rfl (by first | exact Or.inl rfl | exact Or.inr rfl) (pe3_fz (pe3_op op_addA o_add (pb3_v (pv 7)) (pb3 (pe3_ix (ix_all hu) o_ixA (pb3_v (pv 2)) (pb3 (pe3_op op_mod o_mod (pb3_v (pv 9)) (pb3 (pe3_int)))) (fun _ _ => rfl)))))) (pss3_nil))))) (pss3_cons (ps3_m (i := 5) PySem.F.plainAttrs_list PySem.F.slot_list_append PySem.F.type_list_append mt_append m_append (pv 5) (pa3_cons (pe3_v (pv 7)) (pa3_nil))) (pss3_nil))))) (pss3_cons (ps3_if (pt3_cmp (op_eqP hu) o_eq (pb3 (pe3_op op_mod o_mod (pb3 (pe3_op op_fdivW o_fdiv (pb3_v (pv 0)) (pb3 (pe3_int)))) (pb3 (pe3_int)))) (pb3 (pe3_int)) (nomark _)) (pss3_cons (ps3_put set_list s_set (pv 5) (pe3_int) (pe3_op op_addA o_add (pb3 (pe3_ix (ix_all hu) o_ixA (pb3_v (pv 5)) (pb3 (pe3_int)) (fun _ _ => rfl))) (pb3 (pe3_ix (ix_all hu) o_ixA (pb3_v (pv 2)) (pb3 (pe3_op op_mod o_mod (pb3 (pe3_op op_fdivW o_fdiv (pb3_v (pv 0)) (pb3 (pe3_int)))) (pb3 (pe3_int)))) (fun _ _ => rfl))))) (pss3_nil)) (pss3_nil)) (pss3_cons (ps3_retV (pv 5)) (pss3_nil)))))))
abbrev s_sameA : Stmt := topS 7
theorem sc_sameA : FnScope N_sameA ["_law_found", "_law_due"] (defScope s_sameA) := ⟨rfl, rfl, rfl, by decide +kernel, rfl, by decide +kernel, by decide +kernel⟩
theorem ok_sameA {f : Addr} {fd : FuncData} (F : Fun K "_law_same" "_law_same" s_sameA f fd) (T : Txt mg) (hm : mg "_law_same" = some (.ref f)) (hk : PySem.W.keepIn K (.ref f) = true) (hb : L2.Binds K fd ["_law_found", "_law_due"] []) : ∀ n : Nat, FnOk P w K mg base CX0 (1 + n) f fd ["_law_found", "_law_due"] (lsp K w (sp_sameA n))
  | 0 => fnok_never never_sameA
  | n + 1 => by
    have G_self : Def3 P w K mg base "_law_same" (1 + n) ["_law_found", "_law_due"] (sp_sameA n) := ⟨f, fd, ok_sameA F T hm hk hb n, hm, hk, hb⟩
    refine fn3 (t := b_sameA (sp_sameA n)) F sc_sameA (l_sameA n) (fun cdv A outer s H E C hr => ?_) (m_sameA n)
    have hu := hr.units
    exact pss3_cons (ps3_if (pt3_cmp op_isN o_isN (pb3_v (pv 1)) (pb3 (pe3_non)) (nomark _)) (pss3_cons (ps3_ret (pe3_cmp op_isN o_isN (pb3_v (pv 0)) (pb3 (pe3_non)) (nomark _))) (pss3_nil)) (pss3_nil)) (pss3_cons (ps3_if (pt3_val (pe3_isi (n := "str") rfl T.b_isinstance rfl T.b_str (by decide +kernel) (by decide) (pb3_v (pv 1)))) (pss3_cons (ps3_ret (pe3_and (pe3_isi (n := "str") rfl T.b_isinstance rfl T.b_str (by decide +kernel) (by decide) (pb3_v (pv 0))) (pe3_one (pe3_cmp (op_eqP hu) o_eq (pb3_v (pv 0)) (pb3_v (pv 1)) (nomark _))))) (pss3_nil)) (pss3_nil)) (pss3_cons (ps3_if (pt3_val (pe3_isi (n := "int") rfl T.b_isinstance rfl T.b_int (by decide +kernel) (by decide) (pb3_v (pv 1)))) (pss3_cons (ps3_ret (pe3_and (pe3_isi (n := "int") rfl T.b_isinstance rfl T.b_int (by decide +kernel) (by decide) (pb3_v (pv 0))) (pe3_and (pe3_not (pe3_isi (n := "bool") rfl T.b_isinstance rfl T.b_bool (by decide +kernel) (by decide) (pb3_v (pv 0)))) (pe3_one (pe3_cmp (op_eqP hu) o_eq (pb3_v (pv 0)) (pb3_v (pv 1)) (nomark _)))))) (pss3_nil)) (pss3_nil)) (pss3_cons (ps3_if (PW.pt (pw3_and (pt3_val (pe3_isi (n := "list") rfl T.b_isinstance rfl T.b_list (by decide +kernel) (by decide) (pb3_v (pv 1)))) (pw3_and1 (pt3_not (pt3_val (pe3_isi (n := "list") rfl T.b_isinstance rfl T.b_list (by decide +kernel) (by decide) (pb3_v (pv 0)))))))) (pss3_cons (ps3_ret (pe3_bl)) (pss3_nil)) (pss3_nil)) (pss3_cons (ps3_if (PW.pt (pw3_and (pt3_val (pe3_isi (n := "tuple") rfl T.b_isinstance rfl T.b_tuple (by decide +kernel) (by decide) (pb3_v (pv 1)))) (pw3_and1 (pt3_not (pt3_val (pe3_isi (n := "tuple") rfl T.b_isinstance rfl T.b_tuple (by decide +kernel) (by decide) (pb3_v (pv 0)))))))) (pss3_cons (ps3_ret (pe3_bl)) (pss3_nil)) (pss3_nil)) (pss3_cons (ps3_if (pt3_cmp (op_neP hu) o_ne (pb3 (pe3_callB call_lenA o_len rfl T.b_len (by decide +kernel) (pab3_cons (pb3_v (pv 0)) (pab3_nil)))) (pb3 (pe3_callB call_lenA o_len rfl T.b_len (by decide +kernel) (pab3_cons (pb3_v (pv 1)) (pab3_nil)))) (nomark _)) (pss3_cons (ps3_ret (pe3_bl)) (pss3_nil)) (pss3_nil)) (pss3_cons (ps3_for (p := .tp [2, 3]) PassesOwn.never rfl (pi3_zip rfl T.b_zip (pa3_cons (pe3_v (pv 0)) (pa3_cons (pe3_v (pv 1)) (pa3_nil)))) (pg_tup (by rfl) (pgs_cons (pg_name (i := 2) sc_sameA.nd rfl (by first | exact Or.inl rfl | exact Or.inr rfl)) (pgs_cons (pg_name (i := 3) sc_sameA.nd rfl (by first | exact Or.inl rfl | exact Or.inr rfl)) (pgs_nil)))) (pss3_cons (ps3_if (pt3_not (pt3_val (pe3_def G_self (hr.mono (by first | omega | (simp only [Nat.add_eq]; omega))) rfl (pa3_cons (pe3_v (pv 2)) (pa3_cons (pe3_v (pv 3)) (pa3_nil)))))) (pss3_cons (ps3_ret (pe3_bl)) (pss3_nil)) (pss3_nil)) (pss3_nil))) (pss3_cons (ps3_ret (pe3_bl)) (pss3_nil))))))))
abbrev s_saying : Stmt := topS 8
theorem l_saying (ds A Q E) (h : sp_saying ds A Q E) : ds.length = (["_law_cell", "_law_words_here"] : List Str).length := by first | (obtain ⟨rfl, _⟩ := h; rfl) | (obtain ⟨_, rfl, _⟩ := h; rfl) | (obtain ⟨_, _, rfl, _⟩ := h; rfl) | (obtain ⟨_, _, _, rfl, _⟩ := h; rfl) | (obtain ⟨_, _, _, _, rfl, _⟩ := h; rfl) | (obtain ⟨_, _, _, _, _, rfl, _⟩ := h; rfl) | (obtain ⟨_, _, _, _, _, _, rfl, _⟩ := h; rfl)
theorem sc_saying : FnScope N_saying ["_law_cell", "_law_words_here"] (defScope s_saying) := ⟨rfl, rfl, rfl, by decide +kernel, rfl, by decide +kernel, by decide +kernel⟩
theorem ok_saying {f : Addr} {fd : FuncData} (F : Fun K "_law_saying" "_law_saying" s_saying f fd) (T : Txt mg) : FnOk P w K mg base CX0 1 f fd ["_law_cell", "_law_words_here"] (lsp K w sp_saying) := by
  refine fn3 (t := b_saying) F sc_saying l_saying (fun cdv A outer s H E C hr => ?_) m_saying
  have hu := hr.units
  exact pss3_cons (ps3_set (i := 2) sc_saying.nd rfl (by first | exact Or.inl rfl | exact Or.inr rfl) (pe3_fz (pe3_op op_addA o_add (pb3 (pe3_op op_addA o_add (pb3 (pe3_op op_addA o_add (pb3 (pe3_lst (pa3_cons (pe3_str) (pa3_cons (pe3_str) (pa3_nil))))) (pb3_v (pv 1)))) (pb3 (pe3_lc (own := [("_law_word", 6)]) (p := .nm 6) rfl sc_saying.nd (pi3_s (pe3_v (pv 1))) (blkOk_by (N := N_saying) (sc := defScope s_saying) (by decide +kernel)) (by decide) (fun _ _ _ _ _ => pg_name (i := 6) sc_saying.nd rfl (by first | exact Or.inl rfl | exact Or.inr rfl)) (fun _ _ _ _ _ _ => pts3_nil) (fun _ _ _ _ _ _ => pe3_slice (pb3_v (pv 6)) (po3_none) (po3_some (pe3_un un_neg o_neg (pb3 (pe3_int))))))))) (pb3 (pe3_lst (pa3_cons (pe3_str) (pa3_cons (pe3_str) (pa3_cons (pe3_str) (pa3_cons (pe3_str) (pa3_cons (pe3_str) (pa3_cons (pe3_str) (pa3_cons (pe3_str) (pa3_cons (pe3_str) (pa3_nil)))))))))))))) (pss3_cons (ps3_set (i := 3) sc_saying.nd rfl (by first | exact Or.inl rfl | exact Or.inr rfl) (pe3_str)) (pss3_cons (ps3_set (i := 4) sc_saying.nd rfl (by first | exact Or.inl rfl | exact Or.inr rfl) (pe3_v (pv 0))) (pss3_cons (ps3_if (pt3_cmp (op_eqP hu) o_eq (pb3 (pe3_op op_mod o_mod (pb3_v (pv 0)) (pb3 (pe3_int)))) (pb3 (pe3_int)) (nomark _)) (pss3_cons (ps3_set (i := 3) sc_saying.nd rfl (by first | exact Or.inl rfl | exact Or.inr rfl) (pe3_str)) (pss3_nil)) (pss3_nil)) (pss3_cons (ps3_set (i := 4) sc_saying.nd rfl (by first | exact Or.inl rfl | exact Or.inr rfl) (pe3_op op_fdivW o_fdiv (pb3_v (pv 4)) (pb3 (pe3_int)))) (pss3_cons (ps3_for (p := .nm 5) PassesOwn.never rfl (pi3_range1 rfl T.b_range (pa3_cons (pe3_int) (pa3_nil))) (pg_name (i := 5) sc_saying.nd rfl (by first | exact Or.inl rfl | exact Or.inr rfl)) (pss3_cons (ps3_set (i := 3) sc_saying.nd rfl (by first | exact Or.inl rfl | exact Or.inr rfl) (pe3_fz (pe3_op op_addA o_add (pb3_v (pv 3)) (pb3 (pe3_ix (ix_all hu) o_ixA (pb3_v (pv 2)) (pb3 (pe3_op op_mod o_mod (pb3_v (pv 4)) (pb3 (pe3_callB call_lenA o_len rfl T.b_len (by decide +kernel) (pab3_cons (pb3_v (pv 2)) (pab3_nil)))))) (fun _ _ => rfl)))))) (pss3_cons (ps3_set (i := 4) sc_saying.nd rfl (by first | exact Or.inl rfl | exact Or.inr rfl) (pe3_op op_fdivW o_fdiv (pb3_v (pv 4)) (pb3 (pe3_callB call_lenA o_len rfl T.b_len (by decide +kernel) (pab3_cons (pb3_v (pv 2)) (pab3_nil)))))) (pss3_cons (ps3_if (pt3_cmp (op_eqP hu) o_eq (pb3_v (pv 4)) (pb3 (pe3_int)) (nomark _)) (pss3_cons (ps3_ret (pe3_slice (pb3_v (pv 3)) (po3_none) (po3_some (pe3_int)))) (pss3_nil)) (pss3_nil)) (pss3_nil))))) (pss3_cons (ps3_ret (pe3_slice (pb3_v (pv 3)) (po3_none) (po3_some (pe3_int)))) (pss3_nil)))))))
abbrev s_named : Stmt := topS 9
theorem l_named (ds A Q E) (h : sp_named ds A Q E) : ds.length = (["_law_saying_here", "_law_name"] : List Str).length := by first | (obtain ⟨rfl, _⟩ := h; rfl) | (obtain ⟨_, rfl, _⟩ := h; rfl) | (obtain ⟨_, _, rfl, _⟩ := h; rfl) | (obtain ⟨_, _, _, rfl, _⟩ := h; rfl) | (obtain ⟨_, _, _, _, rfl, _⟩ := h; rfl) | (obtain ⟨_, _, _, _, _, rfl, _⟩ := h; rfl) | (obtain ⟨_, _, _, _, _, _, rfl, _⟩ := h; rfl)
theorem sc_named : FnScope N_named ["_law_saying_here", "_law_name"] (defScope s_named) := ⟨rfl, rfl, rfl, by decide +kernel, rfl, by decide +kernel, by decide +kernel⟩
theorem ok_named {f : Addr} {fd : FuncData} (F : Fun K "_law_named" "_law_named" s_named f fd) (T : Txt mg) : FnOk P w K mg base CX0 1 f fd ["_law_saying_here", "_law_name"] (lsp K w sp_named) := by
  refine fn3 (t := b_named) F sc_named l_named (fun cdv A outer s H E C hr => ?_) m_named
  have hu := hr.units
  exact pss3_cons (ps3_for (p := .nm 2) PassesOwn.never rfl (pi3_range1 rfl T.b_range (pa3_cons (pe3_callB call_lenA o_len rfl T.b_len (by decide +kernel) (pab3_cons (pb3_v (pv 0)) (pab3_nil))) (pa3_nil))) (pg_name (i := 2) sc_named.nd rfl (by first | exact Or.inl rfl | exact Or.inr rfl)) (pss3_cons (ps3_set (i := 3) sc_named.nd rfl (by first | exact Or.inl rfl | exact Or.inr rfl) (pe3_fz (pe3_op op_addA o_add (pb3 (pe3_op op_addA o_add (pb3_v (pv 2)) (pb3 (pe3_int)))) (pb3 (pe3_callB call_lenA o_len rfl T.b_len (by decide +kernel) (pab3_cons (pb3_v (pv 1)) (pab3_nil))))))) (pss3_cons (ps3_if (PW.pt (pw3_and (pt3_cmp (op_eqP hu) o_eq (pb3 (pe3_ix (ix_all hu) o_ixA (pb3_v (pv 0)) (pb3_v (pv 2)) (fun _ _ => rfl))) (pb3 (pe3_str)) (nomark _)) (pw3_and1 (pt3_cmp (op_eqP hu) o_eq (pb3 (pe3_slice (pb3_v (pv 0)) (po3_some (pe3_op op_addA o_add (pb3_v (pv 2)) (pb3 (pe3_int)))) (po3_some (pe3_v (pv 3))))) (pb3_v (pv 1)) (nomark _))))) (pss3_cons (ps3_if (PW.pt (pw3_or (pt3_cmp (op_geP hu) o_ge (pb3_v (pv 3)) (pb3 (pe3_callB call_lenA o_len rfl T.b_len (by decide +kernel) (pab3_cons (pb3_v (pv 0)) (pab3_nil)))) (nomark _)) (pw3_or1 (pt3_not (pt3_chain (op_leP hu) (op_leP hu) o_le o_le (pb3 (pe3_str)) (pb3 (pe3_ix (ix_all hu) o_ixA (pb3_v (pv 0)) (pb3_v (pv 3)) (fun _ _ => rfl))) (pb3 (pe3_str))))))) (pss3_cons (ps3_ret (pe3_bl)) (pss3_nil)) (pss3_nil)) (pss3_nil)) (pss3_nil)) (pss3_nil)))) (pss3_cons (ps3_ret (pe3_bl)) (pss3_nil))
abbrev s_law : Stmt := topS 10
theorem l_law (ds A Q E) (h : sp_law ds A Q E) : ds.length = (["_law_script"] : List Str).length := by first | (obtain ⟨rfl, _⟩ := h; rfl) | (obtain ⟨_, rfl, _⟩ := h; rfl) | (obtain ⟨_, _, rfl, _⟩ := h; rfl) | (obtain ⟨_, _, _, rfl, _⟩ := h; rfl) | (obtain ⟨_, _, _, _, rfl, _⟩ := h; rfl) | (obtain ⟨_, _, _, _, _, rfl, _⟩ := h; rfl) | (obtain ⟨_, _, _, _, _, _, rfl, _⟩ := h; rfl)
theorem sc_law : FnScope N_law ["_law_script"] (defScope s_law) := ⟨rfl, rfl, rfl, by decide +kernel, rfl, by decide +kernel, by decide +kernel⟩
theorem ok_law {f : Addr} {fd : FuncData} (F : Fun K "law" "law" s_law f fd) (T : Txt mg) (G_names_in : Def3 P w K mg base "names_in" 2 ["saying", "people"] sp_names_in) (G_cell_at : Def3 P w K mg base "_law_cell_at" 1 ["_law_script", "_law_k"] sp_cell_at) (G_sameA : Def3 P w K mg base "_law_same" 5 ["_law_found", "_law_due"] (sp_sameA 4)) (G_named : Def3 P w K mg base "_law_named" 1 ["_law_saying_here", "_law_name"] sp_named) (G_saying : Def3 P w K mg base "_law_saying" 1 ["_law_cell", "_law_words_here"] sp_saying) (G_words : Def3 P w K mg base "_law_words" 1 ["_law_cell", "_law_many"] sp_words) : FnOk P w K mg base CX0 6 f fd ["_law_script"] (lsp K w sp_law) := by
  refine fn3 (t := b_law) F sc_law l_law (fun cdv A outer s H E C hr => ?_) m_law
  have hu := hr.units
  exact pss3_cons (ps3_set (i := 1) sc_law.nd rfl (by first | exact Or.inl rfl | exact Or.inr rfl) (pe3_fz (pe3_slice (pb3 (pe3_def G_words (hr.mono (by decide)) rfl (pa3_cons (pe3_def G_cell_at (hr.mono (by decide)) rfl (pa3_cons (pe3_v (pv 0)) (pa3_cons (pe3_int) (pa3_nil)))) (pa3_cons (pe3_int) (pa3_nil))))) (po3_none) (po3_some (pe3_op op_addA o_add (pb3 (pe3_int)) (pb3 (pe3_op op_mod o_mod (pb3 (pe3_def G_cell_at (hr.mono (by decide)) rfl (pa3_cons (pe3_v (pv 0)) (pa3_cons (pe3_int) (pa3_nil))))) (pb3 (pe3_int))))))))) (pss3_cons (ps3_set (i := 2) sc_law.nd rfl (by first | exact Or.inl rfl | exact Or.inr rfl) (pe3_fz (pe3_callTy (call_listA rfl) o_listA rfl T.b_list (by decide +kernel) (pab3_cons (pb3_v (pv 1)) (pab3_nil))))) (pss3_cons (ps3_if (pt3_cmp (op_eqP hu) o_eq (pb3 (pe3_op op_mod o_mod (pb3 (pe3_op op_fdivW o_fdiv (pb3 (pe3_def G_cell_at (hr.mono (by decide)) rfl (pa3_cons (pe3_v (pv 0)) (pa3_cons (pe3_int) (pa3_nil))))) (pb3 (pe3_int)))) (pb3 (pe3_int)))) (pb3 (pe3_int)) (nomark _)) (pss3_cons (ps3_set (i := 2) sc_law.nd rfl (by first | exact Or.inl rfl | exact Or.inr rfl) (pe3_fz (pe3_op op_addA o_add (pb3 (pe3_revL (pb3_v (pv 2)))) (pb3 (pe3_slice (pb3_v (pv 2)) (po3_none) (po3_some (pe3_int))))))) (pss3_nil)) (pss3_nil)) (pss3_cons (ps3_for (p := .nm 3) PassesOwn.never rfl (pi3_s (pe3_op op_addA o_add (pb3 (pe3_slice (pb3_v (pv 0)) (po3_some (pe3_int)) (po3_some (pe3_int)))) (pb3 (pe3_lst (pa3_cons (pe3_op op_addA o_add (pb3 (pe3_op op_mulA o_mul (pb3 (pe3_def G_cell_at (hr.mono (by decide)) rfl (pa3_cons (pe3_v (pv 0)) (pa3_cons (pe3_int) (pa3_nil))))) (pb3 (pe3_int)))) (pb3 (pe3_int))) (pa3_nil)))))) (pg_name (i := 3) sc_law.nd rfl (by first | exact Or.inl rfl | exact Or.inr rfl)) (pss3_cons (ps3_set (i := 4) sc_law.nd rfl (by first | exact Or.inl rfl | exact Or.inr rfl) (pe3_fz (pe3_def G_saying (hr.mono (by decide)) rfl (pa3_cons (pe3_v (pv 3)) (pa3_cons (pe3_v (pv 1)) (pa3_nil)))))) (pss3_cons (ps3_set (i := 5) sc_law.nd rfl (by first | exact Or.inl rfl | exact Or.inr rfl) (pe3_fz (pe3_callB (call_sortedA rfl hu) o_sorted rfl T.b_sorted (by decide +kernel) (pab3_cons (pb3 (pe3_lc (own := [("_law_name", 8)]) (p := .nm 8) rfl sc_law.nd (pi3_s (pe3_v (pv 1))) (blkOk_by (N := N_law) (sc := defScope s_law) (by decide +kernel)) (by decide) (fun _ _ _ _ _ => pg_name (i := 8) sc_law.nd rfl (by first | exact Or.inl rfl | exact Or.inr rfl)) (fun _ _ _ _ _ _ => pts3_one (pt3_val (pe3_def G_named (hr.mono (by decide)) rfl (pa3_cons (pe3_v (pv 4)) (pa3_cons (pe3_v (pv 8)) (pa3_nil)))))) (fun _ _ _ _ _ _ => pe3_v (pv 8)))) (pab3_nil))))) (pss3_cons (ps3_for (p := .nm 6) PassesOwn.never rfl (pi3_s (pe3_lst (pa3_cons (pe3_v (pv 2)) (pa3_cons (pe3_callTy call_tupleS o_tuple rfl T.b_tuple (by decide +kernel) (pab3_cons (pb3_v (pv 2)) (pab3_nil))) (pa3_nil))))) (pg_name (i := 6) sc_law.nd rfl (by first | exact Or.inl rfl | exact Or.inr rfl)) (pss3_cons (ps3_setR (i := 7) sc_law.nd rfl (by first | exact Or.inl rfl | exact Or.inr rfl) (pe3_def G_names_in (hr.mono (by decide)) rfl (pa3_cons (pe3_v (pv 4)) (pa3_cons (pe3_v (pv 6)) (pa3_nil))))) (pss3_cons (ps3_if (pt3_not (pt3_val (pe3_def G_sameA (hr.mono (by decide)) rfl (pa3_cons (pe3_v (pv 7)) (pa3_cons (pe3_v (pv 5)) (pa3_nil)))))) (pss3_cons (ps3_ret (pe3_bl)) (pss3_nil)) (pss3_nil)) (pss3_cons (ps3_expr (pe3_mr PySem.F.plainAttrs_list PySem.F.slot_list_append PySem.F.type_list_append mt_append m_append (pe3_v (pv 7)) (pa3_cons (pe3_str) (pa3_nil)))) (pss3_cons (ps3_if (pt3_not (pt3_val (pe3_def G_sameA (hr.mono (by decide)) rfl (pa3_cons (pe3_def G_names_in (hr.mono (by decide)) rfl (pa3_cons (pe3_v (pv 4)) (pa3_cons (pe3_v (pv 6)) (pa3_nil)))) (pa3_cons (pe3_v (pv 5)) (pa3_nil)))))) (pss3_cons (ps3_ret (pe3_bl)) (pss3_nil)) (pss3_nil)) (pss3_nil)))))) (pss3_nil))))) (pss3_cons (ps3_if (PW.pt (pw3_or (pt3_cmp (op_neP hu) o_ne (pb3 (pe3_def G_names_in (hr.mono (by decide)) rfl (pa3_cons (pe3_op op_addA o_add (pb3 (pe3_str)) (pb3 (pe3_ix (ix_all hu) o_ixA (pb3_v (pv 1)) (pb3 (pe3_int)) (fun _ _ => rfl)))) (pa3_cons (pe3_lst (pa3_nil)) (pa3_nil))))) (pb3 (pe3_lst (pa3_nil))) (nomark _)) (pw3_or1 (pt3_cmp (op_neP hu) o_ne (pb3 (pe3_def G_names_in (hr.mono (by decide)) rfl (pa3_cons (pe3_op op_addA o_add (pb3 (pe3_str)) (pb3 (pe3_ix (ix_all hu) o_ixA (pb3_v (pv 1)) (pb3 (pe3_int)) (fun _ _ => rfl)))) (pa3_cons (pe3_tup (pa3_nil)) (pa3_nil))))) (pb3 (pe3_lst (pa3_nil))) (nomark _))))) (pss3_cons (ps3_ret (pe3_bl)) (pss3_nil)) (pss3_nil)) (pss3_cons (ps3_ret (pe3_or (pe3_cmp (op_eqP hu) o_eq (pb3_v (pv 2)) (pb3 (pe3_callTy (call_listA rfl) o_listA rfl T.b_list (by decide +kernel) (pab3_cons (pb3_v (pv 1)) (pab3_nil)))) (nomark _)) (pe3_one (pe3_cmp (op_eqP hu) o_eq (pb3_v (pv 2)) (pb3 (pe3_op op_addA o_add (pb3 (pe3_revL (pb3 (pe3_callTy (call_listA rfl) o_listA rfl T.b_list (by decide +kernel) (pab3_cons (pb3_v (pv 1)) (pab3_nil)))))) (pb3 (pe3_slice (pb3 (pe3_callTy (call_listA rfl) o_listA rfl T.b_list (by decide +kernel) (pab3_cons (pb3_v (pv 1)) (pab3_nil)))) (po3_none) (po3_some (pe3_int)))))) (nomark _))))) (pss3_nil))))))
end
theorem all_mk {l : PySem.W.OpenLaw} {w : World} {K : PySem.W.Frag} {h : Heap} {mg : Str → Option Value} {fa f0 f1 f2 f3 f4 f5 f6 f7 : Addr} (X : K.In h) (G : h.Ns mainGlobals mg) (hfa : mg "law" = some (.ref fa))
    {od0 an0 od1 an1 od2 an2 od3 an3 od4 an4 od5 an5 od6 an6 od7 an7 : Option Addr} {sl0 sl1 sl2 sl3 sl4 sl5 sl6 sl7 : Array (Option Value)} {oc0 kV0 dc0 pm0 cd0 ct0 oc1 kV1 dc1 pm1 cd1 ct1 oc2 kV2 dc2 pm2 cd2 ct2 oc3 kV3 dc3 pm3 cd3 ct3 oc4 kV4 dc4 pm4 cd4 ct4 oc5 kV5 dc5 pm5 cd5 ct5 oc6 kV6 dc6 pm6 cd6 ct6 oc7 kV7 dc7 pm7 cd7 ct7 : Value}
    (a0 : PySem.W.nsIn K mainGlobals "letters_at" = some (some (.ref f0))) (l0 : K.lookup f0 = some ⟨oc0, od0, .func (PySem.W.fnOf "letters_at" "letters_at" (defArgs s_letters_at) (defBody s_letters_at) (defScope s_letters_at) .none kV0 dc0 pm0 an0 cd0 ct0), sl0⟩) (c0 : PySem.W.codeIn K cd0 "letters_at" = true) (k0 : PySem.W.keepIn K (.ref f0) = true)
    (a1 : PySem.W.nsIn K mainGlobals "names_in" = some (some (.ref f1))) (l1 : K.lookup f1 = some ⟨oc1, od1, .func (PySem.W.fnOf "names_in" "names_in" (defArgs s_names_in) (defBody s_names_in) (defScope s_names_in) .none kV1 dc1 pm1 an1 cd1 ct1), sl1⟩) (c1 : PySem.W.codeIn K cd1 "names_in" = true) (k1 : PySem.W.keepIn K (.ref f1) = true)
    (a2 : PySem.W.nsIn K mainGlobals "_law_cell_at" = some (some (.ref f2))) (l2 : K.lookup f2 = some ⟨oc2, od2, .func (PySem.W.fnOf "_law_cell_at" "_law_cell_at" (defArgs s_cell_at) (defBody s_cell_at) (defScope s_cell_at) .none kV2 dc2 pm2 an2 cd2 ct2), sl2⟩) (c2 : PySem.W.codeIn K cd2 "_law_cell_at" = true) (k2 : PySem.W.keepIn K (.ref f2) = true)
    (a3 : PySem.W.nsIn K mainGlobals "_law_words" = some (some (.ref f3))) (l3 : K.lookup f3 = some ⟨oc3, od3, .func (PySem.W.fnOf "_law_words" "_law_words" (defArgs s_words) (defBody s_words) (defScope s_words) .none kV3 dc3 pm3 an3 cd3 ct3), sl3⟩) (c3 : PySem.W.codeIn K cd3 "_law_words" = true) (k3 : PySem.W.keepIn K (.ref f3) = true)
    (a4 : PySem.W.nsIn K mainGlobals "_law_same" = some (some (.ref f4))) (l4 : K.lookup f4 = some ⟨oc4, od4, .func (PySem.W.fnOf "_law_same" "_law_same" (defArgs s_sameA) (defBody s_sameA) (defScope s_sameA) .none kV4 dc4 pm4 an4 cd4 ct4), sl4⟩) (c4 : PySem.W.codeIn K cd4 "_law_same" = true) (k4 : PySem.W.keepIn K (.ref f4) = true)
    (a5 : PySem.W.nsIn K mainGlobals "_law_saying" = some (some (.ref f5))) (l5 : K.lookup f5 = some ⟨oc5, od5, .func (PySem.W.fnOf "_law_saying" "_law_saying" (defArgs s_saying) (defBody s_saying) (defScope s_saying) .none kV5 dc5 pm5 an5 cd5 ct5), sl5⟩) (c5 : PySem.W.codeIn K cd5 "_law_saying" = true) (k5 : PySem.W.keepIn K (.ref f5) = true)
    (a6 : PySem.W.nsIn K mainGlobals "_law_named" = some (some (.ref f6))) (l6 : K.lookup f6 = some ⟨oc6, od6, .func (PySem.W.fnOf "_law_named" "_law_named" (defArgs s_named) (defBody s_named) (defScope s_named) .none kV6 dc6 pm6 an6 cd6 ct6), sl6⟩) (c6 : PySem.W.codeIn K cd6 "_law_named" = true) (k6 : PySem.W.keepIn K (.ref f6) = true)
    (a7 : PySem.W.nsIn K mainGlobals "law" = some (some (.ref f7))) (l7 : K.lookup f7 = some ⟨oc7, od7, .func (PySem.W.fnOf "law" "law" (defArgs s_law) (defBody s_law) (defScope s_law) .none kV7 dc7 pm7 an7 cd7 ct7), sl7⟩) (c7 : PySem.W.codeIn K cd7 "law" = true) (k7 : PySem.W.keepIn K (.ref f7) = true)
    (z_bool : PySem.W.nsIn K mainGlobals "bool" = some none)
    (z_enumerate : PySem.W.nsIn K mainGlobals "enumerate" = some none)
    (z_int : PySem.W.nsIn K mainGlobals "int" = some none)
    (z_isinstance : PySem.W.nsIn K mainGlobals "isinstance" = some none)
    (z_len : PySem.W.nsIn K mainGlobals "len" = some none)
    (z_list : PySem.W.nsIn K mainGlobals "list" = some none)
    (z_range : PySem.W.nsIn K mainGlobals "range" = some none)
    (z_set : PySem.W.nsIn K mainGlobals "set" = some none)
    (z_sorted : PySem.W.nsIn K mainGlobals "sorted" = some none)
    (z_str : PySem.W.nsIn K mainGlobals "str" = some none)
    (z_tuple : PySem.W.nsIn K mainGlobals "tuple" = some none)
    (z_zip : PySem.W.nsIn K mainGlobals "zip" = some none)
    {t_LETTERS : Tok} (y_LETTERS : PySem.W.nsIn K mainGlobals "LETTERS" = some (some (.str "abcdefghijklmnopqrstuvwxyz" t_LETTERS))) :
    ∃ fd : FuncData, (∀ (s : Shared) (v : Value), BindsTo s fd ⟨[v], []⟩ [("_law_script", v)]) ∧ ∀ base : Heap, K.In base → base.Ns mainGlobals mg → FnOk l.prog w K mg base CX0 6 fa fd ["_law_script"] (lsp K w sp_law) := by
  have e := hfa.symm.trans (PySem.W.mg_of X G a7)
  cases e
  have T : Txt mg := ⟨PySem.W.mg_none_of X G z_bool, PySem.W.mg_none_of X G z_enumerate, PySem.W.mg_none_of X G z_int, PySem.W.mg_none_of X G z_isinstance, PySem.W.mg_none_of X G z_len, PySem.W.mg_none_of X G z_list, PySem.W.mg_none_of X G z_range, PySem.W.mg_none_of X G z_set, PySem.W.mg_none_of X G z_sorted, PySem.W.mg_none_of X G z_str, PySem.W.mg_none_of X G z_tuple, PySem.W.mg_none_of X G z_zip, ⟨_, PySem.W.mg_of X G y_LETTERS⟩⟩
  refine ⟨PySem.W.fnOf "law" "law" (defArgs s_law) (defBody s_law) (defScope s_law) .none kV7 dc7 pm7 an7 cd7 ct7, fun s v => .of_eq rfl, fun base _ _ => ?_⟩
  have F0 := fun_mk (st := s_letters_at) l0 c0 k0
  have G_letters_at : Def3 l.prog w K mg base "letters_at" 1 ["saying", "at"] sp_letters_at := ⟨f0, _, ok_letters_at F0 T, PySem.W.mg_of X G a0, k0, F0.binds (ps := ["saying", "at"]) fun _ _ _ _ _ _ us hl => match us, hl with | [_, _], _ => rfl⟩
  have F1 := fun_mk (st := s_names_in) l1 c1 k1
  have G_names_in : Def3 l.prog w K mg base "names_in" 2 ["saying", "people"] sp_names_in := ⟨f1, _, ok_names_in F1 T G_letters_at, PySem.W.mg_of X G a1, k1, F1.binds (ps := ["saying", "people"]) fun _ _ _ _ _ _ us hl => match us, hl with | [_, _], _ => rfl⟩
  have F2 := fun_mk (st := s_cell_at) l2 c2 k2
  have G_cell_at : Def3 l.prog w K mg base "_law_cell_at" 1 ["_law_script", "_law_k"] sp_cell_at := ⟨f2, _, ok_cell_at F2 T, PySem.W.mg_of X G a2, k2, F2.binds (ps := ["_law_script", "_law_k"]) fun _ _ _ _ _ _ us hl => match us, hl with | [_, _], _ => rfl⟩
  have F3 := fun_mk (st := s_words) l3 c3 k3
  have G_words : Def3 l.prog w K mg base "_law_words" 1 ["_law_cell", "_law_many"] sp_words := ⟨f3, _, ok_words F3 T, PySem.W.mg_of X G a3, k3, F3.binds (ps := ["_law_cell", "_law_many"]) fun _ _ _ _ _ _ us hl => match us, hl with | [_, _], _ => rfl⟩
  have F4 := fun_mk (st := s_sameA) l4 c4 k4
  have B4 : L2.Binds K _ ["_law_found", "_law_due"] [] := F4.binds (ps := ["_law_found", "_law_due"]) fun _ _ _ _ _ _ us hl => match us, hl with | [_, _], _ => rfl
  have G_sameA : Def3 l.prog w K mg base "_law_same" 5 ["_law_found", "_law_due"] (sp_sameA 4) := ⟨f4, _, ok_sameA F4 T (PySem.W.mg_of X G a4) k4 B4 4, PySem.W.mg_of X G a4, k4, B4⟩
  have F5 := fun_mk (st := s_saying) l5 c5 k5
  have G_saying : Def3 l.prog w K mg base "_law_saying" 1 ["_law_cell", "_law_words_here"] sp_saying := ⟨f5, _, ok_saying F5 T, PySem.W.mg_of X G a5, k5, F5.binds (ps := ["_law_cell", "_law_words_here"]) fun _ _ _ _ _ _ us hl => match us, hl with | [_, _], _ => rfl⟩
  have F6 := fun_mk (st := s_named) l6 c6 k6
  have G_named : Def3 l.prog w K mg base "_law_named" 1 ["_law_saying_here", "_law_name"] sp_named := ⟨f6, _, ok_named F6 T, PySem.W.mg_of X G a6, k6, F6.binds (ps := ["_law_saying_here", "_law_name"]) fun _ _ _ _ _ _ us hl => match us, hl with | [_, _], _ => rfl⟩
  have F7 := fun_mk (st := s_law) l7 c7 k7
  exact ok_law F7 T G_names_in G_cell_at G_sameA G_named G_saying G_words
theorem walk {l : PySem.W.OpenLaw} {q : Program} {loose : List Str} {XP : (Str → Option Value) → Heap → Prop} {YP : World → Heap → Prop} {d : DefRec} {K : Params → PySem.W.Frag} (hn : l.most = some 63) (hdf : d.params.defaults = [])
    (hY : ∀ (w : World) (h : Heap), YP w h → (K w.params).In h)
    (F : ∀ (w : World) (mg : Str → Option Value) (fa : Addr) (h : Heap), (K w.params).In h → h.Ns mainGlobals mg → mg d.name = some (.ref fa) →
      ∃ fd : FuncData, (∀ (s : Shared) (u : Value), BindsTo s fd ⟨[u], []⟩ [("_law_script", u)]) ∧ ∀ base : Heap, (K w.params).In base → base.Ns mainGlobals mg → FnOk l.prog w (K w.params) mg base CX0 6 fa fd ["_law_script"] (lsp (K w.params) w sp_law)) :
    PySem.W.WalkO q loose XP YP l.row.toRowW d [] (fun f vs => PySem.call f vs) :=
  L2.walk_of (n := 63) (k := 6) (x := "_law_script") (CX := fun _ => CX0) (sp := fun w => lsp (K w.params) w sp_law) hn (by decide) hdf ⟨rfl, by decide, by decide⟩ hY F (fun w H a ns hl hO hS => law_sp (K := K w.params) (w := w) (fun Q hq => law_true hl hq) hO hS) fun _ _ _ _ _ z => z
end T3
open PySem PySem.W PyProof.Rows in
set_option maxRecDepth 100000 in
set_option maxHeartbeats 0 in
theorem PySem.Challenge.cw_talkmarks_k03_who_is_named_holds : PySem.Challenge.rw_talkmarks_k03_who_is_named.Holds := by
  w_on; o_law; k_head; (case hw => w_witness2)
  k_fill
  refine T3.walk (l := PySem.Challenge.rw_talkmarks_k03_who_is_named) rfl rfl (fun w h Y => PySem.W.kIn_of Y) ?F
  case F =>
    intro w mg fa h KX G hmg
    refine' T3.all_mk KX G hmg ?a0 ?l0 ?c0 ?k0 ?a1 ?l1 ?c1 ?k1 ?a2 ?l2 ?c2 ?k2 ?a3 ?l3 ?c3 ?k3 ?a4 ?l4 ?c4 ?k4 ?a5 ?l5 ?c5 ?k5 ?a6 ?l6 ?c6 ?k6 ?a7 ?l7 ?c7 ?k7 ?z_bool ?z_enumerate ?z_int ?z_isinstance ?z_len ?z_list ?z_range ?z_set ?z_sorted ?z_str ?z_tuple ?z_zip ?y_LETTERS
    (case a0 => k_is)
    (case l0 => k_is)
    (case c0 => k_is)
    (case k0 => k_is)
    (case a1 => k_is)
    (case l1 => k_is)
    (case c1 => k_is)
    (case k1 => k_is)
    (case a2 => k_is)
    (case l2 => k_is)
    (case c2 => k_is)
    (case k2 => k_is)
    (case a3 => k_is)
    (case l3 => k_is)
    (case c3 => k_is)
    (case k3 => k_is)
    (case a4 => k_is)
    (case l4 => k_is)
    (case c4 => k_is)
    (case k4 => k_is)
    (case a5 => k_is)
    (case l5 => k_is)
    (case c5 => k_is)
    (case k5 => k_is)
    (case a6 => k_is)
    (case l6 => k_is)
    (case c6 => k_is)
    (case k6 => k_is)
    (case a7 => k_is)
    (case l7 => k_is)
    (case c7 => k_is)
    (case k7 => k_is)
    (case z_bool => k_is)
    (case z_enumerate => k_is)
    (case z_int => k_is)
    (case z_isinstance => k_is)
    (case z_len => k_is)
    (case z_list => k_is)
    (case z_range => k_is)
    (case z_set => k_is)
    (case z_sorted => k_is)
    (case z_str => k_is)
    (case z_tuple => k_is)
    (case z_zip => k_is)
    (case y_LETTERS => k_is)
