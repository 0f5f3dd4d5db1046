import PyProof.Rows.All
import Wide.All
import OpenK.AllK
import Wide.FinOn
import HandS.ForMost
import HandS.ForExc
import KE.KeyNested
import HandS.IsInst
import HandS.Wide
import HandS.TupAny
import HandS.StrMore
import KE.DataEq
import KE.DataCmp
import KE.DataMinMax
import KE.DataFind
import PyProof.StrOps2
import HandS.Ends
import HandS.TupLe
import PyProof.Rows.StrFirst
import PySem.Challenge.RW_talkmarks_k02_what_is_a_saying
set_option Elab.async false
set_option linter.all false
set_option maxRecDepth 100000
namespace T3
open PySem PySem.Spec PyProof.Rows L2

/-- data as trees: tuples, lists and dicts that nobody changes any more; ref: an object that others hold, too; ml, md: a list, a dict that one slot alone holds -/
inductive D where
  | non | bl (b : Bool) | int (i : Int) | str (x : Str)
  | tup (xs : List D) | lst (xs : List D) | dct (kvs : List (D × D))
  | ref (a : Addr) | ml (xs : List D) | md (kvs : List (D × D))
  deriving Inhabited

namespace D
mutual
def beq : D → D → Bool
  | .non, .non => true
  | .bl a, .bl b => decide (a = b)
  | .int a, .int b => decide (a = b)
  | .str a, .str b => decide (a = b)
  | .tup a, .tup b => beqs a b
  | .lst a, .lst b => beqs a b
  | .ml a, .ml b => beqs a b
  | .dct a, .dct b => beqk a b
  | .md a, .md b => beqk a b
  | .ref a, .ref b => decide (a = b)
  | _, _ => false
def beqs : List D → List D → Bool
  | [], [] => true
  | a :: as, b :: bs => beq a b && beqs as bs
  | _, _ => false
def beqk : List (D × D) → List (D × D) → Bool
  | [], [] => true
  | (a, b) :: as, (c, d) :: bs => beq a c && beq b d && beqk as bs
  | _, _ => false
end
mutual
theorem beq_self : ∀ a : D, beq a a = true
  | .non => rfl
  | .bl a => by simp [beq]
  | .int a => by simp [beq]
  | .str a => by simp [beq]
  | .tup a => by rw [beq]; exact beqs_self a
  | .lst a => by rw [beq]; exact beqs_self a
  | .ml a => by rw [beq]; exact beqs_self a
  | .dct a => by rw [beq]; exact beqk_self a
  | .md a => by rw [beq]; exact beqk_self a
  | .ref a => by simp [beq]
theorem beqs_self : ∀ a : List D, beqs a a = true
  | [] => rfl
  | a :: as => by rw [beqs, beq_self a, beqs_self as]; rfl
theorem beqk_self : ∀ a : List (D × D), beqk a a = true
  | [] => rfl
  | (a, b) :: as => by rw [beqk, beq_self a, beq_self b, beqk_self as]; rfl
end
mutual
theorem eq_of_beq : ∀ a b : D, beq a b = true → a = b
  | .non, b, h => by cases b <;> simp_all [beq]
  | .bl a, b, h => by cases b <;> simp_all [beq]
  | .int a, b, h => by cases b <;> simp_all [beq]
  | .str a, b, h => by cases b <;> simp_all [beq]
  | .ref a, b, h => by cases b <;> simp_all [beq]
  | .tup a, b, h => by
    cases b with
    | tup b => rw [beq] at h; rw [eq_of_beqs a b h]
    | _ => simp [beq] at h
  | .lst a, b, h => by
    cases b with
    | lst b => rw [beq] at h; rw [eq_of_beqs a b h]
    | _ => simp [beq] at h
  | .ml a, b, h => by
    cases b with
    | ml b => rw [beq] at h; rw [eq_of_beqs a b h]
    | _ => simp [beq] at h
  | .dct a, b, h => by
    cases b with
    | dct b => rw [beq] at h; rw [eq_of_beqk a b h]
    | _ => simp [beq] at h
  | .md a, b, h => by
    cases b with
    | md b => rw [beq] at h; rw [eq_of_beqk a b h]
    | _ => simp [beq] at h
theorem eq_of_beqs : ∀ a b : List D, beqs a b = true → a = b
  | [], [], _ => rfl
  | [], _ :: _, h => nomatch h
  | _ :: _, [], h => nomatch h
  | a :: as, b :: bs, h => by
    simp only [beqs, Bool.and_eq_true] at h
    rw [eq_of_beq a b h.1, eq_of_beqs as bs h.2]
theorem eq_of_beqk : ∀ a b : List (D × D), beqk a b = true → a = b
  | [], [], _ => rfl
  | [], _ :: _, h => nomatch h
  | _ :: _, [], h => nomatch h
  | (a, b) :: as, (c, d) :: bs, h => by
    simp only [beqk, Bool.and_eq_true] at h
    rw [eq_of_beq a c h.1.1, eq_of_beq b d h.1.2, eq_of_beqk as bs h.2]
end
end D
instance : DecidableEq D := fun a b => if h : D.beq a b = true then .isTrue (D.eq_of_beq a b h) else .isFalse fun e => h (e ▸ D.beq_self a)
end T3
namespace T3
open PySem PySem.Spec PyProof.Rows L2

/-! ### keys -/
mutual
/-- what may be a key: no truths, no lists -/
def kok : D → Bool
  | .non => true | .int _ => true | .str _ => true | .tup xs => koks xs | _ => false
def koks : List D → Bool
  | [] => true
  | x :: xs => kok x && koks xs
end
mutual
def dk : D → NestedKey
  | .int i => .num i | .str x => .text x | .tup xs => .tup (dks xs) | _ => .none
def dks : List D → List NestedKey
  | [] => []
  | x :: xs => dk x :: dks xs
end
mutual
theorem dk_inj : ∀ a b : D, kok a = true → kok b = true → dk a = dk b → a = b
  | .non, b, _, hb, h => by cases b <;> simp_all [kok, dk]
  | .int i, b, _, hb, h => by cases b <;> simp_all [kok, dk]
  | .str i, b, _, hb, h => by cases b <;> simp_all [kok, dk]
  | .tup xs, b, ha, hb, h => by
    cases b with
    | tup ys =>
      rw [kok] at ha hb
      rw [dk, dk, NestedKey.tup.injEq] at h
      rw [dks_inj xs ys ha hb h]
    | _ => simp_all [kok, dk]
  | .bl _, _, ha, _, _ => by simp [kok] at ha
  | .lst _, _, ha, _, _ => by simp [kok] at ha
  | .dct _, _, ha, _, _ => by simp [kok] at ha
  | .ref _, _, ha, _, _ => by simp [kok] at ha
  | .ml _, _, ha, _, _ => by simp [kok] at ha
  | .md _, _, ha, _, _ => by simp [kok] at ha
theorem dks_inj : ∀ a b : List D, koks a = true → koks b = true → dks a = dks b → a = b
  | [], [], _, _, _ => rfl
  | [], _ :: _, _, _, h => by simp [dks] at h
  | _ :: _, [], _, _, h => by simp [dks] at h
  | x :: xs, y :: ys, ha, hb, h => by
    simp only [koks, Bool.and_eq_true] at ha hb
    simp only [dks, List.cons.injEq] at h
    rw [dk_inj x y ha.1 hb.1 h.1, dks_inj xs ys ha.2 hb.2 h.2]
end
/-- the depth that a look-up of a key allows -/
def kfit (d : D) : Bool := kok d && decide ((dk d).depth ≤ 8)

/-! ### dicts in the abstract heap -/
inductive EntsAre : List (Int × V × V) → List DictEntry → Prop
  | nil : EntsAre [] []
  | cons {n x y e es ens} : e.hash = n → RelV x e.key → RelV y e.val → EntsAre es ens → EntsAre ((n, x, y) :: es) (e :: ens)
theorem EntsAre.length {es : List (Int × V × V)} {ens : List DictEntry} (r : EntsAre es ens) : es.length = ens.length := by
  induction r with
  | nil => rfl
  | cons _ _ _ _ ih => simp [ih]
/-- the dict at a has these entries: hash, key, value -/
def DE (a : Addr) (es : List (Int × V × V)) (h : Heap) : Prop :=
  es.length ≤ sizeLine ∧ (a == sysModules) = false ∧ ∃ o arr ep, h.get? a = some o ∧ o.ExactDict ∧ o.data = .dict arr ep ∧ EntsAre es arr.toList
def dh (a : Addr) (es : List (Int × V × V)) : HO := .ext (DE a es)

/-! ### data and values -/
def SqF (K : PySem.W.Frag) (H : Hp) (a : Addr) (xs : List V) : Prop :=
  (∃ o, H a = some (.frz o (.lst xs))) ∨
    ∃ (o : Obj) (its : Array Value) (n : Nat), K.lookup a = some o ∧ o.cls = .type "list" ∧ o.dict = none ∧ o.data = .seq its n ∧ its.size ≤ sizeLine ∧ Vals xs its.toList
theorem SqF.sql {K : PySem.W.Frag} {H : Hp} {a : Addr} {xs : List V} (h : SqF K H a xs) : SqL K H a xs := by
  rcases h with ⟨o, h⟩ | h
  · exact .inl (.inr ⟨o, h⟩)
  · exact .inr h
/-- keys apart, each of them fit -/
def DOk (kvs : List (D × D)) : Prop := (∀ p ∈ kvs, kfit p.1 = true) ∧ (kvs.map (·.1)).Nodup

section
variable (K : PySem.W.Frag) (w : World) (H : Hp)
mutual
def Rp : D → V → Prop
  | .non, v => v = .non
  | .bl b, v => v = .bl b
  | .int i, v => v = .int i
  | .str x, v => v = .str x
  | .ref a, v => v = .ref a
  | .tup ds, v => ∃ a xs, v = .ref a ∧ SqT K H a xs ∧ Rps ds xs
  | .lst ds, v => ∃ a xs, v = .ref a ∧ SqF K H a xs ∧ Rps ds xs
  | .dct kvs, v => ∃ a es, v = .ref a ∧ (∃ o, H a = some (.frz o (dh a es))) ∧ DOk kvs ∧ Rpk kvs es
  | .ml _, _ => False
  | .md _, _ => False
def Rps : List D → List V → Prop
  | [], xs => xs = []
  | d :: ds, xs => ∃ x r, xs = x :: r ∧ Rp d x ∧ Rps ds r
def Rpk : List (D × D) → List (Int × V × V) → Prop
  | [], es => es = []
  | (k, d) :: kvs, es => ∃ x y r, es = ((dk k).hash w, x, y) :: r ∧ Rp k x ∧ Rp d y ∧ Rpk kvs r
end
end

/-- tuples and what nobody changes any more stay -/
def Pers (H H' : Hp) : Prop := (∀ b xs, H b = some (.tup xs) → H' b = some (.tup xs)) ∧ ∀ b o u, H b = some (.frz o u) → H' b = some (.frz o u)
theorem Pers.refl (H : Hp) : Pers H H := ⟨fun _ _ h => h, fun _ _ _ h => h⟩
theorem Pers.trans {H H1 H2 : Hp} (a : Pers H H1) (b : Pers H1 H2) : Pers H H2 := ⟨fun _ _ h => b.1 _ _ (a.1 _ _ h), fun _ _ _ h => b.2 _ _ _ (a.2 _ _ _ h)⟩
/-- all that was tracked is as it was -/
abbrev Ext (H H' : Hp) : Prop := ∀ b o, H b = some o → H' b = some o
theorem Pers.of_ext {H H' : Hp} (e : Ext H H') : Pers H H' := ⟨fun _ _ h => e _ _ h, fun _ _ _ h => e _ _ h⟩
theorem ext_upd {H : Hp} {p : Addr} {o : HO} (h : H p = none) : Ext H (upd H p o) := fun b u e => by
  rw [upd_ne (ne_of_none e h)]; exact e
/-- a thing that may change is replaced -/
def Chg (o : HO) : Prop := (∀ xs, o ≠ .tup xs) ∧ ∀ b u, o ≠ .frz b u
theorem pers_upd {H : Hp} {p : Addr} {o u : HO} (h : H p = some o) (c : Chg o) : Pers H (upd H p u) := by
  refine ⟨fun b xs e => ?_, fun b v z e => ?_⟩
  · have : b ≠ p := fun q => by rw [q, h] at e; cases e; exact c.1 _ rfl
    rw [upd_ne this]; exact e
  · have : b ≠ p := fun q => by rw [q, h] at e; cases e; exact c.2 _ _ rfl
    rw [upd_ne this]; exact e
theorem chg_lst {xs : List V} : Chg (.lst xs) := ⟨(fun _ h => nomatch h), (fun _ _ h => nomatch h)⟩
theorem chg_dh {a : Addr} {es : List (Int × V × V)} : Chg (dh a es) := ⟨fun _ (h : HO.ext _ = _) => (nomatch h), fun _ _ (h : HO.ext _ = _) => (nomatch h)⟩
theorem chg_ins {C dx : Addr} {fs : List (Str × V)} : Chg (.ins C dx fs) := ⟨(fun _ h => nomatch h), (fun _ _ h => nomatch h)⟩

section
variable {K : PySem.W.Frag} {w : World} {H H' : Hp}
theorem SqT.pers {a : Addr} {xs : List V} (p : Pers H H') (h : SqT K H a xs) : SqT K H' a xs := by
  rcases h with (h | ⟨o, h⟩) | h
  · exact .inl (.inl (p.1 _ _ h))
  · exact .inl (.inr ⟨o, p.2 _ _ _ h⟩)
  · exact .inr h
theorem SqF.pers {a : Addr} {xs : List V} (p : Pers H H') (h : SqF K H a xs) : SqF K H' a xs := by
  rcases h with ⟨o, h⟩ | h
  · exact .inl ⟨o, p.2 _ _ _ h⟩
  · exact .inr h
mutual
theorem Rp.pers (p : Pers H H') : ∀ {d : D} {v : V}, Rp K w H d v → Rp K w H' d v
  | .non, _, h => by rw [Rp] at h ⊢; exact h
  | .bl _, _, h => by rw [Rp] at h ⊢; exact h
  | .int _, _, h => by rw [Rp] at h ⊢; exact h
  | .str _, _, h => by rw [Rp] at h ⊢; exact h
  | .ref _, _, h => by rw [Rp] at h ⊢; exact h
  | .tup ds, _, h => by
    rw [Rp] at h ⊢
    obtain ⟨a, xs, e, s, r⟩ := h
    exact ⟨a, xs, e, SqT.pers p s, Rps.pers p r⟩
  | .lst ds, _, h => by
    rw [Rp] at h ⊢
    obtain ⟨a, xs, e, s, r⟩ := h
    exact ⟨a, xs, e, s.pers p, Rps.pers p r⟩
  | .dct kvs, _, h => by
    rw [Rp] at h ⊢
    obtain ⟨a, es, e, ⟨o, s⟩, k, r⟩ := h
    exact ⟨a, es, e, ⟨o, p.2 _ _ _ s⟩, k, Rpk.pers p r⟩
  | .ml _, _, h => by rw [Rp] at h; exact h.elim
  | .md _, _, h => by rw [Rp] at h; exact h.elim
theorem Rps.pers (p : Pers H H') : ∀ {ds : List D} {xs : List V}, Rps K w H ds xs → Rps K w H' ds xs
  | [], _, h => by rw [Rps] at h ⊢; exact h
  | d :: ds, _, h => by
    rw [Rps] at h ⊢
    obtain ⟨x, r, e, h1, h2⟩ := h
    exact ⟨x, r, e, Rp.pers p h1, Rps.pers p h2⟩
theorem Rpk.pers (p : Pers H H') : ∀ {kvs : List (D × D)} {es : List (Int × V × V)}, Rpk K w H kvs es → Rpk K w H' kvs es
  | [], _, h => by rw [Rpk] at h ⊢; exact h
  | (k, d) :: kvs, _, h => by
    rw [Rpk] at h ⊢
    obtain ⟨x, y, r, e, h1, h2, h3⟩ := h
    exact ⟨x, y, r, e, Rp.pers p h1, Rp.pers p h2, Rpk.pers p h3⟩
end
theorem Rps.length : ∀ {ds : List D} {xs : List V}, Rps K w H ds xs → xs.length = ds.length
  | [], _, h => by rw [Rps] at h; rw [h]; rfl
  | d :: ds, _, h => by
    rw [Rps] at h
    obtain ⟨x, r, rfl, _, h2⟩ := h
    rw [List.length_cons, List.length_cons, Rps.length h2]
theorem Rps.append : ∀ {ds es : List D} {xs ys : List V}, Rps K w H ds xs → Rps K w H es ys → Rps K w H (ds ++ es) (xs ++ ys)
  | [], _, _, _, h, h' => by rw [Rps] at h; rw [h]; exact h'
  | d :: ds, _, _, _, h, h' => by
    rw [Rps] at h
    obtain ⟨x, r, rfl, h1, h2⟩ := h
    show Rps K w H (d :: (ds ++ _)) (x :: (r ++ _))
    rw [Rps]
    exact ⟨x, _, rfl, h1, Rps.append h2 h'⟩
theorem Rps.one {d : D} {v : V} (h : Rp K w H d v) : Rps K w H [d] [v] := by rw [Rps]; exact ⟨v, [], rfl, h, by rw [Rps]⟩
theorem Rps.nil : Rps K w H [] [] := by rw [Rps]
theorem Rps.cons {d : D} {v : V} {ds : List D} {xs : List V} (h : Rp K w H d v) (t : Rps K w H ds xs) : Rps K w H (d :: ds) (v :: xs) := by rw [Rps]; exact ⟨v, xs, rfl, h, t⟩
theorem Rps.get : ∀ {ds : List D} {xs : List V} {i : Nat} {d : D}, Rps K w H ds xs → ds[i]? = some d → ∃ v, xs[i]? = some v ∧ Rp K w H d v
  | [], _, _, _, _, e => by simp at e
  | d :: ds, _, i, _, h, e => by
    rw [Rps] at h
    obtain ⟨x, r, rfl, h1, h2⟩ := h
    cases i with
    | zero => simp at e; subst e; exact ⟨x, rfl, h1⟩
    | succ i => exact Rps.get (i := i) h2 (by simpa using e)
theorem Rps.getV : ∀ {ds : List D} {xs : List V} {i : Nat} {v : V}, Rps K w H ds xs → xs[i]? = some v → ∃ d, ds[i]? = some d ∧ Rp K w H d v
  | [], _, _, _, h, e => by rw [Rps] at h; subst h; simp at e
  | d :: ds, _, i, _, h, e => by
    rw [Rps] at h
    obtain ⟨x, r, rfl, h1, h2⟩ := h
    cases i with
    | zero => simp at e; subst e; exact ⟨d, rfl, h1⟩
    | succ i => exact Rps.getV (i := i) h2 (by simpa using e)
theorem Rps.set : ∀ {ds : List D} {xs : List V} {d : D} {v : V} (i : Nat), Rps K w H ds xs → Rp K w H d v → Rps K w H (ds.set i d) (xs.set i v)
  | [], _, _, _, _, h, _ => by rw [Rps] at h; subst h; exact Rps.nil
  | e :: ds, _, d, v, i, h, r => by
    rw [Rps] at h
    obtain ⟨x, q, rfl, h1, h2⟩ := h
    cases i with
    | zero => exact Rps.cons r h2
    | succ i => exact Rps.cons h1 (Rps.set i h2 r)
theorem Rps.take : ∀ {ds : List D} {xs : List V} (n : Nat), Rps K w H ds xs → Rps K w H (ds.take n) (xs.take n)
  | _, _, 0, _ => by simp [Rps.nil]
  | [], _, n + 1, h => by rw [Rps] at h; subst h; exact Rps.nil
  | d :: ds, _, n + 1, h => by
    rw [Rps] at h
    obtain ⟨x, q, rfl, h1, h2⟩ := h
    exact Rps.cons h1 (Rps.take n h2)
theorem Rps.drop : ∀ {ds : List D} {xs : List V} (n : Nat), Rps K w H ds xs → Rps K w H (ds.drop n) (xs.drop n)
  | _, _, 0, h => h
  | [], _, n + 1, h => by rw [Rps] at h; subst h; exact Rps.nil
  | d :: ds, _, n + 1, h => by
    rw [Rps] at h
    obtain ⟨x, q, rfl, h1, h2⟩ := h
    exact Rps.drop n h2
theorem Rps.reverse {ds : List D} {xs : List V} (h : Rps K w H ds xs) : Rps K w H ds.reverse xs.reverse := by
  induction ds generalizing xs with
  | nil => rw [Rps] at h; subst h; exact Rps.nil
  | cons d ds ih =>
    rw [Rps] at h
    obtain ⟨x, q, rfl, h1, h2⟩ := h
    rw [List.reverse_cons, List.reverse_cons]
    exact (ih h2).append (Rps.one h1)
theorem Rps.eraseIdx : ∀ {ds : List D} {xs : List V} (i : Nat), Rps K w H ds xs → Rps K w H (ds.eraseIdx i) (xs.eraseIdx i)
  | [], _, _, h => by rw [Rps] at h; subst h; exact Rps.nil
  | d :: ds, _, i, h => by
    rw [Rps] at h
    obtain ⟨x, q, rfl, h1, h2⟩ := h
    cases i with
    | zero => exact h2
    | succ i => exact Rps.cons h1 (Rps.eraseIdx i h2)
end

/-! ### what is not data alone -/
/-- an abstract object -/
inductive Ob where
  | lst (xs : List D) | dct (kvs : List (D × D)) | ins (C : Addr) (fs : List (Str × D))
abbrev AH := Addr → Option Ob
def put (A : AH) (a : Addr) (o : Ob) : AH := fun b => if b = a then some o else A b
theorem put_same {A : AH} {a : Addr} {o : Ob} : put A a o a = some o := by unfold put; rw [if_pos rfl]
theorem put_ne {A : AH} {a b : Addr} {o : Ob} (h : b ≠ a) : put A a o b = A b := by unfold put; rw [if_neg h]
theorem put_put {A : AH} {a : Addr} {o u : Ob} : put (put A a o) a u = put A a u := by
  funext b; unfold put; split <;> rfl

def own : D → Bool
  | .ml _ => true | .md _ => true | _ => false
/-- let go: nobody changes it any more -/
def frz : D → D
  | .ml xs => .lst xs | .md kvs => .dct kvs | d => d
def obOf : D → Option Ob
  | .ml xs => some (.lst xs) | .md kvs => some (.dct kvs) | _ => none

section
variable (K : PySem.W.Frag) (w : World) (H : Hp)
def Rpf : List (Str × D) → List (Str × V) → Prop
  | [], xs => xs = []
  | (f, d) :: r, xs => ∃ v q, xs = (f, v) :: q ∧ Rp K w H d v ∧ Rpf r q
/-- the object at a is this -/
def RpO (a : Addr) : Ob → Prop
  | .lst ds => ∃ xs, H a = some (.lst xs) ∧ Rps K w H ds xs
  | .dct kvs => ∃ es, H a = some (dh a es) ∧ DOk kvs ∧ Rpk K w H kvs es
  | .ins C fs => ∃ dx xs, H a = some (.ins C dx xs) ∧ Rpf K w H fs xs
/-- a value, perhaps one that is held here alone -/
def RpV : D → V → Prop
  | .ml ds, v => ∃ a, v = .ref a ∧ RpO K w H a (.lst ds)
  | .md kvs, v => ∃ a, v = .ref a ∧ RpO K w H a (.dct kvs)
  | d, v => Rp K w H d v
end
section
variable {K : PySem.W.Frag} {w : World} {H H' : Hp}
theorem Rpf.pers (p : Pers H H') : ∀ {fs : List (Str × D)} {xs : List (Str × V)}, Rpf K w H fs xs → Rpf K w H' fs xs
  | [], _, h => h
  | (f, d) :: r, _, ⟨v, q, e, h1, h2⟩ => ⟨v, q, e, h1.pers p, h2.pers p⟩
theorem RpO.keep {a : Addr} {o : Ob} (p : Pers H H') (e : H' a = H a) (h : RpO K w H a o) : RpO K w H' a o := by
  cases o with
  | lst ds => obtain ⟨xs, h1, h2⟩ := h; exact ⟨xs, by rw [e]; exact h1, h2.pers p⟩
  | dct kvs => obtain ⟨es, h1, h2, h3⟩ := h; exact ⟨es, by rw [e]; exact h1, h2, h3.pers p⟩
  | ins C fs => obtain ⟨dx, xs, h1, h2⟩ := h; exact ⟨dx, xs, by rw [e]; exact h1, h2.pers p⟩
theorem RpO.there {a : Addr} {o : Ob} (h : RpO K w H a o) : ∃ u, H a = some u ∧ Chg u := by
  cases o with
  | lst ds => obtain ⟨xs, h1, _⟩ := h; exact ⟨_, h1, chg_lst⟩
  | dct kvs => obtain ⟨es, h1, _⟩ := h; exact ⟨_, h1, chg_dh⟩
  | ins C fs => obtain ⟨dx, xs, h1, _⟩ := h; exact ⟨_, h1, chg_ins⟩
theorem RpV.rp {d : D} {v : V} (o : own d = false) (h : RpV K w H d v) : Rp K w H d v := by
  cases d <;> first | exact h | (simp [own] at o)
theorem RpV.of {d : D} {v : V} (h : Rp K w H d v) : RpV K w H d v := by
  cases d <;> first | exact h | (rw [Rp] at h; exact h.elim)
theorem Rp.notOwn {d : D} {v : V} (h : Rp K w H d v) : own d = false := by
  cases d <;> first | rfl | (rw [Rp] at h; exact h.elim)
theorem RpV.ob {d : D} {v : V} (o : own d = true) (h : RpV K w H d v) : ∃ a ob, v = .ref a ∧ obOf d = some ob ∧ RpO K w H a ob := by
  cases d with
  | ml ds => obtain ⟨a, e, h⟩ := h; exact ⟨a, _, e, rfl, h⟩
  | md ds => obtain ⟨a, e, h⟩ := h; exact ⟨a, _, e, rfl, h⟩
  | _ => simp [own] at o
theorem RpV.mk {d : D} {a : Addr} {ob : Ob} (e : obOf d = some ob) (h : RpO K w H a ob) : RpV K w H d (.ref a) := by
  cases d with
  | ml ds => simp [obOf] at e; subst e; exact ⟨a, rfl, h⟩
  | md ds => simp [obOf] at e; subst e; exact ⟨a, rfl, h⟩
  | _ => simp [obOf] at e
theorem RpV.keep {d : D} {v : V} (p : Pers H H') (h : RpV K w H d v) (k : own d = true → ∀ a, v = .ref a → H' a = H a) : RpV K w H' d v := by
  cases o : own d with
  | false => exact .of ((h.rp o).pers p)
  | true =>
    obtain ⟨a, ob, e, eo, r⟩ := h.ob o
    subst e
    exact .mk eo (r.keep p (k o a rfl))
end
end T3
set_option autoImplicit false
namespace T3
open PySem PySem.Spec PyProof.Rows L2

abbrev S3 := List (Option D)
/-- the entry of the def: the abstract heaps there -/
structure Ct where
  H0 : Hp
  A0 : AH
structure Rel (K : PySem.W.Frag) (w : World) (C : Ct) (A : AH) (H : Hp) : Prop where
  heap : ∀ a ob, A a = some ob → RpO K w H a ob
  prot : ∀ b o, C.H0 b = some o → C.A0 b = none → H b = some o
  dom : ∀ a, A a ≠ none → C.A0 a ≠ none ∨ C.H0 a = none
  mono : ∀ b, H b = none → C.H0 b = none
structure Slots (K : PySem.W.Frag) (w : World) (C : Ct) (z : S3) (A : AH) (σ : L2.St) (H : Hp) : Prop where
  val : ∀ (i : Nat) (d : D), z[i]? = some (some d) → ∃ v, σ[i]? = some (some v) ∧ RpV K w H d v
  sep : ∀ (i : Nat) (d : D) (a : Addr), z[i]? = some (some d) → own d = true → σ[i]? = some (some (V.ref a)) → A a = none ∧ C.H0 a = none
  uniq : ∀ (i j : Nat) (d e : D) (a : Addr), z[i]? = some (some d) → own d = true → z[j]? = some (some e) → own e = true → σ[i]? = some (some (V.ref a)) → σ[j]? = some (some (V.ref a)) → i = j
  len : z.length = σ.length
/-- a value at hand: what it holds alone nobody else holds -/
structure Tmp (K : PySem.W.Frag) (w : World) (C : Ct) (z : S3) (A : AH) (σ : L2.St) (H : Hp) (d : D) (v : V) : Prop where
  val : RpV K w H d v
  alone : own d = true → ∀ a, v = V.ref a → A a = none ∧ C.H0 a = none ∧ ∀ (i : Nat) (e : D), z[i]? = some (some e) → own e = true → σ[i]? ≠ some (some (V.ref a))

section
variable {K : PySem.W.Frag} {w : World} {C : Ct} {z : S3} {A : AH} {σ : L2.St} {H H' : Hp} {d : D} {v : V}
theorem Rel.afresh (r : Rel K w C A H) {p : Addr} (h : H p = none) : A p = none := by
  cases e : A p with
  | none => rfl
  | some ob => obtain ⟨u, q, _⟩ := (r.heap p ob e).there; rw [h] at q; cases q
theorem ext_eq {a : Addr} {u : HO} (e : Ext H H') (h : H a = some u) : H' a = H a := by rw [h]; exact e _ _ h
theorem Rel.ext (r : Rel K w C A H) (e : Ext H H') : Rel K w C A H' where
  heap := fun a ob h => by
    have q := r.heap a ob h
    obtain ⟨u, hu, _⟩ := q.there
    exact q.keep (.of_ext e) (ext_eq e hu)
  prot := fun b o h1 h2 => e _ _ (r.prot b o h1 h2)
  dom := r.dom
  mono := fun b h => r.mono b (by
    cases q : H b with
    | none => rfl
    | some u => rw [e _ _ q] at h; cases h)
theorem RpV.ext (h : RpV K w H d v) (e : Ext H H') : RpV K w H' d v := h.keep (.of_ext e) fun o a ev => by
  obtain ⟨b, ob, eb, _, r⟩ := h.ob o
  rw [ev] at eb; cases eb
  obtain ⟨u, hu, _⟩ := r.there
  exact ext_eq e hu
theorem Slots.ext (s : Slots K w C z A σ H) (e : Ext H H') : Slots K w C z A σ H' where
  val := fun i d h => let ⟨v, h1, h2⟩ := s.val i d h; ⟨v, h1, h2.ext e⟩
  sep := s.sep
  uniq := s.uniq
  len := s.len
theorem Tmp.ext (t : Tmp K w C z A σ H d v) (e : Ext H H') : Tmp K w C z A σ H' d v := ⟨t.val.ext e, t.alone⟩
theorem Tmp.of (h : Rp K w H d v) : Tmp K w C z A σ H d v := ⟨.of h, fun o => by rw [h.notOwn] at o; cases o⟩
/-- something new, held alone -/
theorem Tmp.new (r : Rel K w C A H) (s : Slots K w C z A σ H) {p : Addr} {ob : Ob} (h : H p = none) (eo : obOf d = some ob) (q : RpO K w H' p ob) : Tmp K w C z A σ H' d (.ref p) := by
  refine ⟨.mk eo q, fun _ a ea => ?_⟩
  cases ea
  refine ⟨r.afresh h, r.mono _ h, fun i e hi oe hs => ?_⟩
  obtain ⟨u, hu, ru⟩ := s.val i e hi
  rw [hs] at hu; cases hu
  obtain ⟨b, ob', eb, _, rb⟩ := ru.ob oe
  cases eb
  obtain ⟨_, hb, _⟩ := rb.there
  rw [h] at hb; cases hb
/-- stored at a name -/
theorem Slots.set (s : Slots K w C z A σ H) (t : Tmp K w C z A σ H d v) (i : Nat) : Slots K w C (z.set i (some d)) A (σ.set i (some v)) H where
  val := fun j e h => by
    by_cases hj : i = j
    · subst hj
      rw [List.getElem?_set] at h
      split at h
      · split at h
        · rename_i hl
          cases h
          exact ⟨v, by rw [List.getElem?_set_self (by rw [← s.len]; exact hl)], t.val⟩
        · cases h
      · rename_i hne; exact absurd rfl hne
    · rw [List.getElem?_set_ne hj] at h
      obtain ⟨u, h1, h2⟩ := s.val j e h
      exact ⟨u, by rw [List.getElem?_set_ne hj]; exact h1, h2⟩
  sep := fun j e a h o hs => by
    by_cases hj : i = j
    · subst hj
      rw [List.getElem?_set] at h
      split at h
      · split at h
        · rename_i hl
          cases h
          rw [List.getElem?_set_self (by rw [← s.len]; exact hl)] at hs
          cases hs
          exact ⟨(t.alone o a rfl).1, (t.alone o a rfl).2.1⟩
        · cases h
      · rename_i hne; exact absurd rfl hne
    · rw [List.getElem?_set_ne hj] at h hs
      exact s.sep j e a h o hs
  uniq := fun j k e f a h1 o1 h2 o2 s1 s2 => by
    have hz : ∀ {j : Nat} {e : D}, i = j → (z.set i (some d))[j]? = some (some e) → e = d ∧ (σ.set i (some v))[j]? = some (some v) := by
      intro j e ej h
      subst ej
      rw [List.getElem?_set] at h
      split at h
      · split at h
        · rename_i hl
          cases h
          exact ⟨rfl, by rw [List.getElem?_set_self (by rw [← s.len]; exact hl)]⟩
        · cases h
      · rename_i hne; exact absurd rfl hne
    by_cases hj : i = j
    · by_cases hk : i = k
      · exact hj.symm.trans hk
      · obtain ⟨ee, q⟩ := hz hj h1
        subst ee
        rw [q] at s1; cases s1
        rw [List.getElem?_set_ne hk] at h2 s2
        exact absurd s2 ((t.alone o1 a rfl).2.2 k f h2 o2)
    · by_cases hk : i = k
      · obtain ⟨ee, q⟩ := hz hk h2
        subst ee
        rw [q] at s2; cases s2
        rw [List.getElem?_set_ne hj] at h1 s1
        exact absurd s1 ((t.alone o2 a rfl).2.2 j e h1 o1)
      · rw [List.getElem?_set_ne hj] at h1 s1
        rw [List.getElem?_set_ne hk] at h2 s2
        exact s.uniq j k e f a h1 o1 h2 o2 s1 s2
  len := by rw [List.length_set, List.length_set]; exact s.len
end

/-! ### readings -/
abbrev TE3 := S3 → AH → (D → AH → Prop) → Prop
abbrev TT3 := S3 → AH → (Bool → AH → Prop) → Prop
abbrev TA3 := S3 → AH → (List D → AH → Prop) → Prop
/-- an exception: its class, its fields -/
abbrev X3 := Addr → List (Str × D) → AH → Prop
structure Ends3 where
  nx : S3 → AH → Prop
  rt : D → AH → Prop
  bk : S3 → AH → Prop := fun _ _ => False
  ct : S3 → AH → Prop := fun _ _ => False
abbrev TS3 := Ends3 → S3 → AH → Prop

/-- read where it stands: as data, or where a slot alone holds it -/
def RpB (K : PySem.W.Frag) (w : World) (z : S3) (σ : L2.St) (H : Hp) (d : D) (v : V) : Prop :=
  Rp K w H d v ∨ ∃ (i : Nat) (e : D), z[i]? = some (some e) ∧ own e = true ∧ d = frz e ∧ σ[i]? = some (some v)
inductive RpBs (K : PySem.W.Frag) (w : World) (z : S3) (σ : L2.St) (H : Hp) : List D → List V → Prop
  | nil : RpBs K w z σ H [] []
  | cons {d v ds vs} : RpB K w z σ H d v → RpBs K w z σ H ds vs → RpBs K w z σ H (d :: ds) (v :: vs)
section
variable (K : PySem.W.Frag) (w : World) (C : Ct)
def low (t : TE3) : TE := fun σ H Q => ∃ z A Q3, Rel K w C A H ∧ Slots K w C z A σ H ∧ t z A Q3 ∧
  ∀ d A' v H', Q3 d A' → Rel K w C A' H' → Slots K w C z A' σ H' → Pers H H' → Tmp K w C z A' σ H' d v → Q v H'
def lowB (t : TE3) : TE := fun σ H Q => ∃ z A Q3, Rel K w C A H ∧ Slots K w C z A σ H ∧ t z A Q3 ∧
  ∀ d A' v H', Q3 d A' → Rel K w C A' H' → Slots K w C z A' σ H' → Pers H H' → RpB K w z σ H' d v → Q v H'
def lowT (t : TT3) : TT := fun σ H Q => ∃ z A Q3, Rel K w C A H ∧ Slots K w C z A σ H ∧ t z A Q3 ∧
  ∀ b A' H', Q3 b A' → Rel K w C A' H' → Slots K w C z A' σ H' → Pers H H' → Q b H'
/-- arguments, let go each -/
def lowA (t : TA3) : TA := fun σ H Q => ∃ z A Q3, Rel K w C A H ∧ Slots K w C z A σ H ∧ t z A Q3 ∧
  ∀ ds A' vs H', Q3 ds A' → Rel K w C A' H' → Slots K w C z A' σ H' → Pers H H' → Rps K w H' ds vs → Q vs H'
/-- .. read where they stand -/
def lowAB (t : TA3) : TA := fun σ H Q => ∃ z A Q3, Rel K w C A H ∧ Slots K w C z A σ H ∧ t z A Q3 ∧
  ∀ ds A' vs H', Q3 ds A' → Rel K w C A' H' → Slots K w C z A' σ H' → Pers H H' → RpBs K w z σ H' ds vs → Q vs H'
/-- hb: the abstract heap at the start; what is data there stays data -/
structure Fits3 (hb : Hp) (D3 : Ends3) (D : Ends) : Prop where
  nx : ∀ z A σ H, D3.nx z A → Rel K w C A H → Slots K w C z A σ H → Pers hb H → D.nx σ H
  rt : ∀ d A v H, D3.rt d A → Rel K w C A H → RpV K w H d v → (own d = true → ∀ a, v = V.ref a → A a = none ∧ C.H0 a = none) → Pers hb H → D.rt v H
  bk : ∀ z A σ H, D3.bk z A → Rel K w C A H → Slots K w C z A σ H → Pers hb H → D.bk σ H
  ct : ∀ z A σ H, D3.ct z A → Rel K w C A H → Slots K w C z A σ H → Pers hb H → D.ct σ H
def lowS (t : TS3) : TS := fun D σ H => ∃ z A D3, Rel K w C A H ∧ Slots K w C z A σ H ∧ t D3 z A ∧ Fits3 K w C H D3 D
end
theorem Fits3.later {K : PySem.W.Frag} {w : World} {C : Ct} {hb h2 : Hp} {D3 : Ends3} {D : Ends} (p : Pers hb h2) (f : Fits3 K w C hb D3 D) : Fits3 K w C h2 D3 D :=
  ⟨fun z A σ H a b c d => f.nx z A σ H a b c (p.trans d), fun d A v H a b c e g => f.rt d A v H a b c e (p.trans g), fun z A σ H a b c d => f.bk z A σ H a b c (p.trans d), fun z A σ H a b c d => f.ct z A σ H a b c (p.trans d)⟩
abbrev PE3 (X : Cx) (C : Ct) (e : Expr) (t : TE3) : Prop := PE X e (low X.K X.w C t)
abbrev PB3 (X : Cx) (C : Ct) (e : Expr) (t : TE3) : Prop := PE X e (lowB X.K X.w C t)
abbrev PT3 (X : Cx) (C : Ct) (e : Expr) (t : TT3) : Prop := PT X e (lowT X.K X.w C t)
abbrev PA3 (X : Cx) (C : Ct) (es : List Expr) (t : TA3) : Prop := PA X es (lowA X.K X.w C t)
abbrev PAB3 (X : Cx) (C : Ct) (es : List Expr) (t : TA3) : Prop := PA X es (lowAB X.K X.w C t)
abbrev PS3 (X : Cx) (C : Ct) (st : Stmt) (t : TS3) : Prop := PS X st (lowS X.K X.w C t)
abbrev PSs3 (X : Cx) (C : Ct) (st : List Stmt) (t : TS3) : Prop := PSs X st (lowS X.K X.w C t)

section
variable {X : Cx}
theorem PE.imp {e : Expr} {t t' : TE} (h : PE X e t) (i : ∀ σ H Q, t' σ H Q → t σ H Q) : PE X e t' := ⟨fun pins s σ H Q I q => h.run pins s σ H Q I (i σ H Q q)⟩
theorem PT.imp {e : Expr} {t t' : TT} (h : PT X e t) (i : ∀ σ H Q, t' σ H Q → t σ H Q) : PT X e t' := ⟨fun pins s σ H Q I q => h.run pins s σ H Q I (i σ H Q q)⟩
theorem PW.imp {e : Expr} {t t' : TT} (h : PW X e t) (i : ∀ σ H Q, t' σ H Q → t σ H Q) : PW X e t' := ⟨fun wh pins s σ H Q I q => h.run wh pins s σ H Q I (i σ H Q q)⟩
theorem PA.imp {e : List Expr} {t t' : TA} (h : PA X e t) (i : ∀ σ H Q, t' σ H Q → t σ H Q) : PA X e t' := ⟨fun p pins s σ H Q I q => h.run p pins s σ H Q I (i σ H Q q)⟩
theorem PS.imp {e : Stmt} {t t' : TS} (h : PS X e t) (i : ∀ D σ H, t' D σ H → t D σ H) : PS X e t' := ⟨fun pins s σ H D I q => h.run pins s σ H D I (i D σ H q)⟩
theorem PSs.imp {e : List Stmt} {t t' : TS} (h : PSs X e t) (i : ∀ D σ H, t' D σ H → t D σ H) : PSs X e t' := ⟨fun pins s σ H D I q => h.run pins s σ H D I (i D σ H q)⟩
/-- the wish may grow -/
theorem low.mono {K : PySem.W.Frag} {w : World} {C : Ct} {t : TE3} {σ : L2.St} {H : Hp} {Q Q' : VK} (h : low K w C t σ H Q) (i : ∀ v H', Q v H' → Q' v H') : low K w C t σ H Q' := by
  obtain ⟨z, A, Q3, r, s, q, f⟩ := h
  exact ⟨z, A, Q3, r, s, q, fun d A' v H' a b c e g => i _ _ (f d A' v H' a b c e g)⟩
end

/-! ### a thing is let go -/
section
variable {X : Cx} {pins : List (Addr × Obj)} {σ : L2.St} {H : Hp} {s : Shared} {a : Addr} {u : HO}
def CanFrz : HO → Bool
  | .lst _ => true | .ext _ => true | _ => false
theorem Inv.freeze (I : Inv X pins σ H s) (h : H a = some u) (m : CanFrz u = true) : ∃ o, Inv X pins σ (upd H a (.frz o u)) s := by
  have ok := I.hok a u h
  obtain ⟨o, ho⟩ : ∃ o, s.heap.get? a = some o := by
    cases u with
    | lst xs => obtain ⟨_, _, _, _, e⟩ := ok; exact ⟨_, e⟩
    | ext φ => exact ok.2.1
    | _ => simp [CanFrz] at m
  have nt : ∀ b xs, H b = some (.tup xs) → b ≠ a := fun b xs e q => by rw [q, h] at e; cases e; simp [CanFrz] at m
  have nf : ∀ b o' xs, H b = some (.frz o' xs) → b ≠ a := fun b o' xs e q => by rw [q, h] at e; cases e; simp [CanFrz] at m
  have nl : ∀ b ps, H b = some (.tbl ps) → b ≠ a := fun b ps e q => by rw [q, h] at e; cases e; simp [CanFrz] at m
  have nw : ∀ b y, H b = some (.own y) → b ≠ a := fun b y e q => by rw [q, h] at e; cases e; simp [CanFrz] at m
  refine ⟨o, ?_⟩
  have st : ∀ b v, H b = some v → ObjOk X.prog X.w (upd H a (.frz o u)) s.heap b v := fun b v e =>
    (I.hok b v e).stay (fun _ _ _ q => q) (fun c q => by rw [upd_ne (nw c b q)]; exact q) fun c xs q => by rw [upd_ne (nt c xs q)]; exact q
  refine I.un (h' := s.heap) (t' := s.toks) ⟨fun b ob e _ _ _ => e, fun b ob e _ _ _ => ⟨ob.slots, e⟩, fun b ob e n _ => ?_, fun b ob e _ => ⟨ob, e⟩,
    fun b xs e => by rw [upd_ne (nt b xs e)]; exact e, fun b o' xs e => by rw [upd_ne (nf b o' xs e)]; exact e, fun b ps e => ⟨#[], by rw [upd_ne (nl b ps e), e]; simp⟩⟩ fun b v e => ?_
  · have : b ≠ a := fun q => by rw [q, h] at n; cases n
    rw [upd_ne this]; exact n
  · by_cases hb : b = a
    · subst hb
      rw [upd_same] at e; cases e
      exact ⟨ho, st _ _ h⟩
    · rw [upd_ne hb] at e
      exact st _ _ e
/-- .. as a step of an expression's end -/
def tGo (t : TE) : TE := fun σ H Q => t σ H fun v H' => (∃ a u, v = V.ref a ∧ H' a = some u ∧ CanFrz u = true ∧ ∀ o, Q v (upd H' a (.frz o u))) ∨ Q v H'
theorem pe_go {e : Expr} {t : TE} (h : PE X e t) : PE X e (tGo t) := ⟨fun pins s σ H Q I q => by
  refine thn (h.run pins s σ H _ I q) fun u s1 ⟨v, H1, I1, r1, q1⟩ => ?_
  rcases q1 with ⟨a, x, rfl, hx, m, q1⟩ | q1
  · obtain ⟨o, I2⟩ := Inv.freeze I1 hx m
    exact ⟨_, _, I2, r1, q1 o⟩
  · exact ⟨v, H1, I1, r1, q1⟩⟩
end

section
variable {K : PySem.W.Frag} {w : World} {C : Ct} {z : S3} {A : AH} {σ : L2.St} {H : Hp} {d : D} {a : Addr} {u : HO} {o : Obj}
/-- an object that no one else holds changes: what stays -/
theorem Rel.alone (r : Rel K w C A H) (hA : A a = none) (h0 : C.H0 a = none) (h : H a = some u) (c : Chg u) {u' : HO} : Rel K w C A (upd H a u') where
  heap := fun b ob e => (r.heap b ob e).keep (pers_upd h c) (upd_ne fun q => by rw [q, hA] at e; cases e)
  prot := fun b x e1 e2 => by
    rw [upd_ne fun q => by rw [q, h0] at e1; cases e1]
    exact r.prot b x e1 e2
  dom := r.dom
  mono := fun b e => by
    by_cases hb : b = a
    · rw [hb]; exact h0
    · rw [upd_ne hb] at e; exact r.mono b e
/-- a temporary's own object: the slots stay -/
theorem Slots.alone (s : Slots K w C z A σ H) (h : H a = some u) (c : Chg u) (n : ∀ (i : Nat) (e : D), z[i]? = some (some e) → own e = true → σ[i]? ≠ some (some (V.ref a))) {u' : HO} : Slots K w C z A σ (upd H a u') where
  val := fun i e hi => by
    obtain ⟨v, h1, h2⟩ := s.val i e hi
    exact ⟨v, h1, h2.keep (pers_upd h c) fun o b eb => upd_ne fun q => n i e hi o (by rw [h1, eb, q])⟩
  sep := s.sep
  uniq := s.uniq
  len := s.len
theorem RpO.frz {ob : Ob} (h : RpO K w H a ob) (e : obOf d = some ob) : ∃ u, H a = some u ∧ CanFrz u = true ∧ Chg u ∧ ∀ o, Rp K w (upd H a (.frz o u)) (frz d) (.ref a) := by
  cases d with
  | ml ds =>
    simp [obOf] at e; subst e
    obtain ⟨xs, h1, h2⟩ := h
    refine ⟨_, h1, rfl, chg_lst, fun o => ?_⟩
    show Rp K w _ (.lst ds) _
    rw [Rp]
    exact ⟨a, xs, rfl, .inl ⟨o, upd_same⟩, h2.pers (pers_upd h1 chg_lst)⟩
  | md ds =>
    simp [obOf] at e; subst e
    obtain ⟨xs, h1, h2, h3⟩ := h
    refine ⟨_, h1, rfl, chg_dh, fun o => ?_⟩
    show Rp K w _ (.dct ds) _
    rw [Rp]
    exact ⟨a, xs, rfl, ⟨o, upd_same⟩, h2, h3.pers (pers_upd h1 chg_dh)⟩
  | _ => simp [obOf] at e
theorem frz_of {d : D} (h : own d = false) : frz d = d := by cases d <;> first | rfl | simp [own] at h
theorem own_ob {d : D} (h : own d = true) : ∃ ob, obOf d = some ob := by cases d <;> first | exact ⟨_, rfl⟩ | simp [own] at h
end

/-! ### expressions: let go; where they stand -/
def fz (t : TE3) : TE3 := fun z A Q => t z A fun d A' => Q (frz d) A'
section
variable {X : Cx} {C : Ct} {e : Expr} {t : TE3}
theorem pe_fz (h : PE3 X C e t) : PE X e fun σ H Q => ∃ z A Q3, Rel X.K X.w C A H ∧ Slots X.K X.w C z A σ H ∧ t z A Q3 ∧
    ∀ d A' v H', Q3 d A' → Rel X.K X.w C A' H' → Slots X.K X.w C z A' σ H' → Pers H H' → Rp X.K X.w H' (frz d) v → Q v H' := by
  refine PE.imp (pe_go h) fun σ H Q hq => ?_
  obtain ⟨z, A, Q3, r, s, q, f⟩ := hq
  refine ⟨z, A, Q3, r, s, q, fun d A' v H' q' r' s' p' t' => ?_⟩
  cases o : own d with
  | false => exact .inr (f d A' v H' q' r' s' p' (by rw [frz_of o]; exact t'.val.rp o))
  | true =>
    obtain ⟨a, ob, rfl, eo, ro⟩ := t'.val.ob o
    obtain ⟨u, hu, m, c, fr⟩ := ro.frz eo
    obtain ⟨n1, n2, n3⟩ := t'.alone o a rfl
    exact .inl ⟨a, u, rfl, hu, m, fun ob' => f d A' _ _ q' (r'.alone n1 n2 hu c) (s'.alone hu c n3) (p'.trans (pers_upd hu c)) (fr ob')⟩
/-- let go -/
theorem pe3_fz (h : PE3 X C e t) : PE3 X C e (fz t) := PE.imp (pe_fz h) fun σ H Q hq => by
  obtain ⟨z, A, Q3, r, s, q, f⟩ := hq
  exact ⟨z, A, _, r, s, q, fun d A' v H' q' r' s' p' t' => f _ A' v H' q' r' s' p' (.of t')⟩
/-- .. and read -/
theorem pb3 (h : PE3 X C e t) : PB3 X C e (fz t) := PE.imp (pe_fz h) fun σ H Q hq => by
  obtain ⟨z, A, Q3, r, s, q, f⟩ := hq
  exact ⟨z, A, _, r, s, q, fun d A' v H' q' r' s' p' t' => f _ A' v H' q' r' s' p' (.inl t')⟩
end
end T3
set_option autoImplicit false
namespace T3
open PySem PySem.Spec PyProof.Rows L2

section
variable {X : Cx} {C : Ct}
/-! ### names, constants -/
def eV (i : Nat) : TE3 := fun z A Q => ∃ d, z[i]? = some (some d) ∧ own d = false ∧ Q d A
def eB (i : Nat) : TE3 := fun z A Q => ∃ d, z[i]? = some (some d) ∧ Q (frz d) A
def eC (d : D) : TE3 := fun _ A Q => Q d A
theorem pe3_v {e : Expr} {i : Nat} (h : PE X e (tVar i)) : PE3 X C e (eV i) := PE.imp h fun σ H Q hq => by
  obtain ⟨z, A, Q3, r, s, ⟨d, h1, h2, q⟩, f⟩ := hq
  obtain ⟨v, hv, rv⟩ := s.val i d h1
  exact ⟨v, hv, f d A v H q r s (.refl H) (.of (rv.rp h2))⟩
theorem pb3_v {e : Expr} {i : Nat} (h : PE X e (tVar i)) : PB3 X C e (eB i) := PE.imp h fun σ H Q hq => by
  obtain ⟨z, A, Q3, r, s, ⟨d, h1, q⟩, f⟩ := hq
  obtain ⟨v, hv, rv⟩ := s.val i d h1
  refine ⟨v, hv, f _ A v H q r s (.refl H) ?_⟩
  cases o : own d with
  | false => rw [frz_of o]; exact .inl (rv.rp o)
  | true => exact .inr ⟨i, d, h1, o, rfl, hv⟩
theorem pe3_c {e : Expr} {v : V} {d : D} (h : PE X e (tC v)) (r : ∀ H, Rp X.K X.w H d v) : PE3 X C e (eC d) := PE.imp h fun σ H Q hq => by
  obtain ⟨z, A, Q3, r', s, q, f⟩ := hq
  exact f d A v H q r' s (.refl H) (.of (r H))
theorem pe3_int {i : Int} {j pos} : PE3 X C (.Constant (.int i) j pos) (eC (.int i)) := pe3_c pe_int fun _ => by rw [Rp]
theorem pe3_bl {b : Bool} {j pos} : PE3 X C (.Constant (.bool b) j pos) (eC (.bl b)) := pe3_c pe_bl fun _ => by rw [Rp]
theorem pe3_non {j pos} : PE3 X C (.Constant .none j pos) (eC .non) := pe3_c pe_non fun _ => by rw [Rp]
theorem pe3_str {x : Str} {j pos} : PE3 X C (.Constant (.str x) j pos) (eC (.str x)) := pe3_c pe_str fun _ => by rw [Rp]
/-- what is not held alone may be read as it is -/
theorem PB3.of {e : Expr} {t : TE3} (h : PE3 X C e t) : PB3 X C e (fz t) := pb3 h

/-! ### arguments -/
def aNil : TA3 := fun _ A Q => Q [] A
def aCons (t : TE3) (u : TA3) : TA3 := fun z A Q => t z A fun d A1 => u z A1 fun ds A2 => Q (d :: ds) A2
theorem pa3_nil : PA3 X C [] aNil := PA.imp pa_nil fun σ H Q hq => by
  obtain ⟨z, A, Q3, r, s, q, f⟩ := hq
  exact f [] A [] H q r s (.refl H) Rps.nil
theorem pa3_cons {e : Expr} {es : List Expr} {t : TE3} {u : TA3} (h : PE3 X C e t) (hr : PA3 X C es u) (hs : starEach (e :: es) X.env = (false, eval e X.env) :: starEach es X.env := by rfl) : PA3 X C (e :: es) (aCons (fz t) u) :=
  PA.imp (pa_cons (pe_fz h) hr hs) fun σ H Q hq => by
    obtain ⟨z, A, Q3, r, s, q, f⟩ := hq
    refine ⟨z, A, _, r, s, q, fun d A1 v H1 q1 r1 s1 p1 t1 => ⟨z, A1, _, r1, s1, q1, fun ds A2 vs H2 q2 r2 s2 p2 t2 => ?_⟩⟩
    exact f _ A2 _ H2 q2 r2 s2 (p1.trans p2) (Rps.cons (t1.pers p2) t2)
theorem RpB.later {K : PySem.W.Frag} {w : World} {z : S3} {σ : L2.St} {H H' : Hp} {d : D} {v : V} (h : RpB K w z σ H d v) (p : Pers H H') : RpB K w z σ H' d v := by
  rcases h with h | h
  · exact .inl (h.pers p)
  · exact .inr h
theorem pab3_nil : PAB3 X C [] aNil := PA.imp pa_nil fun σ H Q hq => by
  obtain ⟨z, A, Q3, r, s, q, f⟩ := hq
  exact f [] A [] H q r s (.refl H) .nil
theorem pab3_cons {e : Expr} {es : List Expr} {t : TE3} {u : TA3} (h : PB3 X C e t) (hr : PAB3 X C es u) (hs : starEach (e :: es) X.env = (false, eval e X.env) :: starEach es X.env := by rfl) : PAB3 X C (e :: es) (aCons t u) :=
  PA.imp (pa_cons h hr hs) fun σ H Q hq => by
    obtain ⟨z, A, Q3, r, s, q, f⟩ := hq
    refine ⟨z, A, _, r, s, q, fun d A1 v H1 q1 r1 s1 p1 t1 => ⟨z, A1, _, r1, s1, q1, fun ds A2 vs H2 q2 r2 s2 p2 t2 => ?_⟩⟩
    exact f _ A2 _ H2 q2 r2 s2 (p1.trans p2) (.cons (t1.later p2) t2)

/-! ### what is made: the answer of an operation that changes nothing -/
/-- v is d: d as data in H', or a new object held alone -/
def Gv (K : PySem.W.Frag) (w : World) (H H' : Hp) (d : D) (v : V) : Prop :=
  Ext H H' ∧ ((own d = false ∧ Rp K w H' d v) ∨ ∃ p ob, H p = none ∧ v = .ref p ∧ obOf d = some ob ∧ RpO K w H' p ob)
theorem Gv.rp {K : PySem.W.Frag} {w : World} {H H' : Hp} {d : D} {v : V} (e : Ext H H') (r : Rp K w H' d v) : Gv K w H H' d v := ⟨e, .inl ⟨r.notOwn, r⟩⟩
theorem Gv.same {K : PySem.W.Frag} {w : World} {H : Hp} {d : D} {v : V} (r : Rp K w H d v) : Gv K w H H d v := ⟨fun _ _ h => h, .inl ⟨r.notOwn, r⟩⟩
theorem Gv.lst {K : PySem.W.Frag} {w : World} {H : Hp} {ds : List D} {xs : List V} {p : Addr} (h : H p = none) (r : Rps K w H ds xs) : Gv K w H (upd H p (.lst xs)) (.ml ds) (.ref p) :=
  ⟨ext_upd h, .inr ⟨p, .lst ds, h, rfl, rfl, xs, upd_same, r.pers (.of_ext (ext_upd h))⟩⟩
theorem Gv.tup {K : PySem.W.Frag} {w : World} {H : Hp} {ds : List D} {xs : List V} {p : Addr} (h : H p = none) (r : Rps K w H ds xs) : Gv K w H (upd H p (.tup xs)) (.tup ds) (.ref p) :=
  .rp (ext_upd h) (by rw [Rp]; exact ⟨p, xs, rfl, .of upd_same, r.pers (.of_ext (ext_upd h))⟩)
section
variable {K : PySem.W.Frag} {w : World} {z : S3} {A : AH} {σ : L2.St} {H H' : Hp} {d : D} {v : V}
theorem Gv.tmp (g : Gv K w H H' d v) (r : Rel K w C A H) (s : Slots K w C z A σ H) : Rel K w C A H' ∧ Slots K w C z A σ H' ∧ Tmp K w C z A σ H' d v := by
  obtain ⟨e, g⟩ := g
  refine ⟨r.ext e, s.ext e, ?_⟩
  rcases g with ⟨o, q⟩ | ⟨p, ob, h, rfl, eo, q⟩
  · exact .of q
  · exact .new r s h eo q
end
/-- a reading as data at hand -/
theorem low.gv {z : S3} {A : AH} {σ : L2.St} {H0 H H' : Hp} {d : D} {v : V} {Q3 : D → AH → Prop} {Q : VK} (r : Rel X.K X.w C A H) (s : Slots X.K X.w C z A σ H)
    (f : ∀ d A' v H', Q3 d A' → Rel X.K X.w C A' H' → Slots X.K X.w C z A' σ H' → Pers H0 H' → Tmp X.K X.w C z A' σ H' d v → Q v H') (p : Pers H0 H) (q : Q3 d A) (g : Gv X.K X.w H H' d v) : Q v H' := by
  obtain ⟨r', s', t'⟩ := g.tmp r s
  exact f d A v H' q r' s' (p.trans (.of_ext g.1)) t'

/-! ### displays -/
def eTup (t : TA3) : TE3 := fun z A Q => t z A fun ds A' => ds.length ≤ sizeLine ∧ Q (.tup ds) A'
def eLst (t : TA3) : TE3 := fun z A Q => t z A fun ds A' => ds.length ≤ sizeLine ∧ Q (.ml ds) A'
theorem pe3_tup {es : List Expr} {t : TA3} {x1 pos} (h : PA3 X C es t) : PE3 X C (.Tuple es x1 pos) (eTup t) := PE.imp (pe_tup h) fun σ H Q hq => by
  obtain ⟨z, A, Q3, r, s, q, f⟩ := hq
  refine ⟨z, A, _, r, s, q, fun ds A' vs H' q' r' s' p' t' => ⟨by rw [t'.length]; exact q'.1, fun p hp => ?_⟩⟩
  exact low.gv r' s' f p' q'.2 (.tup hp t')
theorem pe3_lst {es : List Expr} {t : TA3} {pos} (h : PA3 X C es t) : PE3 X C (.List es pos) (eLst t) := PE.imp (pe_lst h) fun σ H Q hq => by
  obtain ⟨z, A, Q3, r, s, q, f⟩ := hq
  refine ⟨z, A, _, r, s, q, fun ds A' vs H' q' r' s' p' t' => ⟨by rw [t'.length]; exact q'.1, fun p hp => ?_⟩⟩
  exact low.gv r' s' f p' q'.2 (.lst hp t')

/-! ### operations that change nothing -/
/-- two operands read where they stand -/
def Op2 (X : Cx) (C : Ct) (r : R2) (f : AH → D → D → Option D) : Prop := ∀ (z : S3) (A : AH) (σ : L2.St) (H : Hp) (d1 d2 d : D) (x y : V) (Q : VK), Rel X.K X.w C A H → Slots X.K X.w C z A σ H →
  RpB X.K X.w z σ H d1 x → RpB X.K X.w z σ H d2 y → f A d1 d2 = some d → (∀ v H', Gv X.K X.w H H' d v → Q v H') → r x y H Q
def e2 (f : AH → D → D → Option D) (ta tb : TE3) : TE3 := fun z A Q => ta z A fun d1 A1 => tb z A1 fun d2 A2 => ∃ d, f A2 d1 d2 = some d ∧ Q d A2
theorem low_op2 {r : R2} {f : AH → D → D → Option D} {ta tb : TE3} (h : Op2 X C r f) {σ : L2.St} {H : Hp} {Q : VK} (hq : low X.K X.w C (e2 f ta tb) σ H Q) : tOp r (lowB X.K X.w C ta) (lowB X.K X.w C tb) σ H Q := by
  obtain ⟨z, A, Q3, r0, s, q, g⟩ := hq
  refine ⟨z, A, _, r0, s, q, fun d1 A1 v1 H1 q1 r1 s1 p1 t1 => ⟨z, A1, _, r1, s1, q1, fun d2 A2 v2 H2 q2 r2 s2 p2 t2 => ?_⟩⟩
  obtain ⟨d, hd, q3⟩ := q2
  exact h z A2 σ H2 d1 d2 d v1 v2 Q r2 s2 (t1.later p2) t2 hd fun v H' gv => low.gv r2 s2 g (p1.trans p2) q3 gv
theorem pe3_op {op : Operator} {r : R2} {f : AH → D → D → Option D} {a b : Expr} {ta tb : TE3} {pos : Pos} (ho : OpR X (binaryOp op) r) (h : Op2 X C r f) (ha : PB3 X C a ta) (hb : PB3 X C b tb) : PE3 X C (.BinOp a op b pos) (e2 f ta tb) :=
  PE.imp (pe_op ho ha hb) fun _ _ _ hq => low_op2 h hq
theorem pe3_cmp {op : CmpOp} {r : R2} {f : AH → D → D → Option D} {a b : Expr} {ta tb : TE3} {pos : Pos} (ho : OpR X (compareOp op) r) (h : Op2 X C r f) (ha : PB3 X C a ta) (hb : PB3 X C b tb) (hm : behindInMarks op b = false) : PE3 X C (.Compare a [op] [b] pos) (e2 f ta tb) :=
  PE.imp (pe_cmpR ho ha hb hm) fun _ _ _ hq => low_op2 h hq
theorem pe3_ix {r : R2} {f : AH → D → D → Option D} {a b : Expr} {ta tb : TE3} {pos : Pos} (ho : IxR X r) (h : Op2 X C r f) (ha : PB3 X C a ta) (hb : PB3 X C b tb) (hs : PlainIx b) : PE3 X C (.Subscript a b pos) (e2 f ta tb) :=
  PE.imp (pe_ix ho ha hb hs) fun _ _ _ hq => low_op2 h hq
/-- one operand -/
def Op1 (X : Cx) (C : Ct) (r : V → Hp → VK → Prop) (f : AH → D → Option D) : Prop := ∀ (z : S3) (A : AH) (σ : L2.St) (H : Hp) (d1 d : D) (x : V) (Q : VK), Rel X.K X.w C A H → Slots X.K X.w C z A σ H →
  RpB X.K X.w z σ H d1 x → f A d1 = some d → (∀ v H', Gv X.K X.w H H' d v → Q v H') → r x H Q
def e1 (f : AH → D → Option D) (ta : TE3) : TE3 := fun z A Q => ta z A fun d1 A1 => ∃ d, f A1 d1 = some d ∧ Q d A1
theorem pe3_un {op : UnaryOp} {r : V → Hp → VK → Prop} {f : AH → D → Option D} {a : Expr} {ta : TE3} {pos : Pos} (ho : UnR X (unaryOp op) r) (h : Op1 X C r f) (ha : PB3 X C a ta) : PE3 X C (.UnaryOp op a pos) (e1 f ta) :=
  PE.imp (pe_un ho ha) fun σ H Q hq => by
    obtain ⟨z, A, Q3, r0, s, q, g⟩ := hq
    refine ⟨z, A, _, r0, s, q, fun d1 A1 v1 H1 q1 r1 s1 p1 t1 => ?_⟩
    obtain ⟨d, hd, q3⟩ := q1
    exact h z A1 σ H1 d1 d v1 Q r1 s1 t1 hd fun v H' gv => low.gv r1 s1 g p1 q3 gv
/-- a call of a built-in with operands read where they stand -/
def OpN (X : Cx) (C : Ct) (r : List V → Hp → VK → Prop) (f : AH → List D → Option D) : Prop := ∀ (z : S3) (A : AH) (σ : L2.St) (H : Hp) (ds : List D) (d : D) (xs : List V) (Q : VK), Rel X.K X.w C A H → Slots X.K X.w C z A σ H →
  RpBs X.K X.w z σ H ds xs → f A ds = some d → (∀ v H', Gv X.K X.w H H' d v → Q v H') → r xs H Q
def eN (f : AH → List D → Option D) (ta : TA3) : TE3 := fun z A Q => ta z A fun ds A1 => ∃ d, f A1 ds = some d ∧ Q d A1
theorem low_opN {r : List V → Hp → VK → Prop} {f : AH → List D → Option D} {ta : TA3} (h : OpN X C r f) {σ : L2.St} {H : Hp} {Q : VK} (hq : low X.K X.w C (eN f ta) σ H Q) : tCB r (lowAB X.K X.w C ta) σ H Q := by
  obtain ⟨z, A, Q3, r0, s, q, g⟩ := hq
  refine ⟨z, A, _, r0, s, q, fun ds A1 vs H1 q1 r1 s1 p1 t1 => ?_⟩
  obtain ⟨d, hd, q3⟩ := q1
  exact h z A1 σ H1 ds d vs Q r1 s1 t1 hd fun v H' gv => low.gv r1 s1 g p1 q3 gv
theorem pe3_callB {id : String} {r : List V → Hp → VK → Prop} {f : AH → List D → Option D} {x : Str} {p pos : Pos} {e : Expr} {es : List Expr} {t : TA3} (hc : CallR X (.builtin id) r) (h : OpN X C r f) (hg : Gl X x) (hm : X.mg x = none) (hv : bootBuiltins x = some (.builtin id)) (ha : PAB3 X C (e :: es) t)
    (hn : x ≠ "__name__" := by decide) (hdb : (x == ("__debug__" : Str)) = false := by decide) (he : starEach (e :: es) X.env = (false, eval e X.env) :: starEach es X.env := by rfl) (hpl : (backTo pos (starEach es X.env)).any (·.1) = false := by rfl) : PE3 X C (.Call (.Name x p) (e :: es) [] pos) (eN f t) :=
  PE.imp (pe_callB hc hg hm hv ha hn hdb he hpl) fun _ _ _ hq => low_opN h hq
theorem pe3_callTy {T : String} {r : List V → Hp → VK → Prop} {f : AH → List D → Option D} {x : Str} {p pos : Pos} {e : Expr} {es : List Expr} {t : TA3} (hc : CallR X (.type T) r) (h : OpN X C r f) (hg : Gl X x) (hm : X.mg x = none) (hv : bootBuiltins x = some (.type T)) (ha : PAB3 X C (e :: es) t)
    (hn : x ≠ "__name__" := by decide) (hdb : (x == ("__debug__" : Str)) = false := by decide) (he : starEach (e :: es) X.env = (false, eval e X.env) :: starEach es X.env := by rfl) (hpl : (backTo pos (starEach es X.env)).any (·.1) = false := by rfl) : PE3 X C (.Call (.Name x p) (e :: es) [] pos) (eN f t) :=
  PE.imp (pe_callTy hc hg hm hv ha hn hdb he hpl) fun _ _ _ hq => low_opN h hq

/-! ### tests -/
/-- a value that is a truth, as a test -/
def tV (t : TE3) : TT3 := fun z A Q => t z A fun d A' => ∃ b, d = .bl b ∧ Q b A'
theorem pt3_val {e : Expr} {t : TE3} (h : PE3 X C e t) (he : ∀ whole, isTrue e X.env whole = (do let v ← whole; standAt e.pos; holding [v] (truthy v)) := by intro _; rfl) : PT3 X C e (tV t) :=
  PT.imp (pt_val h he) fun σ H Q hq => by
    obtain ⟨z, A, Q3, r, s, q, f⟩ := hq
    refine ⟨z, A, _, r, s, q, fun d A' v H' q' r' s' p' t' => ?_⟩
    obtain ⟨b, rfl, q2⟩ := q'
    have e : v = .bl b := by have := t'.val; exact this
    exact ⟨b, e, f b A' H' q2 r' s' p'⟩
theorem pt3_cmp {op : CmpOp} {r : R2} {f : AH → D → D → Option D} {a b : Expr} {ta tb : TE3} {pos : Pos} (ho : OpR X (compareOp op) r) (h : Op2 X C r f) (ha : PB3 X C a ta) (hb : PB3 X C b tb) (hm : behindInMarks op b = false) : PT3 X C (.Compare a [op] [b] pos) (tV (e2 f ta tb)) :=
  PT.imp (pt_cmpR ho ha hb hm) fun σ H Q hq => by
    obtain ⟨z, A, Q3, r, s, q, f⟩ := hq
    refine low_op2 h ⟨z, A, _, r, s, q, fun d A' v H' q' r' s' p' t' => ?_⟩
    obtain ⟨b, rfl, q2⟩ := q'
    have e : v = .bl b := by have := t'.val; exact this
    exact ⟨b, e, f b A' H' q2 r' s' p'⟩
def tNot3 (t : TT3) : TT3 := fun z A Q => t z A fun b A' => Q (!b) A'
def tAnd3 (t u : TT3) : TT3 := fun z A Q => t z A fun b A' => if b = true then u z A' Q else Q false A'
def tOr3 (t u : TT3) : TT3 := fun z A Q => t z A fun b A' => if b = true then Q true A' else u z A' Q
theorem pt3_not {e : Expr} {t : TT3} {pos} (h : PT3 X C e t) : PT3 X C (.UnaryOp .Not e pos) (tNot3 t) := PT.imp (pt_not h) fun σ H Q hq => by
  obtain ⟨z, A, Q3, r, s, q, f⟩ := hq
  exact ⟨z, A, _, r, s, q, fun b A' H' q' r' s' p' => f _ A' H' q' r' s' p'⟩
abbrev PW3 (X : Cx) (C : Ct) (e : Expr) (t : TT3) : Prop := PW X e (lowT X.K X.w C t)
theorem lowT_and {t u : TT3} {σ : L2.St} {H : Hp} {Q : Bool → Hp → Prop} (hq : lowT X.K X.w C (tAnd3 t u) σ H Q) : tAnd (lowT X.K X.w C t) (lowT X.K X.w C u) σ H Q := by
  obtain ⟨z, A, Q3, r, s, q, f⟩ := hq
  refine ⟨z, A, _, r, s, q, fun b A' H' q' r' s' p' => ?_⟩
  cases b with
  | true => exact ⟨z, A', Q3, r', s', q', fun b A2 H2 q2 r2 s2 p2 => f b A2 H2 q2 r2 s2 (p'.trans p2)⟩
  | false => exact f false A' H' q' r' s' p'
theorem lowT_or {t u : TT3} {σ : L2.St} {H : Hp} {Q : Bool → Hp → Prop} (hq : lowT X.K X.w C (tOr3 t u) σ H Q) : tOr (lowT X.K X.w C t) (lowT X.K X.w C u) σ H Q := by
  obtain ⟨z, A, Q3, r, s, q, f⟩ := hq
  refine ⟨z, A, _, r, s, q, fun b A' H' q' r' s' p' => ?_⟩
  cases b with
  | true => exact f true A' H' q' r' s' p'
  | false => exact ⟨z, A', Q3, r', s', q', fun b A2 H2 q2 r2 s2 p2 => f b A2 H2 q2 r2 s2 (p'.trans p2)⟩
theorem pw3_and1 {a : Expr} {t : TT3} {pos} (h : PT3 X C a t) : PW3 X C (.BoolOp .And [a] pos) t := pw_and1 h
theorem pw3_or1 {a : Expr} {t : TT3} {pos} (h : PT3 X C a t) : PW3 X C (.BoolOp .Or [a] pos) t := pw_or1 h
theorem pw3_and {a b : Expr} {rest : List Expr} {t u : TT3} {pos} (h : PT3 X C a t) (h' : PW3 X C (.BoolOp .And (b :: rest) pos) u) : PW3 X C (.BoolOp .And (a :: b :: rest) pos) (tAnd3 t u) := PW.imp (pw_and h h') fun _ _ _ hq => lowT_and hq
theorem pw3_or {a b : Expr} {rest : List Expr} {t u : TT3} {pos} (h : PT3 X C a t) (h' : PW3 X C (.BoolOp .Or (b :: rest) pos) u) : PW3 X C (.BoolOp .Or (a :: b :: rest) pos) (tOr3 t u) := PW.imp (pw_or h h') fun _ _ _ hq => lowT_or hq
/-- and, or, not as values -/
def eAnd (t u : TE3) : TE3 := fun z A Q => t z A fun d A' => ∃ b, d = .bl b ∧ if b = true then u z A' Q else Q (.bl false) A'
def eOr (t u : TE3) : TE3 := fun z A Q => t z A fun d A' => ∃ b, d = .bl b ∧ if b = true then Q (.bl true) A' else u z A' Q
def eNot (t : TE3) : TE3 := fun z A Q => t z A fun d A' => ∃ b, d = .bl b ∧ Q (.bl (!b)) A'
theorem pe3_one {op} {a : Expr} {t : TE3} {pos} (h : PE3 X C a t) : PE3 X C (.BoolOp op [a] pos) t := pe_one h
theorem pe3_and {a b : Expr} {rest : List Expr} {t u : TE3} {pos} (h : PE3 X C a t) (h' : PE3 X C (.BoolOp .And (b :: rest) pos) u) : PE3 X C (.BoolOp .And (a :: b :: rest) pos) (eAnd t u) := PE.imp (pe_and h h') fun σ H Q hq => by
  obtain ⟨z, A, Q3, r, s, q, f⟩ := hq
  refine ⟨z, A, _, r, s, q, fun d A' v H' q' r' s' p' t' => ?_⟩
  obtain ⟨b, rfl, q2⟩ := q'
  refine ⟨b, by have := t'.val; exact this, ?_⟩
  cases b with
  | true => exact ⟨z, A', Q3, r', s', q2, fun d A2 v H2 q2 r2 s2 p2 t2 => f d A2 v H2 q2 r2 s2 (p'.trans p2) t2⟩
  | false => exact f _ A' _ H' q2 r' s' p' (.of (by rw [Rp]))
theorem pe3_or {a b : Expr} {rest : List Expr} {t u : TE3} {pos} (h : PE3 X C a t) (h' : PE3 X C (.BoolOp .Or (b :: rest) pos) u) : PE3 X C (.BoolOp .Or (a :: b :: rest) pos) (eOr t u) := PE.imp (pe_or h h') fun σ H Q hq => by
  obtain ⟨z, A, Q3, r, s, q, f⟩ := hq
  refine ⟨z, A, _, r, s, q, fun d A' v H' q' r' s' p' t' => ?_⟩
  obtain ⟨b, rfl, q2⟩ := q'
  refine ⟨b, by have := t'.val; exact this, ?_⟩
  cases b with
  | true => exact f _ A' _ H' q2 r' s' p' (.of (by rw [Rp]))
  | false => exact ⟨z, A', Q3, r', s', q2, fun d A2 v H2 q2 r2 s2 p2 t2 => f d A2 v H2 q2 r2 s2 (p'.trans p2) t2⟩
theorem pe3_not {a : Expr} {t : TE3} {pos} (h : PE3 X C a t) : PE3 X C (.UnaryOp .Not a pos) (eNot t) := PE.imp (pe_not h) fun σ H Q hq => by
  obtain ⟨z, A, Q3, r, s, q, f⟩ := hq
  refine ⟨z, A, _, r, s, q, fun d A' v H' q' r' s' p' t' => ?_⟩
  obtain ⟨b, rfl, q2⟩ := q'
  exact ⟨b, by have := t'.val; exact this, f _ A' _ H' q2 r' s' p' (.of (by rw [Rp]))⟩
/-- a < b < c -/
def e3 (f g : AH → D → D → Option D) (ta tb tc : TE3) : TE3 := fun z A Q => ta z A fun d1 A1 => tb z A1 fun d2 A2 => ∃ b, f A2 d1 d2 = some (.bl b) ∧ if b = true then tc z A2 fun d3 A3 => ∃ d, g A3 d2 d3 = some d ∧ Q d A3 else Q (.bl false) A2
theorem low_chain {r r' : R2} {f g : AH → D → D → Option D} {ta tb tc : TE3} (h : Op2 X C r f) (h' : Op2 X C r' g) {σ : L2.St} {H : Hp} {Q : VK} (hq : low X.K X.w C (e3 f g ta tb tc) σ H Q) :
    lowB X.K X.w C ta σ H fun x H1 => lowB X.K X.w C tb σ H1 fun y H2 => r x y H2 fun v H3 => ∃ k, v = .bl k ∧ if k = true then lowB X.K X.w C tc σ H3 fun u H4 => r' y u H4 Q else Q (.bl false) H3 := by
  obtain ⟨z, A, Q3, r0, s, q, k⟩ := hq
  refine ⟨z, A, _, r0, s, q, fun d1 A1 v1 H1 q1 r1 s1 p1 t1 => ⟨z, A1, _, r1, s1, q1, fun d2 A2 v2 H2 q2 r2 s2 p2 t2 => ?_⟩⟩
  obtain ⟨b, hd, q3⟩ := q2
  refine h z A2 σ H2 d1 d2 _ v1 v2 _ r2 s2 (t1.later p2) t2 hd fun v H3 gv => ?_
  obtain ⟨r3, s3, t3⟩ := gv.tmp r2 s2
  refine ⟨b, by have := t3.val; exact this, ?_⟩
  have p3 := (p1.trans p2).trans (.of_ext gv.1)
  cases b with
  | true =>
    refine ⟨z, A2, _, r3, s3, q3, fun d3 A3 v3 H4 q4 r4 s4 p4 t4 => ?_⟩
    obtain ⟨d, hd', q5⟩ := q4
    exact h' z A3 σ H4 d2 d3 d v2 v3 Q r4 s4 ((t2.later (.of_ext gv.1)).later p4) t4 hd' fun v H' gv' => low.gv r4 s4 k (p3.trans p4) q5 gv'
  | false => exact k _ A2 _ H3 q3 r3 s3 p3 (.of (by rw [Rp]))
end
end T3
set_option autoImplicit false
namespace T3
open PySem PySem.Spec PyProof.Rows L2

section
variable {K : PySem.W.Frag} {w : World} {C : Ct} {z : S3} {A : AH} {σ : L2.St} {H : Hp} {d : D} {a : Addr} {u u' : HO} {ob ob' : Ob}
/-- an object of its own is held by several from now on -/
theorem Rel.share (r : Rel K w C A H) (h0 : C.H0 a = none) (q : RpO K w H a ob) : Rel K w C (put A a ob) H where
  heap := fun b o e => by
    by_cases hb : b = a
    · subst hb; rw [put_same] at e; cases e; exact q
    · rw [put_ne hb] at e; exact r.heap b o e
  prot := r.prot
  dom := fun b e => by
    by_cases hb : b = a
    · subst hb; exact .inr h0
    · rw [put_ne hb] at e; exact r.dom b e
  mono := r.mono
theorem Slots.share (s : Slots K w C z A σ H) (n : ∀ (i : Nat) (e : D), z[i]? = some (some e) → own e = true → σ[i]? ≠ some (some (V.ref a))) : Slots K w C z (put A a ob) σ H where
  val := s.val
  sep := fun i e b h o hs => by
    have hb : b ≠ a := fun q => n i e h o (by rw [hs, q])
    rw [put_ne hb]
    exact s.sep i e b h o hs
  uniq := s.uniq
  len := s.len
/-- an object that a slot holds is changed -/
theorem own_write (r : Rel K w C A H) (s : Slots K w C z A σ H) {i : Nat} (hi : z[i]? = some (some d)) (o : own d = true) (hs : σ[i]? = some (some (V.ref a))) (h : H a = some u) (c : Chg u) {d' : D} (eo : obOf d' = some ob') (q : RpO K w (upd H a u') a ob') :
    Rel K w C A (upd H a u') ∧ Slots K w C (z.set i (some d')) A σ (upd H a u') := by
  obtain ⟨hA, h0⟩ := s.sep i d a hi o hs
  have hl : i < z.length := (List.getElem?_eq_some_iff.mp hi).1
  have od' : own d' = true := by cases d' <;> first | rfl | simp [obOf] at eo
  have zs : ∀ (j : Nat) (e : D), (z.set i (some d'))[j]? = some (some e) → (j = i ∧ e = d') ∨ (j ≠ i ∧ z[j]? = some (some e)) := fun j e hj => by
    by_cases q : i = j
    · subst q
      rw [List.getElem?_set_self hl] at hj
      cases hj
      exact .inl ⟨rfl, rfl⟩
    · rw [List.getElem?_set_ne q] at hj
      exact .inr ⟨fun e => q e.symm, hj⟩
  refine ⟨r.alone hA h0 h c, fun j e hj => ?_, fun j e b hj oe hb => ?_, fun j k e f b h1 o1 h2 o2 s1 s2 => ?_, by rw [List.length_set]; exact s.len⟩
  · rcases zs j e hj with ⟨rfl, rfl⟩ | ⟨nj, hj⟩
    · exact ⟨_, hs, .mk eo q⟩
    · obtain ⟨v, h1, h2⟩ := s.val j e hj
      exact ⟨v, h1, h2.keep (pers_upd h c) fun oe b eb => upd_ne fun q => nj (s.uniq j i e d a hj oe hi o (by rw [h1, eb, q]) hs)⟩
  · rcases zs j e hj with ⟨rfl, rfl⟩ | ⟨nj, hj⟩
    · exact s.sep j d b hi o hb
    · exact s.sep j e b hj oe hb
  · rcases zs j e h1 with ⟨ej, _⟩ | ⟨nj, h1⟩
    · rcases zs k f h2 with ⟨ek, _⟩ | ⟨nk, h2⟩
      · rw [ej, ek]
      · rw [ej] at s1 ⊢
        exact s.uniq i k d f b hi o h2 o2 s1 s2
    · rcases zs k f h2 with ⟨ek, _⟩ | ⟨nk, h2⟩
      · rw [ek] at s2 ⊢
        exact s.uniq j i e d b h1 o1 hi o s1 s2
      · exact s.uniq j k e f b h1 o1 h2 o2 s1 s2
/-- an object that several hold is changed -/
theorem ref_write (r : Rel K w C A H) (s : Slots K w C z A σ H) (hA : A a = some ob) (h : H a = some u) (c : Chg u) (q : RpO K w (upd H a u') a ob') :
    Rel K w C (put A a ob') (upd H a u') ∧ Slots K w C z (put A a ob') σ (upd H a u') := by
  have ns : ∀ (i : Nat) (e : D), z[i]? = some (some e) → own e = true → σ[i]? ≠ some (some (V.ref a)) := fun i e hi oe hs => by
    rw [(s.sep i e a hi oe hs).1] at hA; cases hA
  refine ⟨⟨fun b x e => ?_, fun b x e1 e2 => ?_, fun b e => ?_, fun b e => ?_⟩, (s.share ns).alone h c ns⟩
  · by_cases hb : b = a
    · subst hb; rw [put_same] at e; cases e; exact q
    · rw [put_ne hb] at e
      exact (r.heap b x e).keep (pers_upd h c) (upd_ne hb)
  · have hb : b ≠ a := fun q => by
      subst q
      rcases r.dom b (by rw [hA]; simp) with n | n
      · exact n e2
      · rw [n] at e1; cases e1
    rw [upd_ne hb]
    exact r.prot b x e1 e2
  · by_cases hb : b = a
    · subst hb; exact r.dom b (by rw [hA]; simp)
    · rw [put_ne hb] at e; exact r.dom b e
  · by_cases hb : b = a
    · subst hb; rw [upd_same] at e; cases e
    · rw [upd_ne hb] at e; exact r.mono b e
end

section
variable {X : Cx} {C : Ct}
/-! ### blocks -/
def sNil : TS3 := fun D z A => D.nx z A
def sSeq (t u : TS3) : TS3 := fun D z A => t { D with nx := u D } z A
theorem pss3_nil : PSs3 X C [] sNil := PSs.imp pss_nil fun D σ H hq => by
  obtain ⟨z, A, D3, r, s, q, f⟩ := hq
  exact f.nx z A σ H q r s (.refl H)
theorem pss3_cons {st : Stmt} {rest : List Stmt} {t u : TS3} (h : PS3 X C st t) (hr : PSs3 X C rest u) : PSs3 X C (st :: rest) (sSeq t u) := PSs.imp (pss_cons h hr) fun D σ H hq => by
  obtain ⟨z, A, D3, r, s, q, f⟩ := hq
  exact ⟨z, A, _, r, s, q, ⟨fun z' A' σ' H' q' r' s' p' => ⟨z', A', D3, r', s', q', f.later p'⟩, f.rt, f.bk, f.ct⟩⟩
theorem pss3_one {st : Stmt} {t : TS3} (h : PS3 X C st t) : PSs3 X C [st] t := pss_one h
def sBreak : TS3 := fun D z A => D.bk z A
def sCont : TS3 := fun D z A => D.ct z A
theorem ps3_pass {pos} : PS3 X C (.Pass pos) sNil := PS.imp ps_pass fun D σ H hq => by
  obtain ⟨z, A, D3, r, s, q, f⟩ := hq
  exact f.nx z A σ H q r s (.refl H)
theorem ps3_doc {x : Str} {j pos pos'} : PS3 X C (.Expr (.Constant (.str x) j pos) pos') sNil := PS.imp ps_doc fun D σ H hq => by
  obtain ⟨z, A, D3, r, s, q, f⟩ := hq
  exact f.nx z A σ H q r s (.refl H)
theorem ps3_break {pos} : PS3 X C (.Break pos) sBreak := PS.imp ps_break fun D σ H hq => by
  obtain ⟨z, A, D3, r, s, q, f⟩ := hq
  exact f.bk z A σ H q r s (.refl H)
theorem ps3_continue {pos} : PS3 X C (.Continue pos) sCont := PS.imp ps_continue fun D σ H hq => by
  obtain ⟨z, A, D3, r, s, q, f⟩ := hq
  exact f.ct z A σ H q r s (.refl H)
def sDrop (t : TE3) : TS3 := fun D z A => t z A fun _ A' => D.nx z A'
theorem ps3_expr {e : Expr} {t : TE3} {pos} (h : PE3 X C e t) (hs : swapsWith e none pos.line X.env = pure false := by rfl) : PS3 X C (.Expr e pos) (sDrop t) := PS.imp (ps_expr h hs) fun D σ H hq => by
  obtain ⟨z, A, D3, r, s, q, f⟩ := hq
  exact ⟨z, A, _, r, s, q, fun d A' v H' q' r' s' p' t' => f.nx z A' σ H' q' r' s' p'⟩
def sRet (t : TE3) : TS3 := fun D z A => t z A D.rt
theorem ps3_ret {e : Expr} {t : TE3} {pos} (h : PE3 X C e t) : PS3 X C (.Return (some e) pos) (sRet t) := PS.imp (ps_ret h) fun D σ H hq => by
  obtain ⟨z, A, D3, r, s, q, f⟩ := hq
  exact ⟨z, A, _, r, s, q, fun d A' v H' q' r' s' p' t' => f.rt d A' v H' q' r' t'.val (fun o a ev => ⟨(t'.alone o a ev).1, (t'.alone o a ev).2.1⟩) p'⟩
/-- return of a name: what it holds alone is handed on -/
def sRetV (i : Nat) : TS3 := fun D z A => ∃ d, z[i]? = some (some d) ∧ D.rt d A
theorem ps3_retV {e : Expr} {i : Nat} {pos} (h : PE X e (tVar i)) : PS3 X C (.Return (some e) pos) (sRetV i) := PS.imp (ps_ret h) fun D σ H hq => by
  obtain ⟨z, A, D3, r, s, ⟨d, h1, q⟩, f⟩ := hq
  obtain ⟨v, hv, rv⟩ := s.val i d h1
  exact ⟨v, hv, f.rt d A v H q r rv (fun o a ev => s.sep i d a h1 o (by rw [hv, ev])) (.refl H)⟩
def sRetN : TS3 := fun D _ A => D.rt .non A
theorem ps3_retN {pos} : PS3 X C (.Return none pos) sRetN := PS.imp ps_retN fun D σ H hq => by
  obtain ⟨z, A, D3, r, s, q, f⟩ := hq
  exact f.rt .non A .non H q r (.of (by rw [Rp])) (fun o => by simp [own] at o) (.refl H)
def sIf (c : TT3) (t u : TS3) : TS3 := fun D z A => c z A fun b A' => if b = true then t D z A' else u D z A'
theorem ps3_if {c : Expr} {a b : List Stmt} {tc : TT3} {t u : TS3} {pos} (hc : PT3 X C c tc) (ha : PSs3 X C a t) (hb : PSs3 X C b u) : PS3 X C (.If c a b pos) (sIf tc t u) := PS.imp (ps_if hc ha hb) fun D σ H hq => by
  obtain ⟨z, A, D3, r, s, q, f⟩ := hq
  refine ⟨z, A, _, r, s, q, fun b A' H' q' r' s' p' => ?_⟩
  cases b with
  | true => exact ⟨z, A', D3, r', s', q', f.later p'⟩
  | false => exact ⟨z, A', D3, r', s', q', f.later p'⟩

/-! ### a name is stored -/
def sSet (i : Nat) (t : TE3) : TS3 := fun D z A => t z A fun d A' => D.nx (z.set i (some d)) A'
theorem low_set {i : Nat} {t : TE3} {D : Ends} {σ : L2.St} {H : Hp} (hq : lowS X.K X.w C (sSet i t) D σ H) : tAsg (low X.K X.w C t) (gName i) D σ H := by
  obtain ⟨z, A, D3, r, s, q, f⟩ := hq
  exact ⟨z, A, _, r, s, q, fun d A' v H' q' r' s' p' t' => f.nx _ A' _ H' q' r' (s'.set t' i) p'⟩
theorem ps3_set {i : Nat} {x : Str} {e : Expr} {t : TE3} {pos pos' : Pos} (hN : X.N.Nodup) (hi : X.N[i]? = some x) (hx : Loc X.env.scope x) (h : PE3 X C e t) (hs : swapsWith e (some (.Name x pos')) pos.line X.env = pure false := by rfl) (hf : X.fn x = true ∨ X.env.scope.names.lookup x = some .local := by first | exact .inl rfl | exact .inr rfl | assumption) :
    PS3 X C (.Assign [.Name x pos'] e pos) (sSet i t) := PS.imp (ps_set hN hi hx h hs hf) fun _ _ _ hq => low_set hq
/-- .. and held by several from now on -/
def sSetR (i : Nat) (t : TE3) : TS3 := fun D z A => t z A fun d A' => ∃ ob, obOf d = some ob ∧ ∀ a, A' a = none → D.nx (z.set i (some (.ref a))) (put A' a ob)
theorem low_setR {i : Nat} {t : TE3} {D : Ends} {σ : L2.St} {H : Hp} (hq : lowS X.K X.w C (sSetR i t) D σ H) : tAsg (low X.K X.w C t) (gName i) D σ H := by
  obtain ⟨z, A, D3, r, s, q, f⟩ := hq
  refine ⟨z, A, _, r, s, q, fun d A' v H' q' r' s' p' t' => ?_⟩
  obtain ⟨ob, eo, q2⟩ := q'
  have o : own d = true := by cases d <;> first | rfl | simp [obOf] at eo
  obtain ⟨a, ob', rfl, eo', ro⟩ := t'.val.ob o
  rw [eo] at eo'; cases eo'
  obtain ⟨n1, n2, n3⟩ := t'.alone o a rfl
  exact f.nx _ _ _ H' (q2 a n1) (r'.share n2 ro) ((s'.share n3).set (.of (by rw [Rp])) i) p'
theorem ps3_setR {i : Nat} {x : Str} {e : Expr} {t : TE3} {pos pos' : Pos} (hN : X.N.Nodup) (hi : X.N[i]? = some x) (hx : Loc X.env.scope x) (h : PE3 X C e t) (hs : swapsWith e (some (.Name x pos')) pos.line X.env = pure false := by rfl) (hf : X.fn x = true ∨ X.env.scope.names.lookup x = some .local := by first | exact .inl rfl | exact .inr rfl | assumption) :
    PS3 X C (.Assign [.Name x pos'] e pos) (sSetR i t) := PS.imp (ps_set hN hi hx h hs hf) fun _ _ _ hq => low_setR hq
/-- an expression's value, made new, is held by several from now on -/
def eSh (t : TE3) : TE3 := fun z A Q => t z A fun d A' => ∃ ob, obOf d = some ob ∧ ∀ a, A' a = none → Q (.ref a) (put A' a ob)
theorem pe3_sh {e : Expr} {t : TE3} (h : PE3 X C e t) : PE3 X C e (eSh t) := PE.imp h fun σ H Q hq => by
  obtain ⟨z, A, Q3, r, s, q, f⟩ := hq
  refine ⟨z, A, _, r, s, q, fun d A' v H' q' r' s' p' t' => ?_⟩
  obtain ⟨ob, eo, q2⟩ := q'
  have o : own d = true := by cases d <;> first | rfl | simp [obOf] at eo
  obtain ⟨a, ob', rfl, eo', ro⟩ := t'.val.ob o
  rw [eo] at eo'; cases eo'
  obtain ⟨n1, n2, n3⟩ := t'.alone o a rfl
  exact f _ _ _ H' (q2 a n1) (r'.share n2 ro) (s'.share n3) p' (.of (by rw [Rp]))
/-- a slot lets go -/
def sFz (i : Nat) (t : TS3) : TS3 := fun D z A => ∃ d, z[i]? = some (some d) ∧ t D (z.set i (some (frz d))) A
theorem ps_goS {st : List Stmt} {t : TS} (h : PSs X st t) (i : Nat) : PSs X st fun D σ H => t D σ H ∨ ∃ a u, σ[i]? = some (some (V.ref a)) ∧ H a = some u ∧ CanFrz u = true ∧ ∀ o, t D σ (upd H a (.frz o u)) := ⟨fun pins s σ H D I q => by
  rcases q with q | ⟨a, u, _, hx, m, q⟩
  · exact h.run pins s σ H D I q
  · obtain ⟨o, I2⟩ := Inv.freeze I hx m
    exact h.run pins s σ _ D I2 (q o)⟩
theorem pss3_fz {st : List Stmt} {t : TS3} (i : Nat) (h : PSs3 X C st t) : PSs3 X C st (sFz i t) := PSs.imp (ps_goS h i) fun D σ H hq => by
  obtain ⟨z, A, D3, r, s, ⟨d, hd, q⟩, f⟩ := hq
  obtain ⟨v, hv, rv⟩ := s.val i d hd
  have hl : i < z.length := (List.getElem?_eq_some_iff.mp hd).1
  cases o : own d with
  | false =>
    rw [frz_of o] at q
    have e : z.set i (some d) = z := by
      apply List.ext_getElem?
      intro j
      by_cases hj : i = j
      · subst hj; rw [List.getElem?_set_self hl, hd]
      · rw [List.getElem?_set_ne hj]
    rw [e] at q
    exact .inl ⟨z, A, D3, r, s, q, f⟩
  | true =>
    obtain ⟨a, ob, rfl, eo, ro⟩ := rv.ob o
    obtain ⟨u, hu, m, c, fr⟩ := ro.frz eo
    refine .inr ⟨a, u, hv, hu, m, fun ob' => ?_⟩
    obtain ⟨n1, n2⟩ := s.sep i d a hd o hv
    have zs : ∀ (j : Nat) (e : T3.D), (z.set i (some (frz d)))[j]? = some (some e) → own e = true → i ≠ j ∧ z[j]? = some (some e) := fun j e hj oe => by
      by_cases q : i = j
      · subst q
        rw [List.getElem?_set_self hl] at hj
        cases hj
        cases d <;> simp [own, frz] at o oe
      · rw [List.getElem?_set_ne q] at hj
        exact ⟨q, hj⟩
    refine ⟨_, A, D3, r.alone n1 n2 hu c, ⟨fun j e hj => ?_, fun j e b hj oe hb => ?_, fun j k e g b h1 o1 h2 o2 s1 s2 => ?_, by rw [List.length_set]; exact s.len⟩, q, f.later (pers_upd hu c)⟩
    · by_cases q : i = j
      · subst q
        rw [List.getElem?_set_self hl] at hj
        cases hj
        exact ⟨_, hv, .of (fr ob')⟩
      · rw [List.getElem?_set_ne q] at hj
        obtain ⟨v, h1, h2⟩ := s.val j e hj
        exact ⟨v, h1, h2.keep (pers_upd hu c) fun oe b eb => upd_ne fun qq => q (s.uniq i j d e a hd o hj oe hv (by rw [h1, eb, qq]))⟩
    · obtain ⟨nj, hj'⟩ := zs j e hj oe
      exact s.sep j e b hj' oe hb
    · obtain ⟨_, h1'⟩ := zs j e h1 o1
      obtain ⟨_, h2'⟩ := zs k g h2 o2
      exact s.uniq j k e g b h1' o1 h2' o2 s1 s2
end

/-! ### methods of built-in types -/
def TyOk (X : Cx) (T : String) (x : V) (H : Hp) : Prop := ∀ (pins : List (Addr × Obj)) (σ : L2.St) (s : Shared) (v : Value), L2.Inv X pins σ H s → RelV x v → s.TypeIs v T ∧ ∀ a, v = .ref a → ∃ ob, s.heap.get? a = some ob ∧ ob.dict = none
section
variable {X : Cx} {C : Ct} {o e : Expr} {es : List Expr} {to : TE} {t : TA} {name : Str} {apos cpos : Pos} {T id : String} {r : V → List V → Hp → VK → Prop}
def tBW (X : Cx) (T : String) (r : V → List V → Hp → VK → Prop) (to : TE) (t : TA) : TE := fun σ H Q => to σ H fun x H1 => TyOk X T x H1 ∧ t σ H1 fun xs H2 => r x xs H2 Q
theorem pe_bw0 (pa : PlainAttrs T) (slot : Slot T name id) (hty : typeOf (.builtin id) = pure (.type "method_descriptor")) (hm : MtR X id r) (ho : PE X o to)
    (hbase : attributeBase o name X.env (eval o X.env) = eval o X.env := by rfl) (hline : (apos.endLine == cpos.line) = true := by rfl) : PE X (.Call (.Attribute o name apos) [] [] cpos) (tBW X T r to tNil) := by
  refine ⟨fun pins s σ H Q I h => ?_⟩
  refine wpAny_Call_method0_late hbase hline (thn (ho.run pins s σ H _ I h) fun v s1 ⟨x, H1, I1, r1, ty, q1⟩ => ?_)
  obtain ⟨h1, h2⟩ := ty pins σ s1 v I1 r1
  exact ⟨T, id, pa, slot, hty, h1, h2, Calls.callWith_builtin rfl (PySem.evalArgs_none (hm pins s1 σ H1 x [] v [] Q I1 r1 .nil q1))⟩
theorem pe_bw (pa : PlainAttrs T) (slot : Slot T name id) (hty : typeOf (.builtin id) = pure (.type "method_descriptor")) (hm : MtR X id r) (ho : PE X o to) (ha : PA X (e :: es) t)
    (hbase : attributeBase o name X.env (eval o X.env) = eval o X.env := by rfl)
    (hfew : ((backTo cpos (starEach (e :: es) X.env)).all (fun x => !x.1) && (backToKw cpos (keywordEach [] X.env)).all (fun x => x.1.isSome)
      && decide ((e :: es).length + ([] : List Keyword).length + (if ([] : List Keyword).isEmpty then 0 else 1) < 30)) = true := by rfl)
    (hline : (apos.endLine == cpos.line) = true := by rfl) (hs : starEach (e :: es) X.env = (false, eval e X.env) :: starEach es X.env := by rfl) (hplain : (backTo cpos (starEach es X.env)).any (·.1) = false := by rfl) :
    PE X (.Call (.Attribute o name apos) (e :: es) [] cpos) (tBW X T r to t) := by
  refine ⟨fun pins s σ H Q I h => ?_⟩
  refine wpAny_Call_method_late hbase hfew hline rfl (thn (ho.run pins s σ H _ I h) fun v s1 ⟨x, H1, I1, r1, ty, q1⟩ => ?_)
  obtain ⟨h1, h2⟩ := ty pins σ s1 v I1 r1
  refine ⟨T, id, pa, slot, hty, h1, h2, ?_⟩
  have hA := ha.run cpos pins s1 σ H1 _ I1 q1
  rw [hs] at hA ⊢
  refine Calls.callWith_builtin (by show (false || (backTo cpos (starEach es X.env)).any (·.1)) = false; rw [hplain] <;> rfl) (Calls.evalArgs_plain ?_)
  exact thn hA fun us s2 ⟨vs, H2, I2, r2, q2⟩ => hm pins s2 σ H2 x vs v us Q I2 r1 r2 q2

/-! #### .. that read -/
/-- x.m(..) that changes nothing: the receiver and the arguments where they stand -/
structure MtN (X : Cx) (C : Ct) (T : String) (r : V → List V → Hp → VK → Prop) (ok : AH → D → Bool) (f : AH → D → List D → Option D) : Prop where
  ty : ∀ (z : S3) (A : AH) (σ : L2.St) (H : Hp) (d : D) (x : V), Rel X.K X.w C A H → Slots X.K X.w C z A σ H → RpB X.K X.w z σ H d x → ok A d = true → TyOk X T x H
  act : ∀ (z : S3) (A : AH) (σ : L2.St) (H : Hp) (d0 : D) (ds : List D) (d : D) (x : V) (xs : List V) (Q : VK), Rel X.K X.w C A H → Slots X.K X.w C z A σ H →
    RpB X.K X.w z σ H d0 x → RpBs X.K X.w z σ H ds xs → f A d0 ds = some d → (∀ v H', Gv X.K X.w H H' d v → Q v H') → r x xs H Q
def eM (ok : AH → D → Bool) (f : AH → D → List D → Option D) (to : TE3) (ta : TA3) : TE3 := fun z A Q => to z A fun d0 A1 => ok A1 d0 = true ∧ ta z A1 fun ds A2 => ∃ d, f A2 d0 ds = some d ∧ Q d A2
theorem low_m {ok : AH → D → Bool} {f : AH → D → List D → Option D} {to : TE3} {ta : TA3} (h : MtN X C T r ok f) {σ : L2.St} {H : Hp} {Q : VK} (hq : low X.K X.w C (eM ok f to ta) σ H Q) : tBW X T r (lowB X.K X.w C to) (lowAB X.K X.w C ta) σ H Q := by
  obtain ⟨z, A, Q3, r0, s, q, g⟩ := hq
  refine ⟨z, A, _, r0, s, q, fun d0 A1 v1 H1 q1 r1 s1 p1 t1 => ⟨h.ty z A1 σ H1 d0 v1 r1 s1 t1 q1.1, z, A1, _, r1, s1, q1.2, fun ds A2 vs H2 q2 r2 s2 p2 t2 => ?_⟩⟩
  obtain ⟨d, hd, q3⟩ := q2
  exact h.act z A2 σ H2 d0 ds d v1 vs Q r2 s2 (t1.later p2) t2 hd fun v H' gv => low.gv r2 s2 g (p1.trans p2) q3 gv
theorem pe3_m0 {ok : AH → D → Bool} {f : AH → D → List D → Option D} {to : TE3} (pa : PlainAttrs T) (slot : Slot T name id) (hty : typeOf (.builtin id) = pure (.type "method_descriptor")) (hm : MtR X id r) (h : MtN X C T r ok f) (ho : PB3 X C o to)
    (hbase : attributeBase o name X.env (eval o X.env) = eval o X.env := by rfl) (hline : (apos.endLine == cpos.line) = true := by rfl) : PE3 X C (.Call (.Attribute o name apos) [] [] cpos) (eM ok f to aNil) :=
  PE.imp (pe_bw0 pa slot hty hm ho hbase hline) fun σ H Q hq => by
    obtain ⟨z, A, Q3, r0, s, q, g⟩ := hq
    refine ⟨z, A, _, r0, s, q, fun d0 A1 v1 H1 q1 r1 s1 p1 t1 => ⟨h.ty z A1 σ H1 d0 v1 r1 s1 t1 q1.1, ?_⟩⟩
    obtain ⟨_, d, hd, q3⟩ := q1
    exact h.act z A1 σ H1 d0 [] d v1 [] Q r1 s1 t1 .nil hd fun v H' gv => low.gv r1 s1 g p1 q3 gv
theorem pe3_m {ok : AH → D → Bool} {f : AH → D → List D → Option D} {to : TE3} {ta : TA3} (pa : PlainAttrs T) (slot : Slot T name id) (hty : typeOf (.builtin id) = pure (.type "method_descriptor")) (hm : MtR X id r) (h : MtN X C T r ok f) (ho : PB3 X C o to) (ha : PAB3 X C (e :: es) ta)
    (hbase : attributeBase o name X.env (eval o X.env) = eval o X.env := by rfl)
    (hfew : ((backTo cpos (starEach (e :: es) X.env)).all (fun x => !x.1) && (backToKw cpos (keywordEach [] X.env)).all (fun x => x.1.isSome)
      && decide ((e :: es).length + ([] : List Keyword).length + (if ([] : List Keyword).isEmpty then 0 else 1) < 30)) = true := by rfl)
    (hline : (apos.endLine == cpos.line) = true := by rfl) (hs : starEach (e :: es) X.env = (false, eval e X.env) :: starEach es X.env := by rfl) (hplain : (backTo cpos (starEach es X.env)).any (·.1) = false := by rfl) :
    PE3 X C (.Call (.Attribute o name apos) (e :: es) [] cpos) (eM ok f to ta) :=
  PE.imp (pe_bw pa slot hty hm ho ha hbase hfew hline hs hplain) fun σ H Q hq => low_m h hq

/-! #### .. that change the receiver -/
structure MtC (X : Cx) (T : String) (r : V → List V → Hp → VK → Prop) (ok : Ob → Bool) (g : Ob → List D → Option (Ob × D)) : Prop where
  ty : ∀ (H : Hp) (a : Addr) (ob : Ob), RpO X.K X.w H a ob → ok ob = true → TyOk X T (.ref a) H
  act : ∀ (H : Hp) (a : Addr) (ob ob' : Ob) (ds : List D) (d : D) (xs : List V) (Q : VK), RpO X.K X.w H a ob → Rps X.K X.w H ds xs → g ob ds = some (ob', d) →
    (∀ u' v, RpO X.K X.w (upd H a u') a ob' → Rp X.K X.w (upd H a u') d v → Q v (upd H a u')) → r (.ref a) xs H Q
/-- the receiver a reference -/
def eMR (ok : Ob → Bool) (g : Ob → List D → Option (Ob × D)) (to : TE3) (ta : TA3) : TE3 := fun z A Q => to z A fun d0 A1 => ∃ a ob, d0 = .ref a ∧ A1 a = some ob ∧ ok ob = true ∧
  ta z A1 fun ds A2 => ∃ ob1 ob' d, A2 a = some ob1 ∧ g ob1 ds = some (ob', d) ∧ Q d (put A2 a ob')
theorem low_mr {ok : Ob → Bool} {g : Ob → List D → Option (Ob × D)} {to : TE3} {ta : TA3} (h : MtC X T r ok g) {σ : L2.St} {H : Hp} {Q : VK} (hq : low X.K X.w C (eMR ok g to ta) σ H Q) : tBW X T r (low X.K X.w C to) (lowA X.K X.w C ta) σ H Q := by
  obtain ⟨z, A, Q3, r0, s, q, k⟩ := hq
  refine ⟨z, A, _, r0, s, q, fun d0 A1 v1 H1 q1 r1 s1 p1 t1 => ?_⟩
  obtain ⟨a, ob, rfl, ea, eok, q2⟩ := q1
  have ev : v1 = .ref a := by have := t1.val; exact this
  subst ev
  refine ⟨h.ty H1 a ob (r1.heap a ob ea) eok, z, A1, _, r1, s1, q2, fun ds A2 vs H2 q3 r2 s2 p2 t2 => ?_⟩
  obtain ⟨ob1, ob', d, e1, e2, q4⟩ := q3
  have ro := r2.heap a ob1 e1
  obtain ⟨u, hu, c⟩ := ro.there
  refine h.act H2 a ob1 ob' ds d vs Q ro t2 e2 fun u' v q5 rv => ?_
  obtain ⟨r3, s3⟩ := ref_write r2 s2 e1 hu c q5
  exact k d _ v _ q4 r3 s3 ((p1.trans p2).trans (pers_upd hu c)) (.of rv)
theorem pe3_mr0 {ok : Ob → Bool} {g : Ob → List D → Option (Ob × D)} {to : TE3} (pa : PlainAttrs T) (slot : Slot T name id) (hty : typeOf (.builtin id) = pure (.type "method_descriptor")) (hm : MtR X id r) (h : MtC X T r ok g) (ho : PE3 X C o to)
    (hbase : attributeBase o name X.env (eval o X.env) = eval o X.env := by rfl) (hline : (apos.endLine == cpos.line) = true := by rfl) : PE3 X C (.Call (.Attribute o name apos) [] [] cpos) (eMR ok g to aNil) :=
  PE.imp (pe_bw0 pa slot hty hm ho hbase hline) fun σ H Q hq => by
    obtain ⟨z, A, Q3, r0, s, q, k⟩ := hq
    refine ⟨z, A, _, r0, s, q, fun d0 A1 v1 H1 q1 r1 s1 p1 t1 => ?_⟩
    obtain ⟨a, ob, rfl, ea, eok, ob1, ob', d, e1, e2, q4⟩ := q1
    have ev : v1 = .ref a := by have := t1.val; exact this
    subst ev
    have ro := r1.heap a ob1 e1
    obtain ⟨u, hu, c⟩ := ro.there
    refine ⟨h.ty H1 a ob (r1.heap a ob ea) eok, ?_⟩
    refine h.act H1 a ob1 ob' [] d [] Q ro Rps.nil e2 fun u' v q5 rv => ?_
    obtain ⟨r3, s3⟩ := ref_write r1 s1 e1 hu c q5
    exact k d _ v _ q4 r3 s3 (p1.trans (pers_upd hu c)) (.of rv)
theorem pe3_mr {ok : Ob → Bool} {g : Ob → List D → Option (Ob × D)} {to : TE3} {ta : TA3} (pa : PlainAttrs T) (slot : Slot T name id) (hty : typeOf (.builtin id) = pure (.type "method_descriptor")) (hm : MtR X id r) (h : MtC X T r ok g) (ho : PE3 X C o to) (ha : PA3 X C (e :: es) ta)
    (hbase : attributeBase o name X.env (eval o X.env) = eval o X.env := by rfl)
    (hfew : ((backTo cpos (starEach (e :: es) X.env)).all (fun x => !x.1) && (backToKw cpos (keywordEach [] X.env)).all (fun x => x.1.isSome)
      && decide ((e :: es).length + ([] : List Keyword).length + (if ([] : List Keyword).isEmpty then 0 else 1) < 30)) = true := by rfl)
    (hline : (apos.endLine == cpos.line) = true := by rfl) (hs : starEach (e :: es) X.env = (false, eval e X.env) :: starEach es X.env := by rfl) (hplain : (backTo cpos (starEach es X.env)).any (·.1) = false := by rfl) :
    PE3 X C (.Call (.Attribute o name apos) (e :: es) [] cpos) (eMR ok g to ta) :=
  PE.imp (pe_bw pa slot hty hm ho ha hbase hfew hline hs hplain) fun σ H Q hq => low_mr h hq
/-- the receiver a name that holds it alone; the value goes to a consumer of its own (W: dropped, or stored) -/
def dOf : Ob → D
  | .lst xs => .ml xs | .dct kvs => .md kvs | .ins _ _ => .non
theorem dOf_ob {d : D} {ob : Ob} (h : obOf d = some ob) : d = dOf ob := by cases d <;> simp [obOf] at h <;> subst h <;> rfl
def sM (i : Nat) (ok : Ob → Bool) (g : Ob → List D → Option (Ob × D)) (ta : TA3) (k : D → TS3) : TS3 := fun D z A => ∃ d0 ob, z[i]? = some (some d0) ∧ obOf d0 = some ob ∧ ok ob = true ∧
  ta z A fun ds A2 => ∃ ob' d, g ob ds = some (ob', d) ∧ obOf (dOf ob') = some ob' ∧ k d D (z.set i (some (dOf ob'))) A2
theorem low_sm {i : Nat} {ok : Ob → Bool} {g : Ob → List D → Option (Ob × D)} {ta : TA3} {k : D → TS3} (h : MtC X T r ok g) {σ : L2.St} {H : Hp} {D : Ends} {W : VK} (hq : lowS X.K X.w C (sM i ok g ta k) D σ H)
    (hk : ∀ d v z A H D3, k d D3 z A → Fits3 X.K X.w C H D3 D → Rel X.K X.w C A H → Slots X.K X.w C z A σ H → Rp X.K X.w H d v → W v H) : tBW X T r (tVar i) (lowA X.K X.w C ta) σ H W := by
  obtain ⟨z, A, D3, r0, s, ⟨d0, ob, hd, eo, eok, q⟩, f⟩ := hq
  obtain ⟨v, hv, rv⟩ := s.val i d0 hd
  have o : own d0 = true := by cases d0 <;> first | rfl | simp [obOf] at eo
  obtain ⟨a, ob', rfl, eo', ro⟩ := rv.ob o
  rw [eo] at eo'; cases eo'
  refine ⟨_, hv, h.ty H a ob ro eok, z, A, _, r0, s, q, fun ds A2 vs H2 q3 r2 s2 p2 t2 => ?_⟩
  obtain ⟨ob', d, e2, e3, q4⟩ := q3
  obtain ⟨v2, hv2, rv2⟩ := s2.val i d0 hd
  rw [hv] at hv2; cases hv2
  obtain ⟨a2, ob2, ea2, eo2, ro2⟩ := rv2.ob o
  cases ea2
  rw [eo] at eo2; cases eo2
  obtain ⟨u, hu, c⟩ := ro2.there
  refine h.act H2 a ob ob' ds d vs W ro2 t2 e2 fun u' v q5 rv => ?_
  obtain ⟨r3, s3⟩ := own_write r2 s2 hd o hv hu c e3 q5
  exact hk d v _ _ _ D3 q4 (f.later (p2.trans (pers_upd hu c))) r3 s3 rv
def kDrop : D → TS3 := fun _ D z A => D.nx z A
theorem ps3_m0 {i : Nat} {ok : Ob → Bool} {g : Ob → List D → Option (Ob × D)} {pos : Pos} (pa : PlainAttrs T) (slot : Slot T name id) (hty : typeOf (.builtin id) = pure (.type "method_descriptor")) (hm : MtR X id r) (h : MtC X T r ok g) (ho : PE X o (tVar i))
    (hs : swapsWith (.Call (.Attribute o name apos) [] [] cpos) none pos.line X.env = pure false := by rfl)
    (hbase : attributeBase o name X.env (eval o X.env) = eval o X.env := by rfl) (hline : (apos.endLine == cpos.line) = true := by rfl) : PS3 X C (.Expr (.Call (.Attribute o name apos) [] [] cpos) pos) (sM i ok g aNil kDrop) :=
  PS.imp (ps_expr (pe_bw0 pa slot hty hm ho hbase hline) hs) fun D σ H hq => by
    have q := low_sm (X := X) (C := C) (W := fun _ H1 => D.nx σ H1) h hq fun d v z A H D3 hk f r s rv => f.nx z A σ H hk r s (.refl H)
    obtain ⟨v, hv, ty, z, A, Q3, r0, s, q, g'⟩ := q
    exact ⟨v, hv, ty, g' [] A [] H q r0 s (.refl H) Rps.nil⟩
theorem ps3_m {i : Nat} {ok : Ob → Bool} {g : Ob → List D → Option (Ob × D)} {ta : TA3} {pos : Pos} (pa : PlainAttrs T) (slot : Slot T name id) (hty : typeOf (.builtin id) = pure (.type "method_descriptor")) (hm : MtR X id r) (h : MtC X T r ok g) (ho : PE X o (tVar i)) (ha : PA3 X C (e :: es) ta)
    (hsw : swapsWith (.Call (.Attribute o name apos) (e :: es) [] cpos) none pos.line X.env = pure false := by rfl)
    (hbase : attributeBase o name X.env (eval o X.env) = eval o X.env := by rfl)
    (hfew : ((backTo cpos (starEach (e :: es) X.env)).all (fun x => !x.1) && (backToKw cpos (keywordEach [] X.env)).all (fun x => x.1.isSome)
      && decide ((e :: es).length + ([] : List Keyword).length + (if ([] : List Keyword).isEmpty then 0 else 1) < 30)) = true := by rfl)
    (hline : (apos.endLine == cpos.line) = true := by rfl) (hs : starEach (e :: es) X.env = (false, eval e X.env) :: starEach es X.env := by rfl) (hplain : (backTo cpos (starEach es X.env)).any (·.1) = false := by rfl) :
    PS3 X C (.Expr (.Call (.Attribute o name apos) (e :: es) [] cpos) pos) (sM i ok g ta kDrop) :=
  PS.imp (ps_expr (pe_bw pa slot hty hm ho ha hbase hfew hline hs hplain) hsw) fun D σ H hq => low_sm (X := X) (C := C) (W := fun _ H1 => D.nx σ H1) h hq fun d v z A H D3 hk f r s rv => f.nx z A σ H hk r s (.refl H)

/-! #### o[i] = e -/
/-- a store by values -/
def SetC (X : Cx) (r : TSet) (g : Ob → D → D → Option Ob) : Prop := ∀ (H : Hp) (a : Addr) (ob ob' : Ob) (k v : D) (x y : V) (Q : Hp → Prop), RpO X.K X.w H a ob → Rp X.K X.w H k x → Rp X.K X.w H v y → g ob k v = some ob' →
  (∀ u', RpO X.K X.w (upd H a u') a ob' → Q (upd H a u')) → r (.ref a) x y H Q
def sPut (i : Nat) (g : Ob → D → D → Option Ob) (tk tv : TE3) : TS3 := fun D z A => (∃ d, z[i]? = some (some d)) ∧ tv z A fun v A1 => tk z A1 fun k A2 => ∃ d0 ob ob', z[i]? = some (some d0) ∧ obOf d0 = some ob ∧ g ob (frz k) (frz v) = some ob' ∧ obOf (dOf ob') = some ob' ∧ D.nx (z.set i (some (dOf ob'))) A2
def sPutR (g : Ob → D → D → Option Ob) (to tk tv : TE3) : TS3 := fun D z A => tv z A fun v A1 => to z A1 fun d0 A2 => tk z A2 fun k A3 => ∃ a ob ob', frz d0 = .ref a ∧ A3 a = some ob ∧ g ob (frz k) (frz v) = some ob' ∧ D.nx z (put A3 a ob')
section
variable {i k : Expr} {j : Nat} {tr : TSet} {g : Ob → D → D → Option Ob} {tk tv : TE3} {to3 : TE3} {tpos pos : Pos} {ve : Expr}
theorem ps3_put (hr : PSet X tr) (h : SetC X tr g) (ho : PE X o (tVar j)) (hk : PE3 X C k tk) (hv : PE3 X C ve tv)
    (ha : ∀ v, assign (.Subscript o k tpos) X.env v = (do
      let ov ← holding [v] (eval o X.env)
      let iv ← holding [v, ov] (eval k X.env)
      standAt tpos
      holding [v, ov, iv] (setItem ov iv v)
      release [v, ov, iv] []) := by intro _; rfl)
    (hs : swapsWithSole [.Subscript o k tpos] ve pos.line X.env = pure false := by rfl) (hw : swappedStores [.Subscript o k tpos] ve X.env = pure none := by rfl)
    (h1 : (assignEach [.Subscript o k tpos] X.env).map (·.2) = [assign (.Subscript o k tpos) X.env] := by rfl) : PS3 X C (.Assign [.Subscript o k tpos] ve pos) (sPut j g tk tv) :=
  PS.imp (ps_asg (pe_fz hv) (pg_sub ho (pe_fz hk) hr ha) hs hw h1) fun D σ H hq => by
    obtain ⟨z, A, D3, r, s, ⟨⟨dj, hdj⟩, q⟩, f⟩ := hq
    obtain ⟨x, hx, _⟩ := s.val j dj hdj
    refine ⟨z, A, _, r, s, q, fun v A1 y H1 q1 r1 s1 p1 t1 => ?_⟩
    refine ⟨x, hx, z, A1, _, r1, s1, q1, fun kd A2 kx H2 q2 r2 s2 p2 t2 => ?_⟩
    obtain ⟨d0, ob, ob', hd, eo, eg, e3, q4⟩ := q2
    have o : own d0 = true := by cases d0 <;> first | rfl | simp [obOf] at eo
    obtain ⟨x2, hx2, rv2⟩ := s2.val j d0 hd
    rw [hx] at hx2; cases hx2
    obtain ⟨a2, ob2, ea2, eo2, ro2⟩ := rv2.ob o
    subst ea2
    rw [eo] at eo2; cases eo2
    obtain ⟨u, hu, c⟩ := ro2.there
    refine h H2 a2 ob ob' _ _ kx y _ ro2 t2 (t1.pers p2) eg fun u' q5 => ?_
    obtain ⟨r3, s3⟩ := own_write r2 s2 hd o hx hu c e3 q5
    exact f.nx _ _ σ _ q4 r3 s3 ((p1.trans p2).trans (pers_upd hu c))
theorem ps3_putR (hr : PSet X tr) (h : SetC X tr g) (ho : PE3 X C o to3) (hk : PE3 X C k tk) (hv : PE3 X C ve tv)
    (ha : ∀ v, assign (.Subscript o k tpos) X.env v = (do
      let ov ← holding [v] (eval o X.env)
      let iv ← holding [v, ov] (eval k X.env)
      standAt tpos
      holding [v, ov, iv] (setItem ov iv v)
      release [v, ov, iv] []) := by intro _; rfl)
    (hs : swapsWithSole [.Subscript o k tpos] ve pos.line X.env = pure false := by rfl) (hw : swappedStores [.Subscript o k tpos] ve X.env = pure none := by rfl)
    (h1 : (assignEach [.Subscript o k tpos] X.env).map (·.2) = [assign (.Subscript o k tpos) X.env] := by rfl) : PS3 X C (.Assign [.Subscript o k tpos] ve pos) (sPutR g to3 tk tv) :=
  PS.imp (ps_asg (pe_fz hv) (pg_sub (pe_fz ho) (pe_fz hk) hr ha) hs hw h1) fun D σ H hq => by
    obtain ⟨z, A, D3, r, s, q, f⟩ := hq
    refine ⟨z, A, _, r, s, q, fun v A1 y H1 q1 r1 s1 p1 t1 => ⟨z, A1, _, r1, s1, q1, fun d0 A2 x H2 q2 r2 s2 p2 t2 => ⟨z, A2, _, r2, s2, q2, fun kd A3 kx H3 q3 r3 s3 p3 t3 => ?_⟩⟩⟩
    obtain ⟨a, ob, ob', ed, ea, eg, q4⟩ := q3
    rw [ed] at t2
    have ex : x = .ref a := by rw [Rp] at t2; exact t2
    subst ex
    have ro := r3.heap a ob ea
    obtain ⟨u, hu, c⟩ := ro.there
    refine h H3 a ob ob' _ _ kx y _ ro t3 ((t1.pers p2).pers p3) eg fun u' q5 => ?_
    obtain ⟨r4, s4⟩ := ref_write r3 s3 ea hu c q5
    exact f.nx _ _ σ _ q4 r4 s4 (((p1.trans p2).trans p3).trans (pers_upd hu c))
end
end
end T3
set_option autoImplicit false
namespace T3
open PySem PySem.Spec PyProof.Rows L2

/-! ### targets: a name; names in brackets -/
inductive Pat where
  | nm (i : Nat) | tp (is : List Nat)
def Pat.ix : Pat → List Nat
  | .nm i => [i] | .tp is => is
def gNames : List Nat → TGs
  | [] => gNil
  | i :: is => gCons (gName i) (gNames is)
def gPat (K : PySem.W.Frag) : Pat → TG
  | .nm i => gName i
  | .tp is => gTup K is.length (gNames is)
def setAll : S3 → List Nat → List D → S3
  | z, i :: is, d :: ds => setAll (z.set i (some d)) is ds
  | z, _, _ => z
def setP : Pat → D → S3 → Option S3
  | .nm i, d, z => some (z.set i (some d))
  | .tp is, .tup ds, z => if ds.length = is.length then some (setAll z is ds) else none
  | .tp _, _, _ => none
theorem wipe_at (σ : L2.St) : ∀ (vs : List Nat) (j : Nat), j ∈ vs → (wipe σ vs)[j]? = if j < σ.length then some none else none
  | [], j, h => by cases h
  | v :: vs, j, h => by
    show ((wipe σ vs).set v none)[j]? = _
    by_cases e : v = j
    · subst e
      by_cases hl : v < σ.length
      · rw [List.getElem?_set_self (by rw [wipe_length]; exact hl), if_pos hl]
      · rw [if_neg hl, List.getElem?_eq_none (by rw [List.length_set, wipe_length]; omega)]
    · rw [List.getElem?_set_ne e]
      exact wipe_at σ vs j ((List.mem_cons.mp h).resolve_left fun q => e q.symm)
theorem wipe_set (σ : L2.St) (i : Nat) (x : Option V) (vs : List Nat) (h : i ∈ vs) : wipe (σ.set i x) vs = wipe σ vs := by
  apply List.ext_getElem?
  intro j
  by_cases hj : j ∈ vs
  · rw [wipe_at _ _ _ hj, wipe_at _ _ _ hj, List.length_set]
  · rw [wipe_out hj, wipe_out hj, List.getElem?_set_ne (fun e => hj (by rw [← e]; exact h))]
section
variable {K : PySem.W.Frag} {w : World} {C : Ct} {z z' : S3} {A : AH} {σ : L2.St} {H : Hp} {d : D} {v : V}
theorem names_low (r : Rel K w C A H) : ∀ (is : List Nat) (ds : List D) (vs : List V) (z : S3) (σ : L2.St), Slots K w C z A σ H → Rps K w H ds vs → ds.length = is.length → ∀ Q : L2.St → Hp → Prop,
    (∀ σ', Slots K w C (setAll z is ds) A σ' H → (∀ ws : List Nat, (∀ i ∈ is, i ∈ ws) → wipe σ' ws = wipe σ ws) → Q σ' H) → gNames is vs σ H Q
  | [], ds, vs, z, σ, s, h, e, Q, q => by
    have : ds = [] := List.eq_nil_of_length_eq_zero (by simpa using e)
    subst this
    rw [Rps] at h
    exact ⟨h, q σ s fun _ _ => rfl⟩
  | i :: is, [], vs, z, σ, s, h, e, Q, q => by simp at e
  | i :: is, d :: ds, vs, z, σ, s, h, e, Q, q => by
    rw [Rps] at h
    obtain ⟨x, xs, rfl, h1, h2⟩ := h
    refine ⟨x, xs, rfl, ?_⟩
    refine names_low r is ds xs (z.set i (some d)) (σ.set i (some x)) (s.set (.of h1) i) h2 (by simpa using e) Q fun σ' s' hw => q σ' s' fun ws hi => ?_
    rw [hw ws fun j hj => hi j (List.mem_cons_of_mem _ hj), wipe_set _ _ _ _ (hi i List.mem_cons_self)]
theorem pat_low {p : Pat} {Q : L2.St → Hp → Prop} (r : Rel K w C A H) (s : Slots K w C z A σ H) (h : Rp K w H d v) (e : setP p d z = some z')
    (q : ∀ σ', Slots K w C z' A σ' H → (∀ ws : List Nat, (∀ i ∈ p.ix, i ∈ ws) → wipe σ' ws = wipe σ ws) → Q σ' H) : gPat K p v σ H Q := by
  cases p with
  | nm i =>
    simp only [setP, Option.some.injEq] at e
    subst e
    exact q _ (s.set (.of h) i) fun ws hi => wipe_set _ _ _ _ (hi i (by simp [Pat.ix]))
  | tp is =>
    cases d with
    | tup ds =>
      rw [setP] at e
      split at e
      · rename_i hl
        cases e
        rw [Rp] at h
        obtain ⟨a, xs, rfl, hs, hr⟩ := h
        refine ⟨a, xs, rfl, hs, hr.length.trans hl, ?_⟩
        exact names_low r is ds xs z σ s hr hl Q q
      · cases e
    | _ => cases e
end
section
variable {X : Cx} {C : Ct}
def sAsgP (p : Pat) (t : TE3) : TS3 := fun D z A => t z A fun d A' => ∃ z', setP p (frz d) z = some z' ∧ D.nx z' A'
theorem ps3_asgP {tg e : Expr} {p : Pat} {t : TE3} {pos : Pos} (he : PE3 X C e t) (hg : PG X tg (gPat X.K p)) (hs : swapsWithSole [tg] e pos.line X.env = pure false := by rfl) (hw : swappedStores [tg] e X.env = pure none := by rfl)
    (h1 : (assignEach [tg] X.env).map (·.2) = [assign tg X.env] := by rfl) : PS3 X C (.Assign [tg] e pos) (sAsgP p t) := PS.imp (ps_asg (pe_fz he) hg hs hw h1) fun D σ H hq => by
  obtain ⟨z, A, D3, r, s, q, f⟩ := hq
  refine ⟨z, A, _, r, s, q, fun d A' v H' q' r' s' p' t' => ?_⟩
  obtain ⟨z', e, q2⟩ := q'
  exact pat_low r' s' t' e fun σ' s2 _ => f.nx z' A' σ' H' q2 r' s2 p'

/-! ### what a loop walks -/
abbrev TI3 := S3 → AH → (List D → AH → Prop) → Prop
/-- the iterator yields these items as long as data stays data -/
def Steady (K : PySem.W.Frag) (w : World) (J : It) (items : List D) (H : Hp) : Prop :=
  (∀ H2, Pers H H2 → J.stop items.length H2) ∧ ∀ i d H2, Pers H H2 → items[i]? = some d → J.go i H2 ∧ ∀ x H3, J.yld i H2 x H3 → Ext H2 H3 ∧ Rp K w H3 d x
def lowI (K : PySem.W.Frag) (w : World) (C : Ct) (t : TI3) : TI := fun σ H R => ∃ z A Q3, Rel K w C A H ∧ Slots K w C z A σ H ∧ t z A Q3 ∧
  ∀ items A' J H', Q3 items A' → Rel K w C A' H' → Slots K w C z A' σ H' → Pers H H' → Steady K w J items H' → R J H'
abbrev PI3 (X : Cx) (C : Ct) (tg e : Expr) (t : TI3) : Prop := PI X tg e (lowI X.K X.w C t)
theorem PI.imp {tg e : Expr} {t t' : TI} (h : PI X tg e t) (i : ∀ σ H R, t' σ H R → t σ H R) : PI X tg e t' := ⟨fun pins s σ H R I q => h.run pins s σ H R I (i σ H R q)⟩

/-! ### for -/
def forW (p : Pat) (tb : TS3) (E : Ends3) : List D → S3 → AH → Prop
  | [], z, A => E.nx z A
  | x :: xs, z, A => ∃ z', setP p x z = some z' ∧ tb { E with nx := forW p tb E xs, ct := forW p tb E xs, bk := E.nx } z' A
def sFor (t : TI3) (p : Pat) (tb : TS3) : TS3 := fun D z A => t z A fun items A' => forW p tb D items z A'
theorem ps3_for {tg iter : Expr} {body : List Stmt} {t : TI3} {p : Pat} {tb : TS3} {pos : Pos} (hp : PassesOwn (model X.prog X.w) X.A X.env X.xe) (hc : X.calm = true) (hi : PI3 X C tg iter t) (hg : PG X tg (gPat X.K p)) (hb : PSs3 X C body tb)
    (hs : ∀ x, foldedSetIterable iter X.env x = pure x := by intro _; rfl) : PS3 X C (.For tg iter body [] pos) (sFor t p tb) := PS.imp (ps_for hp hc hi hg hb hs) fun D σ H hq => by
  obtain ⟨z, A, D3, r, s, q, f⟩ := hq
  refine ⟨z, A, _, r, s, q, fun items A1 J H1 q1 r1 s1 p1 st => ?_⟩
  refine ⟨fun i m σ2 H2 => ∃ z2 A2, m = items.length - i ∧ i ≤ items.length ∧ Rel X.K X.w C A2 H2 ∧ Slots X.K X.w C z2 A2 σ2 H2 ∧ Pers H1 H2 ∧ forW p tb D3 (items.drop i) z2 A2,
    ⟨items.length, z, A1, by simp, Nat.zero_le _, r1, s1, .refl _, by simpa using q1⟩, ?_⟩
  rintro i m σ2 H2 ⟨z2, A2, rfl, hi, r2, s2, p2, q2⟩
  by_cases hlt : i < items.length
  · refine .inr ?_
    have hd : items.drop i = items[i] :: items.drop (i + 1) := List.drop_eq_getElem_cons hlt
    rw [hd] at q2
    obtain ⟨z3, e3, q3⟩ := q2
    obtain ⟨go, yl⟩ := st.2 i items[i] H2 p2 (List.getElem?_eq_getElem hlt)
    refine ⟨go, fun σ4 H4 => ∃ z4 A4, Rel X.K X.w C A4 H4 ∧ Slots X.K X.w C z4 A4 σ4 H4 ∧ Pers H1 H4 ∧ forW p tb D3 (items.drop (i + 1)) z4 A4, ?_, fun x H3 y => ?_⟩
    · rintro σ4 H4 ⟨z4, A4, r4, s4, p4, q4⟩
      exact ⟨items.length - (i + 1), by omega, z4, A4, rfl, hlt, r4, s4, p4, q4⟩
    · obtain ⟨e, rx⟩ := yl x H3 y
      have pb : Pers H1 H3 := p2.trans (.of_ext e)
      refine pat_low (r2.ext e) (s2.ext e) rx e3 fun σ' s' _ => ?_
      exact ⟨z3, A2, _, r2.ext e, s', q3, ⟨fun z4 A4 σ4 H4 q4 r4 s4 p4 => ⟨z4, A4, r4, s4, pb.trans p4, q4⟩, fun d A4 v H4 q4 r4 t4 o4 p4 => f.rt d A4 v H4 q4 r4 t4 o4 ((p1.trans pb).trans p4),
        fun z4 A4 σ4 H4 q4 r4 s4 p4 => f.nx z4 A4 σ4 H4 q4 r4 s4 ((p1.trans pb).trans p4), fun z4 A4 σ4 H4 q4 r4 s4 p4 => ⟨z4, A4, r4, s4, pb.trans p4, q4⟩⟩⟩
  · have e : i = items.length := by omega
    subst e
    refine .inl ⟨st.1 H2 p2, ?_⟩
    rw [List.drop_length] at q2
    exact f.nx z2 A2 σ2 H2 q2 r2 s2 (p1.trans p2)

/-! ### while -/
def sWhile (c : TT3) (tb : TS3) : TS3 := fun D z A => ∃ P : Nat → S3 → AH → Prop, (∃ n, P n z A) ∧ ∀ n z A, P n z A →
  c z A fun b A1 => if b = true then tb { D with nx := fun z' A' => ∃ n', n' < n ∧ P n' z' A', ct := fun z' A' => ∃ n', n' < n ∧ P n' z' A', bk := D.nx } z A1 else D.nx z A1
theorem ps3_while {c : Expr} {body : List Stmt} {tc : TT3} {tb : TS3} {pos : Pos} (hp : PassesOwn (model X.prog X.w) X.A X.env X.xe) (hc : PT3 X C c tc) (hb : PSs3 X C body tb) : PS3 X C (.While c body [] pos) (sWhile tc tb) := PS.imp (ps_while hp hc hb) fun D σ H hq => by
  obtain ⟨z, A, D3, r, s, ⟨P, ⟨n0, p0⟩, turn⟩, f⟩ := hq
  refine ⟨fun n σ2 H2 => ∃ z2 A2, Rel X.K X.w C A2 H2 ∧ Slots X.K X.w C z2 A2 σ2 H2 ∧ Pers H H2 ∧ P n z2 A2, ⟨n0, z, A, r, s, .refl H, p0⟩, ?_⟩
  rintro n σ2 H2 ⟨z2, A2, r2, s2, p2, q2⟩
  refine ⟨z2, A2, _, r2, s2, turn n z2 A2 q2, fun b A3 H3 q3 r3 s3 p3 => ?_⟩
  have pb := p2.trans p3
  cases b with
  | true =>
    refine ⟨fun σ4 H4 => ∃ n', n' < n ∧ ∃ z4 A4, Rel X.K X.w C A4 H4 ∧ Slots X.K X.w C z4 A4 σ4 H4 ∧ Pers H H4 ∧ P n' z4 A4, fun σ4 H4 h => h, z2, A3, _, r3, s3, q3, ?_⟩
    exact ⟨fun z4 A4 σ4 H4 ⟨n', hn, q4⟩ r4 s4 p4 => ⟨n', hn, z4, A4, r4, s4, pb.trans p4, q4⟩, fun d A4 v H4 q4 r4 t4 o4 p4 => f.rt d A4 v H4 q4 r4 t4 o4 (pb.trans p4),
      fun z4 A4 σ4 H4 q4 r4 s4 p4 => f.nx z4 A4 σ4 H4 q4 r4 s4 (pb.trans p4), fun z4 A4 σ4 H4 ⟨n', hn, q4⟩ r4 s4 p4 => ⟨n', hn, z4, A4, r4, s4, pb.trans p4, q4⟩⟩
  | false => exact f.nx z2 A3 σ2 H3 q3 r3 s3 pb

/-! ### comprehensions -/
def wipe3 (z : S3) : List Nat → S3
  | [] => z
  | v :: vs => (wipe3 z vs).set v none
theorem wipe3_length (z : S3) : ∀ vs : List Nat, (wipe3 z vs).length = z.length
  | [] => rfl
  | v :: vs => by unfold wipe3; rw [List.length_set, wipe3_length z vs]
theorem wipe3_some {z : S3} {i : Nat} {x : D} : ∀ {vs : List Nat}, (wipe3 z vs)[i]? = some (some x) → z[i]? = some (some x) ∧ i ∉ vs
  | [], h => ⟨h, by simp⟩
  | v :: vs, h => by
    unfold wipe3 at h
    by_cases e : v = i
    · subst e
      rw [List.getElem?_set] at h
      split at h
      · split at h <;> cases h
      · rename_i hn; exact absurd rfl hn
    · rw [List.getElem?_set_ne e] at h
      obtain ⟨h1, h2⟩ := wipe3_some h
      exact ⟨h1, by simp only [List.mem_cons, not_or]; exact ⟨fun q => e q.symm, h2⟩⟩
theorem wipe3_out {z : S3} {i : Nat} : ∀ {vs : List Nat}, i ∉ vs → (wipe3 z vs)[i]? = z[i]?
  | [], _ => rfl
  | v :: vs, h => by
    unfold wipe3
    simp only [List.mem_cons, not_or] at h
    rw [List.getElem?_set_ne (fun e => h.1 e.symm), wipe3_out h.2]
theorem setAll_out {i : Nat} : ∀ {is : List Nat} {ds : List D} {z : S3}, i ∉ is → (setAll z is ds)[i]? = z[i]?
  | [], _, _, _ => by unfold setAll; rfl
  | _ :: _, [], _, _ => by unfold setAll; rfl
  | j :: is, d :: ds, z, h => by
    simp only [List.mem_cons, not_or] at h
    unfold setAll
    rw [setAll_out h.2, List.getElem?_set_ne (fun e => h.1 e.symm)]
theorem setP_out {p : Pat} {d : D} {z z' : S3} {i : Nat} (e : setP p d z = some z') (h : i ∉ p.ix) : z'[i]? = z[i]? := by
  cases p with
  | nm j =>
    simp only [setP, Option.some.injEq] at e
    subst e
    exact List.getElem?_set_ne (fun q => h (by simp [Pat.ix, q]))
  | tp is =>
    cases d with
    | tup ds =>
      rw [setP] at e
      split at e
      · cases e; exact setAll_out h
      · cases e
    | _ => cases e
def lcW (p : Pat) (tt : TT3) (te : TE3) (z0 : S3) : List D → List D → AH → (D → AH → Prop) → Prop
  | [], acc, A, Q => Q (.ml acc) A
  | x :: xs, acc, A, Q => ∃ z', setP p x z0 = some z' ∧ tt z' A fun b A1 => if b = true then te z' A1 fun d A2 => acc.length < sizeLine ∧ lcW p tt te z0 xs (acc ++ [frz d]) A2 Q else lcW p tt te z0 xs acc A1 Q
def eLc (t : TI3) (p : Pat) (tt : TT3) (te : TE3) (vs : List Nat) : TE3 := fun z A Q => (∀ i ∈ vs, ∀ d, z[i]? = some (some d) → own d = false) ∧ t z A fun items A' => lcW p tt te (wipe3 z vs) items [] A' Q
def tYes3 : TT3 := fun _ A Q => Q true A
abbrev PTs3 (X : Cx) (C : Ct) (ifs : List Expr) (t : TT3) : Prop := PTs X ifs (lowT X.K X.w C t)
theorem PTs.imp {e : List Expr} {t t' : TT} (h : PTs X e t) (i : ∀ σ H Q, t' σ H Q → t σ H Q) : PTs X e t' := ⟨fun pins s σ H Q I q => h.run pins s σ H Q I (i σ H Q q)⟩
theorem pts3_nil : PTs3 X C [] tYes3 := PTs.imp pts_nil fun σ H Q hq => by
  obtain ⟨z, A, Q3, r, s, q, f⟩ := hq
  exact f true A H q r s (.refl H)
theorem pts3_one {c : Expr} {t : TT3} (h : PT3 X C c t) : PTs3 X C [c] t := pts_one h
/-- within a block whose list stands at L -/
def Ct.with (C : Ct) (L : Addr) (o : HO) : Ct := ⟨fun b => if b = L then some o else C.H0 b, fun b => if b = L then none else C.A0 b⟩
section
variable {K : PySem.W.Frag} {w : World} {C : Ct} {z : S3} {A : AH} {σ : L2.St} {H : Hp} {L : Addr} {o : HO}
theorem Rel.into (r : Rel K w C A H) (h : H L = some o) (hA : A L = none) : Rel K w (C.with L o) A H where
  heap := r.heap
  prot := fun b x e1 e2 => by
    by_cases hb : b = L
    · subst hb
      have : (some o : Option HO) = some x := by simpa [Ct.with] using e1
      rw [h, this]
    · simp only [Ct.with, hb, if_false] at e1 e2
      exact r.prot b x e1 e2
  dom := fun b e => by
    by_cases hb : b = L
    · rw [hb, hA] at e; exact absurd rfl e
    · simp only [Ct.with, hb, if_false]; exact r.dom b e
  mono := fun b e => by
    by_cases hb : b = L
    · rw [hb, h] at e; cases e
    · simp only [Ct.with, hb, if_false]; exact r.mono b e
theorem Rel.outof (r : Rel K w (C.with L o) A H) (h0 : C.H0 L = none) : Rel K w C A H ∧ H L = some o ∧ A L = none := by
  refine ⟨⟨r.heap, fun b x e1 e2 => ?_, fun b e => ?_, fun b e => ?_⟩, r.prot L o (by simp [Ct.with]) (by simp [Ct.with]), ?_⟩
  · have hb : b ≠ L := fun q => by rw [q, h0] at e1; cases e1
    exact r.prot b x (by simp [Ct.with, hb, e1]) (by simp [Ct.with, hb, e2])
  · by_cases hb : b = L
    · rw [hb]; exact .inr h0
    · have := r.dom b e
      simpa [Ct.with, hb] using this
  · by_cases hb : b = L
    · rw [hb]; exact h0
    · have := r.mono b e
      simpa [Ct.with, hb] using this
  · cases q : A L with
    | none => rfl
    | some x =>
      have := r.dom L (by rw [q]; simp)
      simp [Ct.with] at this
theorem Slots.into (s : Slots K w C z A σ H) (n : ∀ (i : Nat) (e : D), z[i]? = some (some e) → own e = true → σ[i]? ≠ some (some (V.ref L))) : Slots K w (C.with L o) z A σ H where
  val := s.val
  sep := fun i d a h oo hs => by
    have hb : a ≠ L := fun q => n i d h oo (by rw [hs, q])
    simpa [Ct.with, hb] using s.sep i d a h oo hs
  uniq := s.uniq
  len := s.len
theorem Slots.outof (s : Slots K w (C.with L o) z A σ H) (h0 : C.H0 L = none) : Slots K w C z A σ H ∧ ∀ (i : Nat) (e : D), z[i]? = some (some e) → own e = true → σ[i]? ≠ some (some (V.ref L)) := by
  refine ⟨⟨s.val, fun i d a h oo hs => ?_, s.uniq, s.len⟩, fun i e h oo hs => ?_⟩
  · have q := s.sep i d a h oo hs
    by_cases hb : a = L
    · rw [hb]; exact ⟨by rw [← hb]; exact q.1, h0⟩
    · simpa [Ct.with, hb] using q
  · have q := (s.sep i e L h oo hs).2
    simp [Ct.with] at q
theorem Slots.wipe (s : Slots K w C z A σ H) (vs : List Nat) : Slots K w C (wipe3 z vs) A (L2.wipe σ vs) H where
  val := fun i d h => by
    obtain ⟨h1, h2⟩ := wipe3_some h
    obtain ⟨v, h3, h4⟩ := s.val i d h1
    exact ⟨v, by rw [wipe_out h2]; exact h3, h4⟩
  sep := fun i d a h oo hs => by
    obtain ⟨h1, h2⟩ := wipe3_some h
    rw [wipe_out h2] at hs
    exact s.sep i d a h1 oo hs
  uniq := fun i j d e a h1 o1 h2 o2 s1 s2 => by
    obtain ⟨g1, n1⟩ := wipe3_some h1
    obtain ⟨g2, n2⟩ := wipe3_some h2
    rw [wipe_out n1] at s1
    rw [wipe_out n2] at s2
    exact s.uniq i j d e a g1 o1 g2 o2 s1 s2
  len := by rw [wipe3_length, wipe_length]; exact s.len
/-- behind a block: the slots of the def as they were -/
theorem Slots.back {vs : List Nat} {p : Pat} {x : D} {z' : S3} {A' : AH} {σ' : L2.St} {H' : Hp} (s : Slots K w C z A σ H) (nv : ∀ i ∈ vs, ∀ d, z[i]? = some (some d) → own d = false) (hp : ∀ i ∈ p.ix, i ∈ vs) (e : setP p x (wipe3 z vs) = some z') (hw : L2.wipe σ' vs = L2.wipe σ vs)
    (s' : Slots K w C z' A' σ' H') (pe : Pers H H') : Slots K w C z A' σ H' := by
  have zz : ∀ i, i ∉ vs → z'[i]? = z[i]? := fun i hi => by rw [setP_out e (fun q => hi (hp i q)), wipe3_out hi]
  have ss : ∀ i, i ∉ vs → σ'[i]? = σ[i]? := fun i hi => by
    have := congrArg (fun l => l[i]?) hw
    simpa [wipe_out hi] using this
  have nin : ∀ (i : Nat) (d : D), z[i]? = some (some d) → own d = true → i ∉ vs := fun i d h oo hi => by
    rw [nv i hi d h] at oo; cases oo
  refine ⟨fun i d h => ?_, fun i d a h oo hs => ?_, fun i j d f a h1 o1 h2 o2 s1 s2 => ?_, s.len⟩
  · by_cases hi : i ∈ vs
    · obtain ⟨v, h1, h2⟩ := s.val i d h
      exact ⟨v, h1, .of ((h2.rp (nv i hi d h)).pers pe)⟩
    · obtain ⟨v, h1, h2⟩ := s'.val i d (by rw [zz i hi]; exact h)
      exact ⟨v, by rw [← ss i hi]; exact h1, h2⟩
  · have hi := nin i d h oo
    exact s'.sep i d a (by rw [zz i hi]; exact h) oo (by rw [ss i hi]; exact hs)
  · have hi := nin i d h1 o1
    have hj := nin j f h2 o2
    exact s'.uniq i j d f a (by rw [zz i hi]; exact h1) o1 (by rw [zz j hj]; exact h2) o2 (by rw [ss i hi]; exact s1) (by rw [ss j hj]; exact s2)
end
theorem low_lc {t : TI3} {p : Pat} {tt : TT3} {te : TE3} {vs : List Nat} (hp : ∀ i ∈ p.ix, i ∈ vs) {σ : L2.St} {H : Hp} {Q : VK} (hq : low X.K X.w C (eLc t p tt te vs) σ H Q) :
    tLc (lowI X.K X.w C t) (gPat X.K p) (fun σ H Q => ∃ C', lowT X.K X.w C' tt σ H Q) (tGo (fun σ H Q => ∃ C', low X.K X.w C' te σ H Q)) vs σ H Q := by
  obtain ⟨z, A, Q3, r, s, ⟨nv, q⟩, f⟩ := hq
  refine ⟨z, A, _, r, s, q, fun items A1 J H1 q1 r1 s1 p1 st L hL => ?_⟩
  have h0 : C.H0 L = none := r1.mono L hL
  have e1 := ext_upd (o := .lst []) hL
  have notL : ∀ (i : Nat) (e : D), z[i]? = some (some e) → own e = true → σ[i]? ≠ some (some (V.ref L)) := fun i e hi oe hs => by
    obtain ⟨v, h1, h2⟩ := s1.val i e hi
    rw [hs] at h1; cases h1
    obtain ⟨b, ob, eb, _, rb⟩ := h2.ob oe
    cases eb
    obtain ⟨_, hb, _⟩ := rb.there
    rw [hL] at hb; cases hb
  refine ⟨fun i m H2 => ∃ A2 acc accV, m = items.length - i ∧ i ≤ items.length ∧ Rel X.K X.w C A2 H2 ∧ A2 L = none ∧ Slots X.K X.w C z A2 σ H2 ∧ Pers H1 H2 ∧ H2 L = some (.lst accV) ∧ Rps X.K X.w H2 acc accV ∧ lcW p tt te (wipe3 z vs) (items.drop i) acc A2 Q3,
    ⟨items.length, A1, [], [], by simp, Nat.zero_le _, r1.ext e1, r1.afresh hL, s1.ext e1, .of_ext e1, upd_same, Rps.nil, by simpa using q1⟩, ?_⟩
  rintro i m H2 ⟨A2, acc, accV, rfl, hi, r2, hA2, s2, p2, hL2, ra, q2⟩
  by_cases hlt : i < items.length
  · refine .inr ?_
    have hd : items.drop i = items[i] :: items.drop (i + 1) := List.drop_eq_getElem_cons hlt
    rw [hd] at q2
    obtain ⟨z3, e3, q3⟩ := q2
    obtain ⟨go, yl⟩ := st.2 i items[i] H2 p2 (List.getElem?_eq_getElem hlt)
    refine ⟨go, fun H4 => ∃ A4 acc4 accV4, Rel X.K X.w C A4 H4 ∧ A4 L = none ∧ Slots X.K X.w C z A4 σ H4 ∧ Pers H1 H4 ∧ H4 L = some (.lst accV4) ∧ Rps X.K X.w H4 acc4 accV4 ∧ lcW p tt te (wipe3 z vs) (items.drop (i + 1)) acc4 A4 Q3, ?_, fun x H3 y => ?_⟩
    · rintro H4 ⟨A4, acc4, accV4, a1, a2, a3, a4, a5, a6, a7⟩
      exact ⟨items.length - (i + 1), by omega, A4, acc4, accV4, rfl, hlt, a1, a2, a3, a4, a5, a6, a7⟩
    · obtain ⟨e, rx⟩ := yl x H3 y
      have pb : Pers H1 H3 := p2.trans (.of_ext e)
      have r3 := r2.ext e
      have s3 := s2.ext e
      have hL3 : H3 L = some (.lst accV) := e _ _ hL2
      refine pat_low (z := wipe3 z vs) r3 (s3.wipe vs) rx e3 fun σ' s' hw => ?_
      have hw' : L2.wipe σ' vs = L2.wipe σ vs := by
        rw [hw vs hp]
        apply List.ext_getElem?
        intro j
        by_cases hj : j ∈ vs
        · rw [wipe_at _ _ _ hj, wipe_at _ _ _ hj, wipe_length]
        · rw [wipe_out hj, wipe_out hj]
      refine ⟨hw', C.with L (.lst accV), z3, A2, _, r3.into hL3 hA2, s'.into (fun j d hj oj hs => ?_), q3, fun b A4 H4 q4 r4 s4 p4 => ?_⟩
      · by_cases hv : j ∈ vs
        · by_cases hpx : j ∈ p.ix
          · obtain ⟨v, h1, h2⟩ := s'.val j d hj
            rw [hs] at h1; cases h1
            have q := (s'.sep j d L hj oj hs).1
            obtain ⟨b, ob, eb, _, rb⟩ := h2.ob oj
            -- an item is data: it holds nothing alone
            exact absurd oj (by
              have nd : ∀ (p : Pat) (x : D) (z z' : S3) (j : Nat) (d : D), own x = false → (∀ ds, x = .tup ds → ∀ y ∈ ds, own y = false) → setP p x z = some z' → j ∈ p.ix → z'[j]? = some (some d) → own d = false := by
                intro p x z z' j d ox ot e hj hz
                cases p with
                | nm k =>
                  simp only [setP, Option.some.injEq] at e
                  subst e
                  simp [Pat.ix] at hj
                  subst hj
                  rw [List.getElem?_set] at hz
                  split at hz
                  · split at hz
                    · cases hz; exact ox
                    · cases hz
                  · rename_i hn; exact absurd rfl hn
                | tp is =>
                  cases x with
                  | tup ds =>
                    rw [setP] at e
                    split at e
                    · rename_i hl
                      cases e
                      have go : ∀ (is : List Nat) (ds : List D) (z : S3), (∀ y ∈ ds, own y = false) → ds.length = is.length → j ∈ is → (setAll z is ds)[j]? = some (some d) → own d = false := by
                        intro is
                        induction is with
                        | nil => intro ds z _ _ h _; cases h
                        | cons k is ih =>
                          intro ds z ho hl hj hz
                          cases ds with
                          | nil => simp at hl
                          | cons y ds =>
                            unfold setAll at hz
                            by_cases hjs : j ∈ is
                            · exact ih ds _ (fun y hy => ho y (List.mem_cons_of_mem _ hy)) (by simpa using hl) hjs hz
                            · rw [setAll_out hjs] at hz
                              have : j = k := by
                                rcases List.mem_cons.mp hj with q | q
                                · exact q
                                · exact absurd q hjs
                              subst this
                              rw [List.getElem?_set] at hz
                              split at hz
                              · split at hz
                                · cases hz; exact ho _ List.mem_cons_self
                                · cases hz
                              · rename_i hn; exact absurd rfl hn
                      exact go is ds z (ot ds rfl) hl hj hz
                    · cases e
                  | _ => cases e
              have oi : own items[i] = false := rx.notOwn
              have ot : ∀ ds, items[i] = D.tup ds → ∀ y ∈ ds, own y = false := by
                intro ds ed y hy
                rw [ed, Rp] at rx
                obtain ⟨a, xs, _, _, rs⟩ := rx
                obtain ⟨k, hk⟩ := List.mem_iff_getElem?.mp hy
                obtain ⟨v, _, rv⟩ := rs.get hk
                exact rv.notOwn
              rw [nd p items[i] _ z3 j d oi ot e3 hpx hj]
              simp)
          · have hz : z3[j]? = (wipe3 z vs)[j]? := setP_out e3 hpx
            rw [hz] at hj
            exact absurd hv (wipe3_some hj).2
        · have hz : z3[j]? = z[j]? := by rw [setP_out e3 (fun q => hv (hp j q)), wipe3_out hv]
          rw [hz] at hj
          have hσ : σ'[j]? = σ[j]? := by
            have := congrArg (fun l => l[j]?) hw'
            simpa [wipe_out hv] using this
          exact notL j d hj oj (by rw [← hσ]; exact hs)
      · cases b with
        | false =>
          obtain ⟨r5, hL5, hA5⟩ := r4.outof h0
          obtain ⟨s5, _⟩ := s4.outof h0
          exact ⟨A4, acc, accV, r5, hA5, s3.back nv hp e3 hw' s5 p4, pb.trans p4, hL5, ra.pers ((Pers.of_ext e).trans p4), q4⟩
        | true =>
          refine ⟨C.with L (.lst accV), z3, A4, _, r4, s4, q4, fun d A5 v H5 q5 r5 s5 p5 t5 => ?_⟩
          have fin : ∀ (H6 : Hp), Rel X.K X.w (C.with L (.lst accV)) A5 H6 → Slots X.K X.w (C.with L (.lst accV)) z3 A5 σ' H6 → Pers H4 H6 → Rp X.K X.w H6 (frz d) v →
              ∃ acc, H6 L = some (.lst acc) ∧ acc.length < sizeLine ∧ ∃ A4 acc4 accV4, Rel X.K X.w C A4 (upd H6 L (.lst (acc ++ [v]))) ∧ A4 L = none ∧ Slots X.K X.w C z A4 σ (upd H6 L (.lst (acc ++ [v]))) ∧ Pers H1 (upd H6 L (.lst (acc ++ [v]))) ∧ (upd H6 L (.lst (acc ++ [v]))) L = some (.lst accV4) ∧
                Rps X.K X.w (upd H6 L (.lst (acc ++ [v]))) acc4 accV4 ∧ lcW p tt te (wipe3 z vs) (items.drop (i + 1)) acc4 A4 Q3 := by
            intro H6 r6 s6 p6 t6
            obtain ⟨r7, hL7, hA7⟩ := r6.outof h0
            obtain ⟨s7, n7⟩ := s6.outof h0
            have pu : Pers H6 (upd H6 L (.lst (accV ++ [v]))) := pers_upd hL7 chg_lst
            have sb := s3.back nv hp e3 hw' s7 (p4.trans p6)
            have ra6 : Rps X.K X.w H6 acc accV := ra.pers (((Pers.of_ext e).trans p4).trans p6)
            refine ⟨accV, hL7, by rw [ra.length]; exact q5.1, A5, acc ++ [frz d], accV ++ [v], r7.alone hA7 h0 hL7 chg_lst, hA7, sb.alone hL7 chg_lst notL, ((pb.trans p4).trans p6).trans pu, upd_same, ?_, q5.2⟩
            exact (ra6.pers pu).append (Rps.one (t6.pers pu))
          cases o : own d with
          | false => exact .inr (fin H5 r5 s5 p5 (by rw [frz_of o]; exact t5.val.rp o))
          | true =>
            obtain ⟨a, ob, rfl, eo, ro⟩ := t5.val.ob o
            obtain ⟨u, hu, m, c, fr⟩ := ro.frz eo
            obtain ⟨n1, n2, n3⟩ := t5.alone o a rfl
            exact .inl ⟨a, u, rfl, hu, m, fun ob' => fin _ (r5.alone n1 n2 hu c) (s5.alone hu c n3) (p5.trans (pers_upd hu c)) (fr ob')⟩
  · have e : i = items.length := by omega
    subst e
    refine .inl ⟨st.1 H2 p2, ?_⟩
    rw [List.drop_length] at q2
    refine f _ A2 _ H2 q2 r2 s2 (p1.trans p2) ⟨⟨L, rfl, accV, hL2, ra⟩, fun _ a ea => ?_⟩
    cases ea
    exact ⟨hA2, h0, notL⟩
end
end T3
set_option autoImplicit false
namespace T3
open PySem PySem.Spec PyProof.Rows L2

/-! ### comprehensions, as rules -/
section
variable {X : Cx} {C : Ct}
theorem PE.ex {e : Expr} {t : Ct → TE} (h : ∀ C, PE X e (t C)) : PE X e fun σ H Q => ∃ C, t C σ H Q := ⟨fun pins s σ H Q I ⟨C, q⟩ => (h C).run pins s σ H Q I q⟩
theorem PTs.ex {e : List Expr} {t : Ct → TT} (h : ∀ C, PTs X e (t C)) : PTs X e fun σ H Q => ∃ C, t C σ H Q := ⟨fun pins s σ H Q I ⟨C, q⟩ => (h C).run pins s σ H Q I q⟩
theorem pe3_lc {elt tg iter : Expr} {ifs : List Expr} {scope : Scope} {own : List (Str × Nat)} {pos : Pos} {t : TI3} {p : Pat} {tt : TT3} {te : TE3} (hc : X.calm = true) (hN : X.N.Nodup) (hi : PI3 X C tg iter t) (ok : BlkOk X.N X.env.scope scope own) (hp : ∀ i ∈ p.ix, i ∈ own.map (·.2))
    (hg : ∀ (s : Shared) (H : Hp) (Ca : Addr) (cl : List (Str × Addr)) (fp : List Addr), PG (X.blk s H scope (compEnvC scope cl Ca X.env) fp) tg (gPat X.K p))
    (ht : ∀ (s : Shared) (H : Hp) (Ca : Addr) (cl : List (Str × Addr)) (fp : List Addr) (C' : Ct), PTs3 (X.blk s H scope (compEnvC scope cl Ca X.env) fp) C' ifs tt)
    (he : ∀ (s : Shared) (H : Hp) (Ca : Addr) (cl : List (Str × Addr)) (fp : List Addr) (C' : Ct), PE3 (X.blk s H scope (compEnvC scope cl Ca X.env) fp) C' elt te) (hs : ∀ x, foldedSetIterable iter X.env x = pure x := by intro _; rfl) :
    PE3 X C (.ListComp elt [⟨tg, iter, ifs, 0⟩] scope pos) (eLc t p tt te (own.map (·.2))) :=
  PE.imp (pe_lc hc hN hi ok hg (fun s H Ca cl fp => PTs.ex fun C' => ht s H Ca cl fp C') (fun s H Ca cl fp => pe_go (PE.ex fun C' => he s H Ca cl fp C')) hs) fun σ H Q hq => low_lc hp hq
theorem ps3_setLc {i : Nat} {y : Str} {py : Pos} {elt tg iter : Expr} {ifs : List Expr} {scope : Scope} {own : List (Str × Nat)} {pos spos : Pos} {t : TI3} {p : Pat} {tt : TT3} {te : TE3} (hc : X.calm = true) (hN : X.N.Nodup) (hy : X.N[i]? = some y) (hyl : X.env.scope.names.lookup y = some .local)
    (hsw : swapsWith (.ListComp elt [⟨tg, iter, ifs, 0⟩] scope pos) (some (.Name y py)) spos.line X.env = pure true) (hi : PI3 X C tg iter t) (ok : BlkOk X.N X.env.scope scope own) (hp : ∀ i ∈ p.ix, i ∈ own.map (·.2))
    (hg : ∀ (s : Shared) (H : Hp) (Ca : Addr) (cl : List (Str × Addr)) (fp : List Addr), PG (X.blk s H scope (compEnvC scope cl Ca X.env) fp) tg (gPat X.K p))
    (ht : ∀ (s : Shared) (H : Hp) (Ca : Addr) (cl : List (Str × Addr)) (fp : List Addr) (C' : Ct), PTs3 (X.blk s H scope (compEnvC scope cl Ca X.env) fp) C' ifs tt)
    (he : ∀ (s : Shared) (H : Hp) (Ca : Addr) (cl : List (Str × Addr)) (fp : List Addr) (C' : Ct), PE3 (X.blk s H scope (compEnvC scope cl Ca X.env) fp) C' elt te) (hs : ∀ x, foldedSetIterable iter X.env x = pure x := by intro _; rfl) :
    PS3 X C (.Assign [.Name y py] (.ListComp elt [⟨tg, iter, ifs, 0⟩] scope pos) spos) (sSet i (eLc t p tt te (own.map (·.2)))) :=
  PS.imp (ps_setLc hc hN hy hyl hsw hi ok hg (fun s H Ca cl fp => PTs.ex fun C' => ht s H Ca cl fp C') (fun s H Ca cl fp => pe_go (PE.ex fun C' => he s H Ca cl fp C')) hs) fun D σ H hq => low_lc hp (low_set hq)
theorem ps3_setLcR {i : Nat} {y : Str} {py : Pos} {elt tg iter : Expr} {ifs : List Expr} {scope : Scope} {own : List (Str × Nat)} {pos spos : Pos} {t : TI3} {p : Pat} {tt : TT3} {te : TE3} (hc : X.calm = true) (hN : X.N.Nodup) (hy : X.N[i]? = some y) (hyl : X.env.scope.names.lookup y = some .local)
    (hsw : swapsWith (.ListComp elt [⟨tg, iter, ifs, 0⟩] scope pos) (some (.Name y py)) spos.line X.env = pure true) (hi : PI3 X C tg iter t) (ok : BlkOk X.N X.env.scope scope own) (hp : ∀ i ∈ p.ix, i ∈ own.map (·.2))
    (hg : ∀ (s : Shared) (H : Hp) (Ca : Addr) (cl : List (Str × Addr)) (fp : List Addr), PG (X.blk s H scope (compEnvC scope cl Ca X.env) fp) tg (gPat X.K p))
    (ht : ∀ (s : Shared) (H : Hp) (Ca : Addr) (cl : List (Str × Addr)) (fp : List Addr) (C' : Ct), PTs3 (X.blk s H scope (compEnvC scope cl Ca X.env) fp) C' ifs tt)
    (he : ∀ (s : Shared) (H : Hp) (Ca : Addr) (cl : List (Str × Addr)) (fp : List Addr) (C' : Ct), PE3 (X.blk s H scope (compEnvC scope cl Ca X.env) fp) C' elt te) (hs : ∀ x, foldedSetIterable iter X.env x = pure x := by intro _; rfl) :
    PS3 X C (.Assign [.Name y py] (.ListComp elt [⟨tg, iter, ifs, 0⟩] scope pos) spos) (sSetR i (eLc t p tt te (own.map (·.2)))) :=
  PS.imp (ps_setLc hc hN hy hyl hsw hi ok hg (fun s H Ca cl fp => PTs.ex fun C' => ht s H Ca cl fp C') (fun s H Ca cl fp => pe_go (PE.ex fun C' => he s H Ca cl fp C')) hs) fun D σ H hq => low_lc hp (low_setR hq)

/-! ### what is walked: a list, a tuple, a text -/
def signs (x : Str) : List D := x.cps.toList.map fun c => D.str ⟨#[c]⟩
def itemsOf : D → Option (List D)
  | .lst xs => some xs | .tup xs => some xs | .str x => some (signs x) | _ => none
def iAny (X : Cx) (tl : TE) : TI := fun σ H R => tl σ H fun x H1 => (∃ a, x = .ref a ∧ (∃ xs, SqL X.K H1 a xs) ∧ R (Itl X.K a) H1) ∨ (∃ a, x = .ref a ∧ (∃ xs, SqT X.K H1 a xs) ∧ R (Itt X.K a) H1) ∨ ∃ y, x = .str y ∧ R (Its y) H1
theorem pi_any {tg l : Expr} {tl : TE} (hl : PE X l tl) : PI X tg l (iAny X tl) := by
  refine ⟨fun pins s σ H R I h => ?_⟩
  refine thn (hl.run pins s σ H _ I h) fun v s1 ⟨x, H1, I1, r1, q1⟩ => ?_
  rcases q1 with ⟨a, e, ⟨xs, hq⟩, q⟩ | ⟨a, e, ⟨xs, hq⟩, q⟩ | ⟨y, e, q⟩
  · subst e
    cases r1
    obtain ⟨its, rv, p, hz⟩ := I1.list hq
    exact wpAny_pyIter_list p.isList (pi_one (tk := s1.toks) I1 _ (turn_list a _) ⟨_, Heap.get?_push_size _ rfl, rfl, rfl⟩ q)
  · subst e
    cases r1
    obtain ⟨its, rv, p, hz⟩ := I1.tuple hq
    exact wpAny_pyIter_tuple (show s1.heap.IsTuple a its.toArray from p) (pi_one (tk := s1.toks) I1 _ (turn_tuple a _) ⟨_, Heap.get?_push_size _ rfl, rfl, rfl⟩ q)
  · subst e
    obtain ⟨t, rfl⟩ := r1
    cases ha : y.cps.all (· < 128)
    · exact wpAny_pyIter_wide ha (pi_one (tk := s1.toks) I1 _ (turn_str _ y t "str_iterator" (.inr rfl)) ⟨_, Heap.get?_push_size _ rfl, rfl, rfl⟩ q)
    · exact wpAny_pyIter_ascii ha (pi_one (tk := s1.toks) I1 _ (turn_str _ y t "str_ascii_iterator" (.inl rfl)) ⟨_, Heap.get?_push_size _ rfl, rfl, rfl⟩ q)
def iS (t : TE3) : TI3 := fun z A Q => t z A fun d A' => ∃ items, itemsOf (frz d) = some items ∧ Q items A'
theorem steady_list {K : PySem.W.Frag} {w : World} {H : Hp} {a : Addr} {xs : List V} {ds : List D} (h : SqF K H a xs) (r : Rps K w H ds xs) : Steady K w (Itl K a) ds H :=
  ⟨fun H2 p => ⟨xs, (SqF.pers p h).sql, by rw [r.length]; exact Nat.le_refl _⟩, fun i d H2 p hi => by
    obtain ⟨v, hv, _⟩ := r.get hi
    refine ⟨⟨xs, v, (SqF.pers p h).sql, hv⟩, fun x H3 ⟨e, y⟩ => ?_⟩
    subst e
    have q := y xs (SqF.pers p h).sql
    obtain ⟨v', hv', rv'⟩ := (r.pers p).get hi
    rw [q] at hv'; cases hv'
    exact ⟨fun _ _ h => h, rv'⟩⟩
theorem steady_tup {K : PySem.W.Frag} {w : World} {H : Hp} {a : Addr} {xs : List V} {ds : List D} (h : SqT K H a xs) (r : Rps K w H ds xs) : Steady K w (Itt K a) ds H :=
  ⟨fun H2 p => ⟨xs, SqT.pers p h, by rw [r.length]; exact Nat.le_refl _⟩, fun i d H2 p hi => by
    obtain ⟨v, hv, _⟩ := r.get hi
    refine ⟨⟨xs, v, SqT.pers p h, hv⟩, fun x H3 ⟨e, y⟩ => ?_⟩
    subst e
    have q := y xs (SqT.pers p h)
    obtain ⟨v', hv', rv'⟩ := (r.pers p).get hi
    rw [q] at hv'; cases hv'
    exact ⟨fun _ _ h => h, rv'⟩⟩
theorem signs_length (x : Str) : (signs x).length = x.cps.size := by simp [signs]
theorem steady_str {K : PySem.W.Frag} {w : World} {H : Hp} (x : Str) : Steady K w (Its x) (signs x) H :=
  ⟨fun H2 p => by rw [signs_length]; exact Nat.le_refl _, fun i d H2 p hi => by
    have hl : i < x.cps.size := by
      have := (List.getElem?_eq_some_iff.mp hi).1
      rwa [signs_length] at this
    refine ⟨hl, fun v H3 ⟨e, c, hc, ev⟩ => ?_⟩
    subst e ev
    refine ⟨fun _ _ h => h, ?_⟩
    have : (signs x)[i]? = some (.str ⟨#[c]⟩) := by
      unfold signs
      rw [List.getElem?_map, Array.getElem?_toList, hc]; rfl
    rw [this] at hi
    cases hi
    rw [Rp]⟩
theorem pi3_s {tg e : Expr} {t : TE3} (h : PE3 X C e t) : PI3 X C tg e (iS t) := PI.imp (pi_any (pe_fz h)) fun σ H R hq => by
  obtain ⟨z, A, Q3, r, s, q, f⟩ := hq
  refine ⟨z, A, _, r, s, q, fun d A' v H' q' r' s' p' t' => ?_⟩
  obtain ⟨items, ei, q2⟩ := q'
  generalize frz d = fd at ei t'
  cases fd with
  | lst xs =>
    cases ei
    rw [Rp] at t'
    obtain ⟨a, vs, rfl, hs, hr⟩ := t'
    exact .inl ⟨a, rfl, ⟨vs, hs.sql⟩, f _ A' _ H' q2 r' s' p' (steady_list hs hr)⟩
  | tup xs =>
    cases ei
    rw [Rp] at t'
    obtain ⟨a, vs, rfl, hs, hr⟩ := t'
    exact .inr (.inl ⟨a, rfl, ⟨vs, hs⟩, f _ A' _ H' q2 r' s' p' (steady_tup hs hr)⟩)
  | str x =>
    cases ei
    rw [Rp] at t'
    subst t'
    exact .inr (.inr ⟨x, rfl, f _ A' _ H' q2 r' s' p' (steady_str x)⟩)
  | _ => cases ei

/-! ### ranges -/
def rng (lo : Int) (n : Nat) : List D := (List.range n).map fun (k : Nat) => D.int (lo + (k : Int))
def small62 (i : Int) : Prop := -(2 ^ 62) ≤ i ∧ i < 2 ^ 62
theorem rng_length (lo : Int) (n : Nat) : (rng lo n).length = n := by simp [rng]
theorem rng_get {lo : Int} {n i : Nat} {d : D} (h : (rng lo n)[i]? = some d) : i < n ∧ d = .int (lo + (i : Int)) := by
  have hl : i < n := by
    have := (List.getElem?_eq_some_iff.mp h).1
    rwa [rng_length] at this
  refine ⟨hl, ?_⟩
  unfold rng at h
  rw [List.getElem?_map, List.getElem?_range hl] at h
  cases h; rfl
theorem steady_range {K : PySem.W.Frag} {w : World} {H : Hp} (lo : Int) (n : Nat) : Steady K w (Itr lo n) (rng lo n) H :=
  ⟨fun H2 p => by rw [rng_length]; exact Nat.le_refl _, fun i d H2 p hi => by
    obtain ⟨hl, rfl⟩ := rng_get hi
    refine ⟨hl, fun v H3 ⟨e, ev⟩ => ?_⟩
    subst e ev
    exact ⟨fun _ _ h => h, by rw [Rp]⟩⟩
def iR1 (t : TA3) : TI3 := fun z A Q => t z A fun ds A' => ∃ j, ds = [.int j] ∧ small62 j ∧ Q (rng 0 j.toNat) A'
def iR2 (t : TA3) : TI3 := fun z A Q => t z A fun ds A' => ∃ i j, ds = [.int i, .int j] ∧ small62 i ∧ small62 j ∧ Q (rng i (j - i).toNat) A'
theorem Rps.i1 {K : PySem.W.Frag} {w : World} {H : Hp} {i : Int} {vs : List V} (h : Rps K w H [.int i] vs) : vs = [.int i] := by
  rw [Rps] at h
  obtain ⟨x, r, rfl, h1, h2⟩ := h
  rw [Rp] at h1; rw [Rps] at h2
  rw [h1, h2]
theorem Rps.i2 {K : PySem.W.Frag} {w : World} {H : Hp} {i j : Int} {vs : List V} (h : Rps K w H [.int i, .int j] vs) : vs = [.int i, .int j] := by
  rw [Rps] at h
  obtain ⟨x, r, rfl, h1, h2⟩ := h
  rw [Rp] at h1
  rw [h1, Rps.i1 h2]
theorem pi3_range1 {tg a : Expr} {t : TA3} {p pos : Pos} (hg : Gl X "range") (hm : X.mg "range" = none) (ha : PA3 X C [a] t) (hs : starEach [a] X.env = [(false, eval a X.env)] := by rfl) : PI3 X C tg (.Call (.Name "range" p) [a] [] pos) (iR1 t) :=
  PI.imp (pi_range1 hg hm ha hs) fun σ H R hq => by
    obtain ⟨z, A, Q3, r, s, q, f⟩ := hq
    refine ⟨z, A, _, r, s, q, fun ds A' vs H' q' r' s' p' t' => ?_⟩
    obtain ⟨j, rfl, ⟨h1, h2⟩, q2⟩ := q'
    exact ⟨j, t'.i1, h1, h2, f _ A' _ H' q2 r' s' p' (steady_range 0 _)⟩
theorem pi3_range2 {tg a b : Expr} {t : TA3} {p pos : Pos} (hg : Gl X "range") (hm : X.mg "range" = none) (ha : PA3 X C [a, b] t) (hs : starEach [a, b] X.env = [(false, eval a X.env), (false, eval b X.env)] := by rfl) (hs2 : starEach [b] X.env = [(false, eval b X.env)] := by rfl) :
    PI3 X C tg (.Call (.Name "range" p) [a, b] [] pos) (iR2 t) :=
  PI.imp (pi_range2 hg hm ha hs hs2) fun σ H R hq => by
    obtain ⟨z, A, Q3, r, s, q, f⟩ := hq
    refine ⟨z, A, _, r, s, q, fun ds A' vs H' q' r' s' p' t' => ?_⟩
    obtain ⟨i, j, rfl, ⟨h1, h2⟩, ⟨h3, h4⟩, q2⟩ := q'
    exact ⟨i, j, t'.i2, ⟨h1, h2, h3, h4⟩, f _ A' _ H' q2 r' s' p' (steady_range i _)⟩
/-- a range with a written step -/
def intsC (lo c : Int) (n : Nat) : List D := (List.range n).map fun (k : Nat) => D.int (lo + (k : Int) * c)
theorem steady_rangeC {K : PySem.W.Frag} {w : World} {H : Hp} (lo c : Int) (n : Nat) : Steady K w (Itc lo c n) (intsC lo c n) H :=
  ⟨fun H2 p => by show n ≤ _; simp [intsC], fun i d H2 p hi => by
    have hl : i < n := by
      have := (List.getElem?_eq_some_iff.mp hi).1
      simpa [intsC] using this
    refine ⟨hl, fun v H3 ⟨e, ev⟩ => ?_⟩
    subst e ev
    unfold intsC at hi
    rw [List.getElem?_map, List.getElem?_range hl] at hi
    cases hi
    exact ⟨fun _ _ h => h, by rw [Rp]⟩⟩
def iR3 (t : TA3) : TI3 := fun z A Q => t z A fun ds A' => ∃ i j c n, ds = [.int i, .int j, .int c] ∧ RgC i j c n ∧ Q (intsC i c n) A'
theorem pi3_range3 {tg a b c : Expr} {t : TA3} {p pos : Pos} (hg : Gl X "range") (hm : X.mg "range" = none) (ha : PA3 X C [a, b, c] t)
    (hs : starEach [a, b, c] X.env = (false, eval a X.env) :: starEach [b, c] X.env := by rfl) (hpl : (backTo pos (starEach [b, c] X.env)).any (·.1) = false := by rfl) :
    PI3 X C tg (.Call (.Name "range" p) [a, b, c] [] pos) (iR3 t) :=
  PI.imp (pi_range3 hg hm ha hs hpl) fun σ H R hq => by
    obtain ⟨z, A, Q3, r, s, q, f⟩ := hq
    refine ⟨z, A, _, r, s, q, fun ds A' vs H' q' r' s' p' t' => ?_⟩
    obtain ⟨i, j, c, n, rfl, hc, q2⟩ := q'
    have ev : vs = [.int i, .int j, .int c] := by
      rw [Rps] at t'
      obtain ⟨x, q, rfl, h1, h2⟩ := t'
      rw [Rp] at h1
      rw [h1, Rps.i2 h2]
    exact ⟨i, j, c, n, ev, hc, f _ A' _ H' q2 r' s' p' (steady_rangeC i c n)⟩

/-! ### calls of defs -/
abbrev Sp3 := List D → AH → (D → AH → Prop) → X3 → Prop
def AbsA (K : PySem.W.Frag) (w : World) (A : AH) (H : Hp) : Prop := ∀ a ob, A a = some ob → RpO K w H a ob
/-- a promise in the hand layer's words; no exception -/
def lsp (K : PySem.W.Frag) (w : World) (sp : Sp3) : Sp := fun vs H Q _ => ∃ ds A Q3, Rps K w H ds vs ∧ AbsA K w A H ∧ sp ds A Q3 (fun _ _ _ => False) ∧
  ∀ d A' v H', Q3 d A' → Rel K w ⟨H, A⟩ A' H' → RpV K w H' d v → (own d = true → ∀ a, v = V.ref a → A' a = none ∧ H a = none) → Q v H'
section
variable {K : PySem.W.Frag} {w : World} {z : S3} {A A' : AH} {σ : L2.St} {H H' : Hp} {d : D} {v : V}
/-- behind a call that was given all of A -/
theorem call_back (r : Rel K w C A H) (s : Slots K w C z A σ H) (r' : Rel K w ⟨H, A⟩ A' H') : Rel K w C A' H' ∧ Slots K w C z A' σ H' ∧ Pers H H' := by
  have notA : ∀ b o, C.H0 b = some o → C.A0 b = none → A b = none := fun b o e1 e2 => by
    cases q : A b with
    | none => rfl
    | some ob =>
      rcases r.dom b (by rw [q]; simp) with n | n
      · exact absurd e2 n
      · rw [e1] at n; cases n
  have pe : Pers H H' := by
    refine ⟨fun b xs e => r'.prot b _ e ?_, fun b o u e => r'.prot b _ e ?_⟩
    · cases q : A b with
      | none => exact q
      | some ob =>
        obtain ⟨u, hu, c⟩ := (r.heap b ob q).there
        have e' : H b = some (.tup xs) := e
        rw [e'] at hu; cases hu; exact absurd rfl (c.1 xs)
    · cases q : A b with
      | none => exact q
      | some ob =>
        obtain ⟨u', hu, c⟩ := (r.heap b ob q).there
        have e' : H b = some (.frz o u) := e
        rw [e'] at hu; cases hu; exact absurd rfl (c.2 o u)
  refine ⟨⟨r'.heap, fun b o e1 e2 => r'.prot b o (r.prot b o e1 e2) (notA b o e1 e2), fun b e => ?_, fun b e => r.mono b (r'.mono b e)⟩, ⟨fun i e hi => ?_, fun i e a hi oe hs => ?_, s.uniq, s.len⟩, pe⟩
  · rcases r'.dom b e with n | n
    · exact r.dom b n
    · exact .inr (r.mono b n)
  · obtain ⟨x, h1, h2⟩ := s.val i e hi
    refine ⟨x, h1, h2.keep pe fun oe a ea => ?_⟩
    obtain ⟨b, ob, eb, _, rb⟩ := h2.ob oe
    rw [ea] at eb; cases eb
    obtain ⟨u, hu, _⟩ := rb.there
    have hA := (s.sep i e a hi oe (by rw [h1, ea])).1
    rw [hu]
    exact r'.prot a u hu hA
  · obtain ⟨hA, h0⟩ := s.sep i e a hi oe hs
    refine ⟨?_, h0⟩
    cases q : A' a with
    | none => rfl
    | some ob =>
      rcases r'.dom a (by rw [q]; simp) with n | n
      · exact absurd hA n
      · obtain ⟨x, h1, h2⟩ := s.val i e hi
        rw [hs] at h1; cases h1
        obtain ⟨b, ob', eb, _, rb⟩ := h2.ob oe
        cases eb
        obtain ⟨u, hu, _⟩ := rb.there
        have n' : H a = none := n
        rw [n'] at hu; cases hu
theorem call_tmp (r : Rel K w C A H) (s : Slots K w C z A σ H) (rv : RpV K w H' d v) (al : own d = true → ∀ a, v = V.ref a → A' a = none ∧ H a = none) : Tmp K w C z A' σ H' d v := by
  refine ⟨rv, fun o a ea => ?_⟩
  obtain ⟨h1, h2⟩ := al o a ea
  refine ⟨h1, r.mono a h2, fun i e hi oe hs => ?_⟩
  obtain ⟨x, h3, h4⟩ := s.val i e hi
  rw [hs] at h3; cases h3
  obtain ⟨b, ob', eb, _, rb⟩ := h4.ob oe
  cases eb
  obtain ⟨u, hu, _⟩ := rb.there
  rw [h2] at hu; cases hu
end
def eCall (sp : Sp3) (dfl : List D) (t : TA3) : TE3 := fun z A Q => t z A fun ds A' => sp (ds ++ dfl) A' Q (fun _ _ _ => False)
theorem low_call {sp : Sp3} {dfl : List D} {dvs : List V} {t : TA3} (hd : ∀ H, Rps X.K X.w H dfl dvs) {E : XK} {σ : L2.St} {H : Hp} {Q : VK} (hq : low X.K X.w C (eCall sp dfl t) σ H Q) : tCall (lsp X.K X.w sp) dvs E (lowA X.K X.w C t) σ H Q := by
  obtain ⟨z, A, Q3, r, s, q, f⟩ := hq
  refine ⟨z, A, _, r, s, q, fun ds A1 vs H1 q1 r1 s1 p1 t1 => ⟨ds ++ dfl, A1, Q3, t1.append (hd H1), r1.heap, q1, fun d A2 v H2 q2 r2 rv al => ?_⟩⟩
  obtain ⟨r3, s3, p3⟩ := call_back r1 s1 r2
  exact f d A2 v H2 q2 r3 s3 (p1.trans p3) (call_tmp r1 s1 rv al)
theorem pe3_call {k : Nat} {f : Addr} {fd : FuncData} {ps : List Str} {sp : Sp3} {x : Str} {p pos : Pos} {e : Expr} {es : List Expr} {t : TA3} {ds : List Value} {dfl : List D} {dvs : List V} (F : FnOk X.prog X.w X.K X.mg X.base CX0 k f fd ps (lsp X.K X.w sp)) (hr : Room k X.A) (hg : Gl X x) (hm : X.mg x = some (.ref f)) (hk : PySem.W.keepIn X.K (.ref f) = true) (hb : Binds X.K fd ps ds) (hd : Vals dvs ds) (hd3 : ∀ H, Rps X.K X.w H dfl dvs)
    (ha : PA3 X C (e :: es) t) (hdb : (x == ("__debug__" : Str)) = false := by decide) (he : starEach (e :: es) X.env = (false, eval e X.env) :: starEach es X.env := by rfl) (hpl : (backTo pos (starEach es X.env)).any (·.1) = false := by rfl) :
    PE3 X C (.Call (.Name x p) (e :: es) [] pos) (eCall sp dfl t) := PE.imp (pe_call F hr hg hm hk hb hd pass0 ha hdb he hpl) fun _ _ _ hq => low_call hd3 hq
theorem pe3_call0 {k : Nat} {f : Addr} {fd : FuncData} {ps : List Str} {sp : Sp3} {x : Str} {p pos : Pos} (F : FnOk X.prog X.w X.K X.mg X.base CX0 k f fd ps (lsp X.K X.w sp)) (hr : Room k X.A) (hg : Gl X x) (hm : X.mg x = some (.ref f)) (hk : PySem.W.keepIn X.K (.ref f) = true) (hb : Binds X.K fd ps [])
    (hdb : (x == ("__debug__" : Str)) = false := by decide) : PE3 X C (.Call (.Name x p) [] [] pos) (eCall sp [] aNil) := PE.imp (pe_call0 F hr hg hm hk hb .nil pass0 hdb) fun σ H Q hq => by
  obtain ⟨z, A, Q3, r, s, q, f⟩ := hq
  refine ⟨[], A, Q3, Rps.nil, r.heap, q, fun d A2 v H2 q2 r2 rv al => ?_⟩
  obtain ⟨r3, s3, p3⟩ := call_back r s r2
  exact f d A2 v H2 q2 r3 s3 p3 (call_tmp r s rv al)

/-! ### a def keeps its promise -/
def start3 (N : List Str) (ds : List D) : S3 := ds.map some ++ List.replicate (N.length - ds.length) none
end
section
variable {P : Program} {w : World} {K : PySem.W.Frag} {mg : Str → Option Value} {base : Heap}
theorem slots_start {C : Ct} {A : AH} {H : Hp} {N : List Str} {ds : List D} {vs : List V} (h : Rps K w H ds vs) : Slots K w C (start3 N ds) A (L2.start N vs) H := by
  have hl := h.length
  have at_ : ∀ (i : Nat) (d : D), (start3 N ds)[i]? = some (some d) → ds[i]? = some d := fun i d e => by
    unfold start3 at e
    by_cases hi : i < ds.length
    · rw [List.getElem?_append_left (by simpa using hi), List.getElem?_map] at e
      cases q : ds[i]? with
      | none => rw [q] at e; cases e
      | some x => rw [q] at e; cases e; rfl
    · rw [List.getElem?_append_right (by simpa using hi), List.getElem?_replicate] at e
      split at e <;> cases e
  have no : ∀ (i : Nat) (d : D), (start3 N ds)[i]? = some (some d) → own d = false := fun i d e => by
    obtain ⟨v, _, rv⟩ := h.get (at_ i d e)
    exact rv.notOwn
  refine ⟨fun i d e => ?_, fun i d a e o => absurd o (by rw [no i d e]; simp), fun i j d e a h1 o1 => absurd o1 (by rw [no i d h1]; simp), ?_⟩
  · obtain ⟨v, hv, rv⟩ := h.get (at_ i d e)
    refine ⟨v, ?_, .of rv⟩
    unfold L2.start
    have hi := (List.getElem?_eq_some_iff.mp hv).1
    rw [List.getElem?_append_left (by simpa using hi), List.getElem?_map, hv]; rfl
  · unfold start3 L2.start
    simp [hl]
theorem Rel.start {A : AH} {H : Hp} (h : AbsA K w A H) : Rel K w ⟨H, A⟩ A H := ⟨h, fun _ _ e _ => e, fun _ e => .inl e, fun _ e => e⟩
/-- THE RULE for a def that lets nothing out -/
theorem fn3 {x qual : Str} {st : Stmt} {f : Addr} {fd : FuncData} {N ps : List Str} {k : Nat} {sp : Sp3} {t : TS3} (F : Fun K x qual st f fd) (S : FnScope N ps (defScope st)) (len : ∀ ds A Q E, sp ds A Q E → ds.length = ps.length)
    (hbody : ∀ (cdv : Value) (A : Around) (outer : List Env) (s : Shared) (H : Hp) (E : XK) (C : Ct), Room k (A.deeper (envOfC qual (defScope st) s.heap.objs.size f cdv)) → PSs3 (cxOf CX0 P w K mg base N qual (defScope st) f cdv A outer s H E).nox C (defBody st) t)
    (m : ∀ ds A Q, sp ds A Q (fun _ _ _ => False) → t { nx := fun _ A' => Q .non A', rt := Q } (start3 N ds) A) : FnOk P w K mg base CX0 (k + 1) f fd ps (lsp K w sp) := by
  refine F.ok S (fun vs H Q E h => ?_) fun cdv A outer s H vs Q E hr h => ?_
  · obtain ⟨ds, A, Q3, h1, _, h3, _⟩ := h
    rw [h1.length]; exact len _ _ _ _ h3
  · obtain ⟨ds, A3, Q3, h1, h2, h3, h4⟩ := h
    refine ⟨_, hbody cdv A outer s H E ⟨H, A3⟩ hr, start3 N ds, A3, _, Rel.start h2, slots_start h1, m ds A3 Q3 h3, ?_⟩
    exact ⟨fun z A' σ H' q r _ _ => h4 .non A' .non H' q r (.of (by rw [Rp])) (fun o => by simp [own] at o), fun d A' v H' q r rv al _ => h4 d A' v H' q r rv al, fun _ _ _ _ q => q.elim, fun _ _ _ _ q => q.elim⟩
end
end T3
set_option autoImplicit false
namespace T3
open PySem PySem.Spec PyProof.Rows L2

/-! ### data of the library -/
mutual
def pd : D → PyData
  | .non => .none | .bl b => .bool b | .int i => .int i | .str x => .str x | .tup xs => .tuple (pds xs) | .lst xs => .list (pds xs) | _ => .none
def pds : List D → List PyData
  | [] => []
  | x :: xs => pd x :: pds xs
end
mutual
/-- data all through -/
def pok : D → Bool
  | .non => true | .bl _ => true | .int _ => true | .str _ => true | .tup xs => poks xs | .lst xs => poks xs | _ => false
def poks : List D → Bool
  | [] => true
  | x :: xs => pok x && poks xs
end
mutual
def dep : D → Nat
  | .tup xs => deps xs + 1 | .lst xs => deps xs + 1 | _ => 0
def deps : List D → Nat
  | [] => 0
  | x :: xs => max (dep x) (deps xs)
end
mutual
theorem pd_depth : ∀ d : D, (pd d).depth = dep d
  | .non => by simp [pd, PyData.depth, dep]
  | .bl _ => by simp [pd, PyData.depth, dep]
  | .int _ => by simp [pd, PyData.depth, dep]
  | .str _ => by simp [pd, PyData.depth, dep]
  | .tup xs => by simp [pd, PyData.depth, dep, pds_depth xs]
  | .lst xs => by simp [pd, PyData.depth, dep, pds_depth xs]
  | .dct _ => by simp [pd, PyData.depth, dep]
  | .ref _ => by simp [pd, PyData.depth, dep]
  | .ml _ => by simp [pd, PyData.depth, dep]
  | .md _ => by simp [pd, PyData.depth, dep]
theorem pds_depth : ∀ ds : List D, PyData.depthAll (pds ds) = deps ds
  | [] => by simp [pds, PyData.depthAll, deps]
  | x :: xs => by simp [pds, PyData.depthAll, deps, pd_depth x, pds_depth xs]
end
mutual
theorem pd_plain : ∀ d : D, pok d = true → (pd d).plain = true
  | .non, _ => rfl
  | .bl _, _ => rfl
  | .int _, _ => rfl
  | .str _, _ => rfl
  | .tup xs, h => by rw [pd, PyData.plain]; exact pds_plain xs (by rwa [pok] at h)
  | .lst xs, h => by rw [pd, PyData.plain]; exact pds_plain xs (by rwa [pok] at h)
  | .dct _, h => by simp [pok] at h
  | .ref _, h => by simp [pok] at h
  | .ml _, h => by simp [pok] at h
  | .md _, h => by simp [pok] at h
theorem pds_plain : ∀ ds : List D, poks ds = true → PyData.plainAll (pds ds) = true
  | [], _ => rfl
  | x :: xs, h => by
    simp only [poks, Bool.and_eq_true] at h
    rw [pds, PyData.plainAll, pd_plain x h.1, pds_plain xs h.2]; rfl
end
section
variable {K : PySem.W.Frag} {w : World} {H : Hp}
mutual
theorem Rp.dp : ∀ {d : D} {v : V}, pok d = true → Rp K w H d v → Dp K H v (pd d)
  | .non, _, _, h => by rw [Rp] at h; subst h; exact .non
  | .bl b, _, _, h => by rw [Rp] at h; subst h; exact .bl b
  | .int i, _, _, h => by rw [Rp] at h; subst h; exact .int i
  | .str x, _, _, h => by rw [Rp] at h; subst h; exact .str x
  | .tup ds, _, o, h => by
    rw [Rp] at h
    obtain ⟨a, xs, rfl, s, r⟩ := h
    rw [pd]
    exact .tup s (Rps.dp (by rwa [pok] at o) r)
  | .lst ds, _, o, h => by
    rw [Rp] at h
    obtain ⟨a, xs, rfl, s, r⟩ := h
    rw [pd]
    exact .lst (SqF.sql s) (Rps.dp (by rwa [pok] at o) r)
  | .dct _, _, o, _ => by simp [pok] at o
  | .ref _, _, o, _ => by simp [pok] at o
  | .ml _, _, o, _ => by simp [pok] at o
  | .md _, _, o, _ => by simp [pok] at o
theorem Rps.dp : ∀ {ds : List D} {xs : List V}, poks ds = true → Rps K w H ds xs → DpAll K H xs (pds ds)
  | [], _, _, h => by rw [Rps] at h; subst h; exact .nil
  | d :: ds, _, o, h => by
    rw [Rps] at h
    obtain ⟨x, r, rfl, h1, h2⟩ := h
    simp only [poks, Bool.and_eq_true] at o
    rw [pds]
    exact .cons (Rp.dp o.1 h1) (Rps.dp o.2 h2)
end
end

/-! ### what stands behind a reference -/
/-- a value looked through: a list that several hold as its items now -/
def vw (A : AH) : D → D
  | .ref a => match A a with
    | some (.lst xs) => .lst xs
    | some (.dct kvs) => .dct kvs
    | _ => .ref a
  | d => d
theorem vw_of {A : AH} {d : D} (h : ∀ a, d ≠ .ref a) : vw A d = d := by cases d <;> first | rfl | exact absurd rfl (h _)
section
variable {K : PySem.W.Frag} {w : World} {C : Ct} {z : S3} {A : AH} {σ : L2.St} {H : Hp} {d : D} {v : V}
/-- a list to be read -/
theorem RpB.list (r : Rel K w C A H) (s : Slots K w C z A σ H) (h : RpB K w z σ H d v) {ds : List D} (e : vw A d = .lst ds) : ∃ a xs, v = .ref a ∧ SqL K H a xs ∧ Rps K w H ds xs := by
  rcases h with h | ⟨i, f, hi, o, rfl, hs⟩
  · cases d with
    | lst xs =>
      cases e
      rw [Rp] at h
      obtain ⟨a, xs, rfl, s, q⟩ := h
      exact ⟨a, xs, rfl, SqF.sql s, q⟩
    | ref a =>
      rw [Rp] at h
      subst h
      cases q : A a with
      | none => simp [vw, q] at e
      | some ob =>
        cases ob with
        | lst xs =>
          simp only [vw, q, D.lst.injEq] at e
          subst e
          obtain ⟨vs, h1, h2⟩ := r.heap a _ q
          exact ⟨a, vs, rfl, .of h1, h2⟩
        | dct kvs => simp [vw, q] at e
        | ins C fs => simp [vw, q] at e
    | _ => simp [vw] at e
  · obtain ⟨x, h1, h2⟩ := s.val i f hi
    rw [hs] at h1; cases h1
    cases f with
    | ml xs =>
      cases e
      obtain ⟨a, rfl, vs, h3, h4⟩ := h2
      exact ⟨a, vs, rfl, .of h3, h4⟩
    | md kvs => simp [frz, vw] at e
    | _ => simp [own] at o
theorem RpB.tup (h : RpB K w z σ H d v) {ds : List D} (e : vw A d = .tup ds) : ∃ a xs, v = .ref a ∧ SqT K H a xs ∧ Rps K w H ds xs := by
  rcases h with h | ⟨i, f, hi, o, rfl, hs⟩
  · cases d with
    | tup xs =>
      cases e
      rw [Rp] at h
      exact h
    | ref a =>
      cases q : A a with
      | none => simp [vw, q] at e
      | some ob => cases ob <;> simp [vw, q] at e
    | _ => simp [vw] at e
  · cases f <;> simp [own] at o <;> simp [frz, vw] at e
theorem RpB.flat (h : RpB K w z σ H d v) : (∀ b, d = .bl b → v = .bl b) ∧ (∀ i, d = .int i → v = .int i) ∧ (∀ x, d = .str x → v = .str x) ∧ (d = .non → v = .non) := by
  rcases h with h | ⟨i, f, hi, o, rfl, hs⟩
  · refine ⟨fun b e => ?_, fun b e => ?_, fun b e => ?_, fun e => ?_⟩ <;> (subst e; rw [Rp] at h; exact h)
  · refine ⟨fun b e => ?_, fun b e => ?_, fun b e => ?_, fun e => ?_⟩ <;> (cases f <;> simp [own] at o <;> simp [frz] at e)
theorem RpB.int {i : Int} (h : RpB K w z σ H (.int i) v) : v = .int i := h.flat.2.1 i rfl
theorem RpB.str {x : Str} (h : RpB K w z σ H (.str x) v) : v = .str x := h.flat.2.2.1 x rfl
theorem RpB.bl {b : Bool} (h : RpB K w z σ H (.bl b) v) : v = .bl b := h.flat.1 b rfl
theorem RpB.dp (r : Rel K w C A H) (s : Slots K w C z A σ H) (h : RpB K w z σ H d v) (o : pok (vw A d) = true) : Dp K H v (pd (vw A d)) := by
  cases e : vw A d with
  | lst ds =>
    obtain ⟨a, xs, rfl, h1, h2⟩ := h.list r s e
    rw [e, pok] at o
    rw [pd]
    exact .lst h1 (Rps.dp o h2)
  | tup ds =>
    obtain ⟨a, xs, rfl, h1, h2⟩ := h.tup (A := A) e
    rw [e, pok] at o
    rw [pd]
    exact .tup h1 (Rps.dp o h2)
  | dct kvs => rw [e] at o; simp [pok] at o
  | ref a => rw [e] at o; simp [pok] at o
  | ml xs => rw [e] at o; simp [pok] at o
  | md xs => rw [e] at o; simp [pok] at o
  | _ =>
    have ed : d = vw A d := by
      cases d with
      | ref a =>
        exfalso
        cases q : A a with
        | none => simp [vw, q] at e
        | some ob => cases ob <;> simp [vw, q] at e
      | _ => rfl
    rw [ed, e] at h
    rcases h with h | ⟨i, f, hi, oo, ee, hs⟩
    · exact Rp.dp (by simp [pok]) h
    · cases f <;> simp [own] at oo <;> simp [frz] at ee
end
section
variable {K : PySem.W.Frag} {w : World} {z : S3} {σ : L2.St} {H : Hp}
theorem RpBs.one {d : D} {xs : List V} (h : RpBs K w z σ H [d] xs) : ∃ v, xs = [v] ∧ RpB K w z σ H d v := by
  cases h with | cons a b => cases b; exact ⟨_, rfl, a⟩
theorem RpBs.two {d e : D} {xs : List V} (h : RpBs K w z σ H [d, e] xs) : ∃ v u, xs = [v, u] ∧ RpB K w z σ H d v ∧ RpB K w z σ H e u := by
  cases h with | cons a b => cases b with | cons c d => cases d; exact ⟨_, _, rfl, a, c⟩
end

/-! ### == and != -/
/-- a == b, for data -/
def eqD (a b : D) : Bool := PyData.eqv (pd a) (pd b)
def okEq (a b : D) : Bool := pok a && pok b && (decide (dep a ≤ 60) || decide (dep b ≤ 60))
def fEq (A : AH) (a b : D) : Option D := if okEq (vw A a) (vw A b) = true then some (.bl (eqD (vw A a) (vw A b))) else none
def fNe (A : AH) (a b : D) : Option D := if okEq (vw A a) (vw A b) = true then some (.bl (!eqD (vw A a) (vw A b))) else none
section
variable {X : Cx} {C : Ct}
def rEqP (K : PySem.W.Frag) : R2 := fun x y H Q => ∃ d e, Dp K H x d ∧ Dp K H y e ∧ d.plain = true ∧ e.plain = true ∧ min d.depth e.depth ≤ 60 ∧ Q (.bl (PyData.eqv d e)) H
def rNeP (K : PySem.W.Frag) : R2 := fun x y H Q => ∃ d e, Dp K H x d ∧ Dp K H y e ∧ d.plain = true ∧ e.plain = true ∧ min d.depth e.depth ≤ 60 ∧ Q (.bl (!PyData.eqv d e)) H
theorem op_eqP (hu : X.A.units + 64 < cLine) : OpR X (compareOp .Eq) (rEqP X.K) := by
  intro pins s σ H x y v u Q I rx ry h
  obtain ⟨d, e, hd, he, sd, se, hm, q⟩ := h
  obtain ⟨as, r1⟩ := Dp.reads I d x v hd rx
  obtain ⟨bs, r2⟩ := Dp.reads I e y u he ry
  exact SeqAt.rcAt_plain r1 r2 sd se (by omega) _ _ _ _ ⟨.bl _, H, I, rfl, q⟩
theorem op_neP (hu : X.A.units + 64 < cLine) : OpR X (compareOp .NotEq) (rNeP X.K) := by
  intro pins s σ H x y v u Q I rx ry h
  obtain ⟨d, e, hd, he, sd, se, hm, q⟩ := h
  obtain ⟨as, r1⟩ := Dp.reads I d x v hd rx
  obtain ⟨bs, r2⟩ := Dp.reads I e y u he ry
  exact SeqAt.rcNe_plain r1 r2 sd se (by omega) _ _ _ _ ⟨.bl _, H, I, rfl, q⟩
theorem okEq_min {a b : D} (h : okEq a b = true) : pok a = true ∧ pok b = true ∧ min (pd a).depth (pd b).depth ≤ 60 := by
  simp only [okEq, Bool.and_eq_true, Bool.or_eq_true, decide_eq_true_eq] at h
  obtain ⟨⟨h1, h2⟩, h3⟩ := h
  rw [pd_depth, pd_depth]
  exact ⟨h1, h2, by omega⟩
theorem o_eq : Op2 X C (rEqP X.K) fEq := fun z A σ H d1 d2 d x y Q r s h1 h2 e q => by
  unfold fEq at e
  split at e
  · rename_i ho
    cases e
    obtain ⟨o1, o2, hm⟩ := okEq_min ho
    exact ⟨_, _, h1.dp r s o1, h2.dp r s o2, pd_plain _ o1, pd_plain _ o2, hm, q _ H (.same (by rw [Rp]; rfl))⟩
  · cases e
theorem o_ne : Op2 X C (rNeP X.K) fNe := fun z A σ H d1 d2 d x y Q r s h1 h2 e q => by
  unfold fNe at e
  split at e
  · rename_i ho
    cases e
    obtain ⟨o1, o2, hm⟩ := okEq_min ho
    exact ⟨_, _, h1.dp r s o1, h2.dp r s o2, pd_plain _ o1, pd_plain _ o2, hm, q _ H (.same (by rw [Rp]; rfl))⟩
  · cases e
end

/-! ### the order -/
def ltD (a b : D) : Bool := PySem.W.dataLt (pd a) (pd b)
def okLt (a b : D) : Bool := pok a && pok b && PySem.W.alike (pd a) (pd b) && (match a with | .non => false | _ => true) && (decide (dep a ≤ 60) || decide (dep b ≤ 60))
def fLt (_ : AH) (a b : D) : Option D := if okLt a b = true then some (.bl (ltD a b)) else none
def fGt (_ : AH) (a b : D) : Option D := if okLt a b = true then some (.bl (ltD b a)) else none
def fLe (_ : AH) (a b : D) : Option D := if okLt a b = true then some (.bl (!ltD b a)) else none
def fGe (_ : AH) (a b : D) : Option D := if okLt a b = true then some (.bl (!ltD a b)) else none
section
variable {X : Cx} {C : Ct}
def rOrd (K : PySem.W.Frag) (g : PyData → PyData → Bool) : R2 := fun x y H Q => ∃ d e, Dp K H x d ∧ Dp K H y e ∧ PySem.W.alike d e = true ∧ d ≠ .none ∧ min d.depth e.depth ≤ 60 ∧ Q (.bl (g d e)) H
theorem op_ltP (hu : X.A.units + 64 < cLine) : OpR X (compareOp .Lt) (rOrd X.K fun d e => PySem.W.dataLt d e) := by
  intro pins s σ H x y v u Q I rx ry h
  obtain ⟨d, e, hd, he, sd, se, hm, q⟩ := h
  obtain ⟨as, r1⟩ := Dp.reads I d x v hd rx
  obtain ⟨bs, r2⟩ := Dp.reads I e y u he ry
  exact PySem.W.lt_data r1 r2 sd se (by omega) ⟨.bl _, H, I, rfl, q⟩
theorem op_gtP (hu : X.A.units + 64 < cLine) : OpR X (compareOp .Gt) (rOrd X.K fun d e => PySem.W.dataLt e d) := by
  intro pins s σ H x y v u Q I rx ry h
  obtain ⟨d, e, hd, he, sd, se, hm, q⟩ := h
  obtain ⟨as, r1⟩ := Dp.reads I d x v hd rx
  obtain ⟨bs, r2⟩ := Dp.reads I e y u he ry
  exact PySem.W.gt_data r1 r2 sd se (by omega) ⟨.bl _, H, I, rfl, q⟩
theorem op_leP (hu : X.A.units + 64 < cLine) : OpR X (compareOp .LtE) (rOrd X.K fun d e => !PySem.W.dataLt e d) := by
  intro pins s σ H x y v u Q I rx ry h
  obtain ⟨d, e, hd, he, sd, se, hm, q⟩ := h
  obtain ⟨as, r1⟩ := Dp.reads I d x v hd rx
  obtain ⟨bs, r2⟩ := Dp.reads I e y u he ry
  exact PySem.W.le_data r1 r2 sd se (by omega) ⟨.bl _, H, I, rfl, q⟩
theorem op_geP (hu : X.A.units + 64 < cLine) : OpR X (compareOp .GtE) (rOrd X.K fun d e => !PySem.W.dataLt d e) := by
  intro pins s σ H x y v u Q I rx ry h
  obtain ⟨d, e, hd, he, sd, se, hm, q⟩ := h
  obtain ⟨as, r1⟩ := Dp.reads I d x v hd rx
  obtain ⟨bs, r2⟩ := Dp.reads I e y u he ry
  exact PySem.W.ge_data r1 r2 sd se (by omega) ⟨.bl _, H, I, rfl, q⟩
theorem okLt_min {a b : D} (h : okLt a b = true) : pok a = true ∧ pok b = true ∧ PySem.W.alike (pd a) (pd b) = true ∧ pd a ≠ .none ∧ min (pd a).depth (pd b).depth ≤ 60 := by
  simp only [okLt, Bool.and_eq_true, Bool.or_eq_true, decide_eq_true_eq] at h
  obtain ⟨⟨⟨⟨h1, h2⟩, h3⟩, h4⟩, h5⟩ := h
  rw [pd_depth, pd_depth]
  refine ⟨h1, h2, h3, ?_, by omega⟩
  cases a <;> simp [pd] <;> simp [pok] at h1 <;> simp at h4
theorem vw_pok {A : AH} {a : D} (h : pok a = true) : vw A a = a := by cases a <;> first | rfl | simp [pok] at h
theorem o_ord {g : PyData → PyData → Bool} {f : AH → D → D → Option D} (hf : ∀ A a b, f A a b = if okLt a b = true then some (.bl (g (pd a) (pd b))) else none) : Op2 X C (rOrd X.K g) f := fun z A σ H d1 d2 d x y Q r s h1 h2 e q => by
  rw [hf] at e
  split at e
  · rename_i ho
    cases e
    obtain ⟨o1, o2, ha, hn, hm⟩ := okLt_min ho
    have q1 := h1.dp r s (by rw [vw_pok o1]; exact o1)
    have q2 := h2.dp r s (by rw [vw_pok o2]; exact o2)
    rw [vw_pok o1] at q1
    rw [vw_pok o2] at q2
    exact ⟨_, _, q1, q2, ha, hn, hm, q _ H (.same (by rw [Rp]))⟩
  · cases e
theorem o_lt : Op2 X C (rOrd X.K fun d e => PySem.W.dataLt d e) fLt := o_ord fun _ _ _ => rfl
theorem o_gt : Op2 X C (rOrd X.K fun d e => PySem.W.dataLt e d) fGt := o_ord fun _ _ _ => rfl
theorem o_le : Op2 X C (rOrd X.K fun d e => !PySem.W.dataLt e d) fLe := o_ord fun _ _ _ => rfl
theorem o_ge : Op2 X C (rOrd X.K fun d e => !PySem.W.dataLt d e) fGe := o_ord fun _ _ _ => rfl
end

/-! ### is None -/
def fIsN (_ : AH) (a b : D) : Option D := match b with
  | .non => some (.bl (decide (a = .non)))
  | _ => none
def fNotN (_ : AH) (a b : D) : Option D := match b with
  | .non => some (.bl (!decide (a = .non)))
  | _ => none
section
variable {X : Cx} {C : Ct}
theorem RpB.isNon {K : PySem.W.Frag} {w : World} {z : S3} {σ : L2.St} {H : Hp} {d : D} {v : V} {C : Ct} {A : AH} (s : Slots K w C z A σ H) (h : RpB K w z σ H d v) : decide (v = .non) = decide (d = .non) := by
  rcases h with h | ⟨i, f, hi, o, rfl, hs⟩
  · cases d with
    | non => rw [Rp] at h; subst h; rfl
    | bl b => rw [Rp] at h; subst h; rfl
    | int b => rw [Rp] at h; subst h; rfl
    | str b => rw [Rp] at h; subst h; rfl
    | ref b => rw [Rp] at h; subst h; rfl
    | tup b => rw [Rp] at h; obtain ⟨a, xs, rfl, _⟩ := h; rfl
    | lst b => rw [Rp] at h; obtain ⟨a, xs, rfl, _⟩ := h; rfl
    | dct b => rw [Rp] at h; obtain ⟨a, xs, rfl, _⟩ := h; rfl
    | ml b => rw [Rp] at h; exact h.elim
    | md b => rw [Rp] at h; exact h.elim
  · obtain ⟨x, h1, h2⟩ := s.val i f hi
    rw [hs] at h1; cases h1
    obtain ⟨a, ob, rfl, _, _⟩ := h2.ob o
    cases f <;> simp [own] at o <;> rfl
theorem o_isN : Op2 X C (fun x y H Q => y = .non ∧ Q (.bl (decide (x = .non))) H) fIsN := fun z A σ H d1 d2 d x y Q r s h1 h2 e q => by
  cases d2 <;> simp [fIsN] at e
  subst e
  refine ⟨h2.flat.2.2.2 rfl, ?_⟩
  rw [h1.isNon s]
  exact q _ H (.same (by rw [Rp]))
theorem o_notN : Op2 X C (fun x y H Q => y = .non ∧ Q (.bl (!decide (x = .non))) H) fNotN := fun z A σ H d1 d2 d x y Q r s h1 h2 e q => by
  cases d2 <;> simp [fNotN] at e
  subst e
  refine ⟨h2.flat.2.2.2 rfl, ?_⟩
  rw [h1.isNon s]
  exact q _ H (.same (by rw [Rp]))
end

/-! ### numbers -/
def big64 (i : Int) : Bool := decide (-(2 ^ 64) < i) && decide (i < 2 ^ 64)
def fSub (_ : AH) : D → D → Option D
  | .int i, .int j => some (.int (i - j))
  | _, _ => none
def fFdiv (_ : AH) : D → D → Option D
  | .int i, .int j => if 0 < j ∧ j < 2 ^ 64 then some (.int (i / j)) else none
  | _, _ => none
def fMod (_ : AH) : D → D → Option D
  | .int i, .int j => if 0 < j then some (.int (i % j)) else none
  | _, _ => none
def fPow (_ : AH) : D → D → Option D
  | .int i, .int j => if 0 ≤ j ∧ j ≤ 1000 ∧ i.natAbs < 2 ^ 64 then some (.int (i ^ j.toNat)) else none
  | _, _ => none
def fShl (_ : AH) : D → D → Option D
  | .int i, .int j => if 0 ≤ j ∧ j ≤ 1000 ∧ i.natAbs < 2 ^ 64 then some (.int (i * 2 ^ j.toNat)) else none
  | _, _ => none
def fNeg (_ : AH) : D → Option D
  | .int i => some (.int (-i))
  | _ => none
section
variable {X : Cx} {C : Ct}
theorem o_int {Cn : Int → Int → Prop} {g : Int → Int → Int} {f : AH → D → D → Option D} (hf : ∀ A a b d, f A a b = some d → ∃ i j, a = .int i ∧ b = .int j ∧ Cn i j ∧ d = .int (g i j)) : Op2 X C (rI Cn fun i j => .int (g i j)) f := fun z A σ H d1 d2 d x y Q r s h1 h2 e q => by
  obtain ⟨i, j, rfl, rfl, hc, rfl⟩ := hf A d1 d2 d e
  exact ⟨i, j, h1.int, h2.int, hc, q _ H (.same (by rw [Rp]))⟩
theorem o_sub : Op2 X C (rI0 fun i j => .int (i - j)) fSub := fun z A σ H d1 d2 d x y Q r s h1 h2 e q => by
  cases d1 <;> simp [fSub] at e
  cases d2 <;> simp [fSub] at e
  subst e
  exact ⟨_, _, h1.int, h2.int, q _ H (.same (by rw [Rp]))⟩
theorem o_fdiv : Op2 X C (rI CDivW fun i j => .int (i / j)) fFdiv := o_int fun A a b d e => by
  cases a <;> simp [fFdiv] at e
  cases b <;> simp [fFdiv] at e
  rename_i i j
  obtain ⟨⟨h1, h2⟩, rfl⟩ := e
  refine ⟨i, j, rfl, rfl, ⟨h1, ?_⟩, rfl⟩
  have : j.natAbs < 2 ^ 64 := by omega
  exact Nat.lt_of_lt_of_le (PySem.Flt.log2_lt_of (by decide) this) (by decide)
theorem o_mod : Op2 X C (rI (fun _ j => 0 < j) fun i j => .int (i % j)) fMod := o_int fun A a b d e => by
  cases a <;> simp [fMod] at e
  cases b <;> simp [fMod] at e
  rename_i i j
  obtain ⟨h1, rfl⟩ := e
  exact ⟨i, j, rfl, rfl, h1, rfl⟩
theorem o_pow : Op2 X C (rI CPow fun i j => .int (i ^ j.toNat)) fPow := o_int fun A a b d e => by
  cases a <;> simp [fPow] at e
  cases b <;> simp [fPow] at e
  rename_i i j
  obtain ⟨⟨h1, h2, h3⟩, rfl⟩ := e
  exact ⟨i, j, rfl, rfl, ⟨h1, by omega, by omega⟩, rfl⟩
theorem o_shl : Op2 X C (rI CPow fun i j => .int (i * 2 ^ j.toNat)) fShl := o_int fun A a b d e => by
  cases a <;> simp [fShl] at e
  cases b <;> simp [fShl] at e
  rename_i i j
  obtain ⟨⟨h1, h2, h3⟩, rfl⟩ := e
  exact ⟨i, j, rfl, rfl, ⟨h1, by omega, by omega⟩, rfl⟩
theorem o_neg : Op1 X C (rU fun i => .int (-i)) fNeg := fun z A σ H d1 d x Q r s h1 e q => by
  cases d1 <;> simp [fNeg] at e
  subst e
  exact ⟨_, h1.int, q _ H (.same (by rw [Rp]))⟩
end
end T3
set_option autoImplicit false
namespace T3
open PySem PySem.Spec PyProof.Rows L2

/-! ### rules by values that the hand layer has for tracked lists alone -/
section
variable {X : Cx}
def rCatL (K : PySem.W.Frag) : R2 := fun x y H Q => ∃ l b xs zs, x = .ref l ∧ y = .ref b ∧ SqL K H l xs ∧ SqL K H b zs ∧ xs.length + zs.length ≤ sizeLine ∧ ∀ p, H p = none → Q (.ref p) (upd H p (.lst (xs ++ zs)))
theorem op_catL : OpR X (binaryOp .Add) (rCatL X.K) := by
  intro pins s σ H x y v u Q I rx ry h
  obtain ⟨l, b, xs, zs, rfl, rfl, hH, hB, hz, q⟩ := h
  cases rx
  cases ry
  obtain ⟨its, r, ⟨⟨c1, d1, t1, s1⟩, n, e, ec, ed, et⟩, hl⟩ := I.list hH
  obtain ⟨its2, r2, ⟨⟨c2, d2, t2, s2⟩, n2, e2, ec2, ed2, et2⟩, hl2⟩ := I.list hB
  simp only at ec ed et ec2 ed2 et2
  subst ec ed et ec2 ed2 et2
  have l1 := r.length
  have l2 := r2.length
  refine concat_meets ⟨_, e, rfl⟩ ⟨_, e2, rfl⟩ noFill_list_add seq_list_add PySem.F.slot_list_add PySem.F.entry_list_add (PySem.F.args_list_add_2 _ _) (list_addW l b its.toArray its2.toArray n n2 none none s1 s2 (by rw [List.size_toArray, List.size_toArray]; omega)) ⟨e, e2, ?_⟩
  have ea : its.toArray ++ its2.toArray = (its ++ its2).toArray := by simp
  rw [ea]
  exact ⟨.ref _, _, I.lnew (t' := s.toks) (r.append r2) (by rw [List.length_append]; omega), rfl, q _ I.fresh⟩
def rExtendR (K : PySem.W.Frag) : V → List V → Hp → VK → Prop := fun x vs H Q => ∃ l b xs zs, x = .ref l ∧ vs = [.ref b] ∧ H l = some (.lst xs) ∧ SqL K H b zs ∧ xs.length + zs.length ≤ sizeLine ∧ Q .non (upd H l (.lst (xs ++ zs)))
section
open PySem.AutoSeq1
theorem list_extendG (l : Addr) (items : Array Value) (n : Nat) (b : Addr) (items2 : Array Value) (n2 : Nat) (dd : Option Addr) (sl : Array (Option Value)) (hc0 : ¬(!items.isEmpty && Builtin.List.listTooLong (items.size + items2.size)) = true) (hc1 : items.size ≤ sizeLine) (hs2 : items.size + items2.size ≤ sizeLine + 1) :
    Meets (Builtin.«list.extend» ⟨[.ref l, .ref b], []⟩) (fun _ R s => s.heap.get? l = some { cls := .type "list", dict := none, data := .seq items n, slots := #[] } ∧ s.heap.get? b = some { cls := .type "list", dict := dd, data := .seq items2 n2, slots := sl } ∧ R (.ok (.ret Value.none)) { s with heap := s.heap.update l (Obj.mapSeq fun x => x ++ items2), toks := s.toks }) :=
  .of_wp fun prog w A R s h => by
    obtain ⟨hp, g, d, tk, os⟩ := s; obtain ⟨hl, hb, h⟩ := h; have f1 := AutoSeq1.idx_int; have f2 := AutoSeq1.sub_tuple_tuple; have f3 := AutoSeq1.sub_list_list; have f4 := AutoSeq1.sub_tuple_list; have f5 := AutoSeq1.sub_list_tuple;
    have hz' : (items ++ items2).size ≤ sizeLine + 1 := by rw [Array.size_append]; exact hs2
    wp_walk using (wpAny_updateSeq hl rfl (hz := hc1) (_hz' := hz')), wpAny_loadPart' hl, wpAny_loadPart' hb; exact ⟨_, rfl, h⟩
end
theorem mt_extendR : MtM X "list.extend" (rExtendR X.K) := by
  intro pins s σ H x vs v us Q I rx rv h
  obtain ⟨l, b, xs, zs, rfl, rfl, hH, hB, hz, q⟩ := h
  cases rx
  obtain ⟨u, rfl, ru⟩ := rv.one
  cases ru
  obtain ⟨z, its, n, r, hl, e⟩ := I.lstM hH
  obtain ⟨its2, r2, ⟨⟨c2, d2, t2, s2⟩, n2, e2, ec2, ed2, et2⟩, hz2⟩ := I.list hB
  simp only at ec2 ed2 et2
  subst ec2 ed2 et2
  have hl2 := r2.length
  have hsz : its.toArray.size + its2.toArray.size ≤ sizeLine := by rw [List.size_toArray, List.size_toArray]; omega
  have hlong : ¬ (!its.toArray.isEmpty && Builtin.List.listTooLong (its.toArray.size + its2.toArray.size)) = true := by
    rw [notLongL hsz, Bool.and_false]
    exact Bool.false_ne_true
  refine call_meets F.slot_list_extend ⟨_, e, rfl⟩ F.entry_list_extend (F.args_list_extend_2 _ _)
    (list_extendG l its.toArray n b its2.toArray n2 none s2 hlong (by rw [List.size_toArray]; omega) (by omega)) ⟨e, e2, ?_⟩
  refine ⟨.non, _, I.lset (its' := its ++ its2) hH e (by simp) (r.append r2) ?_, rfl, q⟩
  rw [List.length_append]
  omega
/-- a text times a number -/
def repS (x : Str) (k : Int) : Str := ⟨(List.replicate k.toNat x.cps).foldl (· ++ ·) #[]⟩
def rRepS : R2 := fun x y H Q => ∃ z k, x = .str z ∧ y = .int k ∧ k < 2 ^ 40 ∧ -(2 ^ 40) < k ∧ z.length * k.toNat ≤ 100000 ∧ Q (.str (repS z k)) H
theorem op_repS : OpR X (binaryOp .Mult) rRepS := by
  intro pins s σ H x y v u Q I rx ry h
  obtain ⟨z, k, rfl, rfl, h1, h2, h3, q⟩ := h
  obtain ⟨t, rfl⟩ := rx
  obtain ⟨t', rfl⟩ := ry
  refine PySem.P.mul_str (by rw [decide_eq_false (by omega), decide_eq_false (by omega)]; rfl) (fun hk _ => ?_) (fun hk _ => ?_) ?_
  · have hk' : 1 ≤ k := by omega
    have e1 : (z.length : Int) * k ≤ 100000 := by
      have : ((z.length * k.toNat : Nat) : Int) ≤ 100000 := by omega
      rw [Int.natCast_mul, Int.toNat_of_nonneg (by omega)] at this
      exact this
    intro hc
    have e2 : (2 ^ 63 - 1) / k * k ≤ 2 ^ 63 - 1 := Int.ediv_mul_le _ (by omega)
    have e3 : ((2 ^ 63 - 1) / k + 1) * k ≤ (z.length : Int) * k := Int.mul_le_mul_of_nonneg_right (by omega) (by omega)
    have e4 : 2 ^ 63 - 1 < ((2 ^ 63 - 1) / k + 1) * k := by
      have := Int.emod_lt_of_pos (2 ^ 63 - 1) (show 0 < k by omega)
      have e5 := Int.emod_add_mul_ediv (2 ^ 63 - 1) k
      rw [Int.add_mul, Int.one_mul, Int.mul_comm]
      omega
    omega
  · have hs := sizeLine_eq
    unfold Builtin.Str.tooLong
    first
      | exact decide_eq_false (by omega)
      | (simp; omega)
  · by_cases hk : k < 1
    · rw [if_pos hk]
      have e : repS z k = Str.empty := by
        have : k.toNat = 0 := by omega
        unfold repS; rw [this]; rfl
      rw [e] at q
      exact ⟨by decide, .str _, H, I.tok _, ⟨_, rfl⟩, q⟩
    · rw [if_neg hk]
      by_cases hc : (k == 1 || z.length == 0) = true
      · rw [if_pos hc]
        have e : repS z k = z := by
          rw [Bool.or_eq_true] at hc
          rcases hc with hc | hc
          · have : k.toNat = 1 := by have := eq_of_beq hc; omega
            unfold repS; rw [this]
            simp
          · have hz0 : z.cps = #[] := Array.eq_empty_of_size_eq_zero (by have := eq_of_beq hc; exact this)
            unfold repS
            have : ∀ n : Nat, (List.replicate n z.cps).foldl (· ++ ·) #[] = #[] := by
              intro n
              induction n with
              | zero => rfl
              | succ n ih => rw [List.replicate_succ, List.foldl_cons]; rw [hz0] at ih ⊢; exact ih
            rw [this]
            cases z; simp only at hz0; rw [hz0]
        rw [e] at q
        exact ⟨.str z, H, I, ⟨t, rfl⟩, q⟩
      · rw [if_neg hc]
        refine ⟨?_, .str _, H, I.tok _, ⟨_, rfl⟩, q⟩
        show ((List.replicate k.toNat z.cps).foldl (· ++ ·) #[]).size ≤ sizeLine
        have : ∀ (n : Nat) (acc : Array Nat), ((List.replicate n z.cps).foldl (· ++ ·) acc).size = acc.size + z.cps.size * n := by
          intro n
          induction n with
          | zero => intro acc; simp
          | succ n ih => intro acc; rw [List.replicate_succ, List.foldl_cons, ih, Array.size_append, Nat.mul_succ]; omega
        rw [this]
        have hs := sizeLine_eq
        have hz : z.length = z.cps.size := rfl
        rw [hz] at h3
        simp only [Array.size_empty]
        omega
end

/-! ### + -/
def lim (n : Nat) : Bool := decide (n ≤ sizeLine)
def fAdd (A : AH) (a b : D) : Option D := match vw A a, vw A b with
  | .int i, .int j => some (.int (i + j))
  | .str x, .str y => if lim (x.length + y.length) then some (.str (x ++ y)) else none
  | .lst xs, .lst ys => if lim (xs.length + ys.length) then some (.ml (xs ++ ys)) else none
  | .tup xs, .tup ys => if lim (xs.length + ys.length) then some (.tup (xs ++ ys)) else none
  | _, _ => none
section
variable {X : Cx} {C : Ct}
theorem vw_int {A : AH} {a : D} {i : Int} (h : vw A a = .int i) : a = .int i := by
  cases a with
  | ref a => cases q : A a with
    | none => simp [vw, q] at h
    | some ob => cases ob <;> simp [vw, q] at h
  | _ => first | exact h | simp [vw] at h
theorem vw_str {A : AH} {a : D} {i : Str} (h : vw A a = .str i) : a = .str i := by
  cases a with
  | ref a => cases q : A a with
    | none => simp [vw, q] at h
    | some ob => cases ob <;> simp [vw, q] at h
  | _ => first | exact h | simp [vw] at h
abbrev rAddA (K : PySem.W.Frag) : R2 := fun x y H Q => (rI0 (fun i j => V.int (i + j)) x y H Q ∨ ∃ i j, x = .str i ∧ y = .str j ∧ i.length + j.length ≤ sizeLine ∧ Q (.str (i ++ j)) H) ∨ (rCatL K x y H Q ∨ rCatA K x y H Q)
theorem op_addA : OpR X (binaryOp .Add) (rAddA X.K) := (OpR.or op_add op_add_str).or (op_catL.or op_catA)
theorem o_add : Op2 X C (rAddA X.K) fAdd := fun z A σ H d1 d2 d x y Q r s h1 h2 e q => by
  unfold fAdd at e
  split at e
  · rename_i i j e1 e2
    cases e
    rw [vw_int e1] at h1
    rw [vw_int e2] at h2
    exact .inl (.inl ⟨i, j, h1.int, h2.int, q _ H (.same (by rw [Rp]))⟩)
  · rename_i i j e1 e2
    split at e
    · rename_i hl
      cases e
      rw [vw_str e1] at h1
      rw [vw_str e2] at h2
      exact .inl (.inr ⟨i, j, h1.str, h2.str, of_decide_eq_true hl, q _ H (.same (by rw [Rp]))⟩)
    · cases e
  · rename_i xs ys e1 e2
    split at e
    · rename_i hl
      cases e
      obtain ⟨a, vs, rfl, q1, r1⟩ := h1.list r s e1
      obtain ⟨b, ws, rfl, q2, r2⟩ := h2.list r s e2
      refine .inr (.inl ⟨a, b, vs, ws, rfl, rfl, q1, q2, by rw [r1.length, r2.length]; exact of_decide_eq_true hl, fun p hp => q _ _ (.lst hp (r1.append r2))⟩)
    · cases e
  · rename_i xs ys e1 e2
    split at e
    · rename_i hl
      cases e
      obtain ⟨a, vs, rfl, q1, r1⟩ := h1.tup (A := A) e1
      obtain ⟨b, ws, rfl, q2, r2⟩ := h2.tup (A := A) e2
      have l1 := r1.length
      have l2 := r2.length
      refine .inr (.inr ⟨a, b, vs, ws, rfl, rfl, q1, q2, by rw [l1, l2]; exact of_decide_eq_true hl, fun hx => ?_, fun hx hy => ?_, fun hx hy p hp => q _ _ (.tup hp (r1.append r2))⟩)
      · subst hx
        have : xs = [] := List.eq_nil_of_length_eq_zero (by simpa using l1.symm)
        subst this
        exact q _ H (.same (by rw [Rp]; exact ⟨b, ws, rfl, q2, r2⟩))
      · subst hy
        have : ys = [] := List.eq_nil_of_length_eq_zero (by simpa using l2.symm)
        subst this
        exact q _ H (.same (by rw [List.append_nil, Rp]; exact ⟨a, vs, rfl, q1, r1⟩))
    · cases e
  · cases e
end
/-! ### * -/
def fMul (_ : AH) : D → D → Option D
  | .int i, .int j => if big64 i || big64 j then some (.int (i * j)) else none
  | .str x, .int k => if decide (-(2 ^ 40) < k) && decide (k < 2 ^ 40) && decide (x.length * k.toNat ≤ 100000) then some (.str (repS x k)) else none
  | _, _ => none
section
variable {X : Cx} {C : Ct}
abbrev rMulA : R2 := fun x y H Q => rI CMul (fun i j => .int (i * j)) x y H Q ∨ rRepS x y H Q
theorem op_mulA : OpR X (binaryOp .Mult) rMulA := op_mul.or op_repS
theorem o_mul : Op2 X C rMulA fMul := fun z A σ H d1 d2 d x y Q r s h1 h2 e q => by
  unfold fMul at e
  split at e
  · rename_i i j
    split at e
    · rename_i hc
      cases e
      refine .inl ⟨i, j, h1.int, h2.int, ?_, q _ H (.same (by rw [Rp]))⟩
      simp only [big64, Bool.or_eq_true, Bool.and_eq_true, decide_eq_true_eq] at hc
      exact hc
    · cases e
  · rename_i x' k
    split at e
    · rename_i hc
      cases e
      simp only [Bool.and_eq_true, decide_eq_true_eq] at hc
      exact .inr ⟨x', k, h1.str, h2.int, hc.1.2, hc.1.1, hc.2, q _ H (.same (by rw [Rp]))⟩
    · cases e
  · cases e
end

/-! ### x[i] of what stands in a row -/
def fIx (A : AH) (a b : D) : Option D := match vw A a, b with
  | .lst xs, .int i => atI xs i
  | .tup xs, .int i => atI xs i
  | .str x, .int i => if lim x.length then (atI x.cps.toList i).map fun c => .str ⟨#[c]⟩ else none
  | _, _ => none
section
variable {X : Cx} {C : Ct}
theorem Rps.atI {K : PySem.W.Frag} {w : World} {H : Hp} {ds : List D} {vs : List V} {i : Int} {d : D} (r : Rps K w H ds vs) (h : L2.atI ds i = some d) : ∃ v, L2.atI vs i = some v ∧ Rp K w H d v := by
  unfold L2.atI at h ⊢
  rw [r.length]
  cases e : ixN ds.length i with
  | none => rw [e] at h; cases h
  | some j =>
    rw [e] at h
    exact r.get (show ds[j]? = some d from h)
theorem o_ix : Op2 X C (rIx X.K) fIx := fun z A σ H d1 d2 d x y Q r s h1 h2 e q => by
  unfold fIx at e
  split at e
  · rename_i xs i e1
    obtain ⟨a, vs, rfl, q1, r1⟩ := h1.list r s e1
    obtain ⟨v, hv, rv⟩ := Rps.atI r1 e
    exact .inl ⟨a, vs, i, v, rfl, h2.int, q1, hv, q _ H (.same rv)⟩
  · rename_i xs i e1
    obtain ⟨a, vs, rfl, q1, r1⟩ := h1.tup (A := A) e1
    obtain ⟨v, hv, rv⟩ := Rps.atI r1 e
    exact .inr (.inl ⟨a, vs, i, v, rfl, h2.int, q1, hv, q _ H (.same rv)⟩)
  · rename_i x' i e1
    split at e
    · rename_i hl
      rw [vw_str e1] at h1
      cases hc : L2.atI x'.cps.toList i with
      | none => rw [hc] at e; cases e
      | some c =>
        rw [hc] at e; cases e
        exact .inr (.inr ⟨x', i, c, h1.str, h2.int, of_decide_eq_true hl, hc, q _ H (.same (by rw [Rp]))⟩)
    · cases e
  · cases e
end

/-! ### x[a:b] -/
def cutD (xs : List D) (lo hi : Option Int) : List D := (xs.drop (HT.sIx xs.length 0 lo)).take (HT.sIx xs.length xs.length hi - HT.sIx xs.length 0 lo)
def fSl (A : AH) (a : D) (lo hi : Option Int) : Option D := match vw A a with
  | .lst xs => some (.ml (cutD xs lo hi))
  | .tup xs => some (.tup (cutD xs lo hi))
  | .str x => if lim x.length then some (.str (cutS x lo hi)) else none
  | _ => none
abbrev TO3 := S3 → AH → (Option Int → AH → Prop) → Prop
def lowO (K : PySem.W.Frag) (w : World) (C : Ct) (t : TO3) : TO := fun σ H Q => ∃ z A Q3, Rel K w C A H ∧ Slots K w C z A σ H ∧ t z A Q3 ∧
  ∀ o A' H', Q3 o A' → Rel K w C A' H' → Slots K w C z A' σ H' → Pers H H' → Q o H'
abbrev PO3 (X : Cx) (C : Ct) (e : Option Expr) (t : TO3) : Prop := PO X e (lowO X.K X.w C t)
def oNo : TO3 := fun _ A Q => Q none A
def oAt (t : TE3) : TO3 := fun z A Q => t z A fun d A' => ∃ i, d = .int i ∧ Q (some i) A'
def eSl (te : TE3) (tl th : TO3) : TE3 := fun z A Q => te z A fun d A1 => tl z A1 fun lo A2 => th z A2 fun hi A3 => ∃ r, fSl A3 d lo hi = some r ∧ Q r A3
section
variable {X : Cx} {C : Ct}
theorem PO.imp {e : Option Expr} {t t' : TO} (h : PO X e t) (i : ∀ σ H Q, t' σ H Q → t σ H Q) : PO X e t' := ⟨fun pins s σ H Q I q => h.run pins s σ H Q I (i σ H Q q)⟩
theorem po3_none : PO3 X C none oNo := PO.imp po_none fun σ H Q hq => by
  obtain ⟨z, A, Q3, r, s, q, f⟩ := hq
  exact f none A H q r s (.refl H)
theorem po3_some {e : Expr} {t : TE3} (h : PE3 X C e t) : PO3 X C (some e) (oAt t) := PO.imp (po_some h) fun σ H Q hq => by
  obtain ⟨z, A, Q3, r, s, q, f⟩ := hq
  refine ⟨z, A, _, r, s, q, fun d A' v H' q' r' s' p' t' => ?_⟩
  obtain ⟨i, rfl, q2⟩ := q'
  exact ⟨i, by have := t'.val; exact this, f _ A' H' q2 r' s' p'⟩
theorem Rps.cut {K : PySem.W.Frag} {w : World} {H : Hp} {ds : List D} {vs : List V} (r : Rps K w H ds vs) (lo hi : Option Int) : Rps K w H (cutD ds lo hi) (cutV vs lo hi) := by
  unfold cutD cutV
  rw [r.length]
  exact (r.drop _).take _
abbrev rSlAll (K : PySem.W.Frag) : V → Option Int → Option Int → Hp → VK → Prop := fun x lo hi H Q => rSlL K x lo hi H Q ∨ (rSlA K x lo hi H Q ∨ rSlS x lo hi H Q)
theorem pe3_slice {e : Expr} {lo hi : Option Expr} {te : TE3} {tl th : TO3} {p2 pos : Pos} (he : PB3 X C e te) (hl : PO3 X C lo tl) (hu : PO3 X C hi th) : PE3 X C (.Subscript e (.Slice lo hi none p2) pos) (eSl te tl th) :=
  PE.imp (pe_slice (sl_list.or (sl_tupA.or sl_str)) he hl hu) fun σ H Q hq => by
    obtain ⟨z, A, Q3, r, s, q, f⟩ := hq
    refine ⟨z, A, _, r, s, q, fun d A1 v H1 q1 r1 s1 p1 t1 => ⟨z, A1, _, r1, s1, q1, fun o A2 H2 q2 r2 s2 p2 => ⟨z, A2, _, r2, s2, q2, fun o' A3 H3 q3 r3 s3 p3 => ?_⟩⟩⟩
    obtain ⟨res, he, q4⟩ := q3
    have hb := (t1.later p2).later p3
    have pp := (p1.trans p2).trans p3
    have fin : ∀ v H', Gv X.K X.w H3 H' res v → Q v H' := fun v H' g => low.gv r3 s3 f pp q4 g
    unfold fSl at he
    split at he
    · rename_i xs e1
      cases he
      obtain ⟨a, vs, rfl, h1, hr⟩ := hb.list r3 s3 e1
      exact .inl ⟨a, vs, rfl, h1, fun p hp => fin _ _ (.lst hp (hr.cut _ _))⟩
    · rename_i xs e1
      cases he
      obtain ⟨a, vs, rfl, h1, hr⟩ := hb.tup (A := A3) e1
      refine .inr (.inl ⟨a, vs, rfl, h1, fun hw => ?_, fun _ p hp => fin _ _ (.tup hp (hr.cut _ _))⟩)
      refine fin _ _ (.same ?_)
      have e : cutD xs o o' = xs := by
        unfold cutD
        rw [hr.length] at hw
        rw [hw.1, hw.2]; simp
      rw [e, Rp]
      exact ⟨a, vs, rfl, h1, hr⟩
    · rename_i x e1
      split at he
      · rename_i hl
        cases he
        rw [vw_str e1] at hb
        exact .inr (.inr ⟨x, hb.str, of_decide_eq_true hl, fin _ _ (.same (by rw [Rp]))⟩)
      · cases he
    · cases he
end

/-! ### in -/
def oneSign (x : Str) : Option Nat := match x.cps.toList with
  | [c] => some c | _ => none
/-- x in c: rows of data; a text of one sign in a text -/
def fIn (A : AH) (a b : D) : Option Bool := match vw A b with
  | .lst ys => if pok (vw A a) && poks ys && (decide (deps ys ≤ 60) || decide (dep (vw A a) ≤ 60)) then some (ys.any fun y => eqD y (vw A a)) else none
  | .tup ys => if pok (vw A a) && poks ys && (decide (deps ys ≤ 60) || decide (dep (vw A a) ≤ 60)) then some (ys.any fun y => eqD y (vw A a)) else none
  | .str y => match a with
    | .str x => (oneSign x).map fun c => decide (c ∈ y.cps.toList)
    | _ => none
  | _ => none
section
variable {X : Cx} {C : Ct}
def rInD2 (K : PySem.W.Frag) (g : Bool → Bool) : R2 := fun x y H Q => ∃ (d : PyData) (es : List PyData), Dp K H x d ∧ (Dp K H y (.list es) ∨ Dp K H y (.tuple es)) ∧ d.plain = true ∧ PyData.plainAll es = true ∧ min (PyData.depthAll es) d.depth ≤ 60 ∧ Q (.bl (g (es.any fun y => PyData.eqv y d))) H
theorem op_inD2 (hu : X.A.units + 64 < cLine) : OpR X (compareOp .In) (rInD2 X.K id) := by
  intro pins s σ H x y v u Q I rx ry h
  obtain ⟨d, es, hd, he, sd, se, hm, q⟩ := h
  obtain ⟨as, r1⟩ := Dp.reads I d x v hd rx
  rcases he with he | he
  · obtain ⟨bs, r2⟩ := Dp.reads I (.list es) y u he ry
    exact SeqAt.in_list_data r2 r1 se sd (by omega) ⟨.bl _, H, I, rfl, q⟩
  · obtain ⟨bs, r2⟩ := Dp.reads I (.tuple es) y u he ry
    exact SeqAt.in_tuple_data r2 r1 se sd (by omega) ⟨.bl _, H, I, rfl, q⟩
theorem op_notInD2 (hu : X.A.units + 64 < cLine) : OpR X (compareOp .NotIn) (rInD2 X.K not) := by
  intro pins s σ H x y v u Q I rx ry h
  obtain ⟨d, es, hd, he, sd, se, hm, q⟩ := h
  obtain ⟨as, r1⟩ := Dp.reads I d x v hd rx
  rcases he with he | he
  · obtain ⟨bs, r2⟩ := Dp.reads I (.list es) y u he ry
    exact SeqAt.notIn_list_data r2 r1 se sd (by omega) ⟨.bl _, H, I, rfl, q⟩
  · obtain ⟨bs, r2⟩ := Dp.reads I (.tuple es) y u he ry
    exact SeqAt.notIn_tuple_data r2 r1 se sd (by omega) ⟨.bl _, H, I, rfl, q⟩
theorem any_pds (d : D) : ∀ ys : List D, (pds ys).any (fun y => PyData.eqv y (pd d)) = ys.any fun y => eqD y d
  | [] => by simp [pds]
  | y :: ys => by simp [pds, any_pds d ys, eqD]
abbrev rInAll (K : PySem.W.Frag) (g : Bool → Bool) : R2 := fun x y H Q => rInD2 K g x y H Q ∨ ∃ (c : Nat) (z : Str), x = .str ⟨#[c]⟩ ∧ y = .str z ∧ Q (.bl (g (decide (c ∈ z.cps.toList)))) H
theorem op_inAll (hu : X.A.units + 64 < cLine) : OpR X (compareOp .In) (rInAll X.K id) := (op_inD2 hu).or op_in_sign
theorem op_notInAll (hu : X.A.units + 64 < cLine) : OpR X (compareOp .NotIn) (rInAll X.K not) := (op_notInD2 hu).or op_notIn_sign
def fInB (g : Bool → Bool) (A : AH) (a b : D) : Option D := (fIn A a b).map fun k => .bl (g k)
theorem o_inAll (g : Bool → Bool) : Op2 X C (rInAll X.K g) (fInB g) := fun z A σ H d1 d2 d x y Q r s h1 h2 e q => by
  unfold fInB at e
  cases hb : fIn A d1 d2 with
  | none => rw [hb] at e; cases e
  | some b =>
    rw [hb] at e; cases e
    unfold fIn at hb
    split at hb
    · rename_i ys e2
      split at hb
      · rename_i hc
        cases hb
        simp only [Bool.and_eq_true, Bool.or_eq_true, decide_eq_true_eq] at hc
        obtain ⟨⟨c1, c2⟩, c3⟩ := hc
        have q2 := h2.dp r s (by rw [e2, pok]; exact c2)
        rw [e2, pd] at q2
        refine .inl ⟨pd (vw A d1), pds ys, h1.dp r s c1, .inl q2, pd_plain _ c1, pds_plain _ c2, by rw [pd_depth, pds_depth]; omega, ?_⟩
        rw [any_pds]
        exact q _ H (.same (by rw [Rp]))
      · cases hb
    · rename_i ys e2
      split at hb
      · rename_i hc
        cases hb
        simp only [Bool.and_eq_true, Bool.or_eq_true, decide_eq_true_eq] at hc
        obtain ⟨⟨c1, c2⟩, c3⟩ := hc
        have q2 := h2.dp r s (by rw [e2, pok]; exact c2)
        rw [e2, pd] at q2
        refine .inl ⟨pd (vw A d1), pds ys, h1.dp r s c1, .inr q2, pd_plain _ c1, pds_plain _ c2, by rw [pd_depth, pds_depth]; omega, ?_⟩
        rw [any_pds]
        exact q _ H (.same (by rw [Rp]))
      · cases hb
    · rename_i y' e2
      split at hb
      · rename_i x'
        rw [vw_str e2] at h2
        cases ho : oneSign x' with
        | none => rw [ho] at hb; cases hb
        | some c =>
          rw [ho] at hb; cases hb
          have ex : x' = ⟨#[c]⟩ := by
            unfold oneSign at ho
            split at ho
            · rename_i c' hc
              cases ho
              cases x' with
              | mk cps => simp only at hc; rw [show cps = #[c] from by apply Array.toList_inj.mp; rw [hc]]
            · cases ho
          subst ex
          exact .inr ⟨c, y', h1.str, h2.str, q _ H (.same (by rw [Rp]))⟩
      · cases hb
    · cases hb
end

/-! ### len, list(), tuple(), all, any, ord -/
def fLen (A : AH) : List D → Option D
  | [a] => match vw A a with
    | .lst xs => some (.int xs.length)
    | .tup xs => some (.int xs.length)
    | .str x => if lim x.length then some (.int x.length) else none
    | _ => none
  | _ => none
def fList (A : AH) : List D → Option D
  | [a] => match vw A a with
    | .lst xs => some (.ml xs)
    | .tup xs => some (.ml xs)
    | _ => none
  | _ => none
def fTuple (A : AH) : List D → Option D
  | [a] => match vw A a with
    | .lst xs => some (.tup xs)
    | .tup xs => some (.tup xs)
    | _ => none
  | _ => none
def bls : List D → Option (List Bool)
  | [] => some []
  | .bl b :: xs => (bls xs).map (b :: ·)
  | _ :: _ => none
def fAll (A : AH) : List D → Option D
  | [a] => match vw A a with
    | .lst xs => (bls xs).map fun bs => .bl (bs.all id)
    | _ => none
  | _ => none
def fAny (A : AH) : List D → Option D
  | [a] => match vw A a with
    | .lst xs => (bls xs).map fun bs => .bl (bs.any id)
    | _ => none
  | _ => none
def fOrd (_ : AH) : List D → Option D
  | [.str x] => if x.length = 1 then some (.int (x.cps.getD 0 0 : Nat)) else none
  | _ => none
def fMax2 (_ : AH) : List D → Option D
  | [.int i, .int j] => some (.int (if j > i then j else i))
  | _ => none
def fMin2 (_ : AH) : List D → Option D
  | [.int i, .int j] => some (.int (if j < i then j else i))
  | _ => none
section
variable {X : Cx} {C : Ct}
abbrev rLenA (K : PySem.W.Frag) : List V → Hp → VK → Prop := fun xs H Q => (∃ p ys, xs = [.ref p] ∧ (SqL K H p ys ∨ SqT K H p ys) ∧ Q (.int ys.length) H) ∨ ∃ z, xs = [.str z] ∧ z.length ≤ sizeLine ∧ Q (.int z.length) H
theorem call_lenA : CallR X (.builtin "len") (rLenA X.K) := CallR.or call_len_seq call_len_str
theorem o_len : OpN X C (rLenA X.K) fLen := fun z A σ H ds d xs Q r s h e q => by
  unfold fLen at e
  split at e
  · obtain ⟨v, rfl, hb⟩ := h.one
    split at e
    · rename_i ys e1
      cases e
      obtain ⟨a, vs, rfl, h1, hr⟩ := hb.list r s e1
      refine .inl ⟨a, vs, rfl, .inl h1, ?_⟩
      rw [hr.length]
      exact q _ H (.same (by rw [Rp]))
    · rename_i ys e1
      cases e
      obtain ⟨a, vs, rfl, h1, hr⟩ := hb.tup (A := A) e1
      refine .inl ⟨a, vs, rfl, .inr h1, ?_⟩
      rw [hr.length]
      exact q _ H (.same (by rw [Rp]))
    · rename_i x e1
      split at e
      · rename_i hl
        cases e
        rw [vw_str e1] at hb
        exact .inr ⟨x, by rw [hb.str], of_decide_eq_true hl, q _ H (.same (by rw [Rp]))⟩
      · cases e
    · cases e
  · cases e
theorem o_list : OpN X C (fun xs H Q => ∃ p ys, xs = [.ref p] ∧ (SqL X.K H p ys ∨ SqT X.K H p ys) ∧ ∀ l, H l = none → Q (.ref l) (upd H l (.lst ys))) fList := fun z A σ H ds d xs Q r s h e q => by
  unfold fList at e
  split at e
  · obtain ⟨v, rfl, hb⟩ := h.one
    split at e
    · rename_i ys e1
      cases e
      obtain ⟨a, vs, rfl, h1, hr⟩ := hb.list r s e1
      exact ⟨a, vs, rfl, .inl h1, fun l hl => q _ _ (.lst hl hr)⟩
    · rename_i ys e1
      cases e
      obtain ⟨a, vs, rfl, h1, hr⟩ := hb.tup (A := A) e1
      exact ⟨a, vs, rfl, .inr h1, fun l hl => q _ _ (.lst hl hr)⟩
    · cases e
  · cases e
theorem o_tuple : OpN X C (fun xs H Q => ∃ p ys, xs = [.ref p] ∧ ((SqL X.K H p ys ∧ ∀ l, H l = none → Q (.ref l) (upd H l (.tup ys))) ∨ (SqT X.K H p ys ∧ Q (.ref p) H))) fTuple := fun z A σ H ds d xs Q r s h e q => by
  unfold fTuple at e
  split at e
  · obtain ⟨v, rfl, hb⟩ := h.one
    split at e
    · rename_i ys e1
      cases e
      obtain ⟨a, vs, rfl, h1, hr⟩ := hb.list r s e1
      exact ⟨a, vs, rfl, .inl ⟨h1, fun l hl => q _ _ (.tup hl hr)⟩⟩
    · rename_i ys e1
      cases e
      obtain ⟨a, vs, rfl, h1, hr⟩ := hb.tup (A := A) e1
      exact ⟨a, vs, rfl, .inr ⟨h1, q _ H (.same (by rw [Rp]; exact ⟨a, vs, rfl, h1, hr⟩))⟩⟩
    · cases e
  · cases e
theorem bls_vals {K : PySem.W.Frag} {w : World} {H : Hp} : ∀ {ds : List D} {bs : List Bool} {vs : List V}, bls ds = some bs → Rps K w H ds vs → vs = bs.map V.bl
  | [], bs, vs, e, r => by cases e; rw [Rps] at r; exact r
  | .bl b :: ds, bs, vs, e, r => by
    rw [bls] at e
    cases h : bls ds with
    | none => rw [h] at e; cases e
    | some cs =>
      rw [h] at e; cases e
      rw [Rps] at r
      obtain ⟨x, q, rfl, h1, h2⟩ := r
      rw [Rp] at h1
      rw [h1, bls_vals h h2]; rfl
  | .non :: _, _, _, e, _ => by cases e
  | .int _ :: _, _, _, e, _ => by cases e
  | .str _ :: _, _, _, e, _ => by cases e
  | .tup _ :: _, _, _, e, _ => by cases e
  | .lst _ :: _, _, _, e, _ => by cases e
  | .dct _ :: _, _, _, e, _ => by cases e
  | .ref _ :: _, _, _, e, _ => by cases e
  | .ml _ :: _, _, _, e, _ => by cases e
  | .md _ :: _, _, _, e, _ => by cases e
theorem o_all : OpN X C (rAll X.K) fAll := fun z A σ H ds d xs Q r s h e q => by
  unfold fAll at e
  split at e
  · obtain ⟨v, rfl, hb⟩ := h.one
    split at e
    · rename_i ys e1
      obtain ⟨a, vs, rfl, h1, hr⟩ := hb.list r s e1
      cases hc : bls ys with
      | none => rw [hc] at e; cases e
      | some bs =>
        rw [hc] at e; cases e
        rw [bls_vals hc hr] at h1
        exact ⟨a, bs, rfl, h1, q _ H (.same (by rw [Rp]))⟩
    · cases e
  · cases e
theorem o_any : OpN X C (rAny X.K) fAny := fun z A σ H ds d xs Q r s h e q => by
  unfold fAny at e
  split at e
  · obtain ⟨v, rfl, hb⟩ := h.one
    split at e
    · rename_i ys e1
      obtain ⟨a, vs, rfl, h1, hr⟩ := hb.list r s e1
      cases hc : bls ys with
      | none => rw [hc] at e; cases e
      | some bs =>
        rw [hc] at e; cases e
        rw [bls_vals hc hr] at h1
        exact ⟨a, bs, rfl, h1, q _ H (.same (by rw [Rp]))⟩
    · cases e
  · cases e
theorem o_ordN : OpN X C (fun xs H Q => ∃ x, xs = [.str x] ∧ x.length = 1 ∧ Q (.int (x.cps.getD 0 0 : Nat)) H) fOrd := fun z A σ H ds d xs Q r s h e q => by
  unfold fOrd at e
  split at e
  · obtain ⟨v, rfl, hb⟩ := h.one
    split at e
    · rename_i hl
      cases e
      exact ⟨_, by rw [hb.str], hl, q _ H (.same (by rw [Rp]))⟩
    · cases e
  · cases e
theorem o_max2 : OpN X C (fun xs H Q => ∃ i j, xs = [.int i, .int j] ∧ Q (.int (if j > i then j else i)) H) fMax2 := fun z A σ H ds d xs Q r s h e q => by
  unfold fMax2 at e
  split at e
  · cases e
    obtain ⟨v, u, rfl, h1, h2⟩ := h.two
    exact ⟨_, _, by rw [h1.int, h2.int], q _ H (.same (by rw [Rp]))⟩
  · cases e
theorem o_min2 : OpN X C (fun xs H Q => ∃ i j, xs = [.int i, .int j] ∧ Q (.int (if j < i then j else i)) H) fMin2 := fun z A σ H ds d xs Q r s h e q => by
  unfold fMin2 at e
  split at e
  · cases e
    obtain ⟨v, u, rfl, h1, h2⟩ := h.two
    exact ⟨_, _, by rw [h1.int, h2.int], q _ H (.same (by rw [Rp]))⟩
  · cases e
end

/-! ### isinstance(x, T) -/
def tyD (A : AH) : D → Option String
  | .non => some "NoneType" | .bl _ => some "bool" | .int _ => some "int" | .str _ => some "str" | .tup _ => some "tuple" | .lst _ => some "list"
  | .ref a => match A a with
    | some (.lst _) => some "list"
    | _ => none
  | _ => none
def isT (t T : String) : Bool := t == T || (t == "bool" && T == "int")
theorem kit_ok : ∀ t ∈ ["NoneType", "bool", "int", "str", "tuple", "list"], ∀ T ∈ ["bool", "int", "str", "tuple", "list"], kitB t T = some (isT t T) := by decide +kernel
def fIsi (T : String) (A : AH) (a : D) : Option D := (tyD A a).map fun t => .bl (isT t T)
def fIsiL (Ts : List String) (A : AH) (a : D) : Option D := (tyD A a).map fun t => .bl (Ts.any (isT t))
section
variable {X : Cx} {C : Ct}
theorem tyD_mem {A : AH} {d : D} {t : String} (h : tyD A d = some t) : t ∈ ["NoneType", "bool", "int", "str", "tuple", "list"] := by
  cases d with
  | ref a =>
    unfold tyD at h
    simp only at h
    split at h <;> cases h
    simp
  | _ => first | (cases h; simp) | cases h
theorem tyD_ok {K : PySem.W.Frag} {w : World} {z : S3} {A : AH} {σ : L2.St} {H : Hp} {d : D} {v : V} {t : String} (r : Rel K w C A H) (s : Slots K w C z A σ H) (h : RpB K w z σ H d v) (e : tyD A d = some t) : TyX K H v (.type t) := by
  have lst : ∀ {a : Addr} {xs : List V}, SqL K H a xs → TyX K H (.ref a) (.type "list") := fun {a xs} q => by
    rcases q with (q | ⟨o, q⟩) | ⟨o, its, n, h1, h2, _⟩
    · exact .base (.lst q)
    · exact .base (.frz q)
    · exact .kList h1 h2
  have tup : ∀ {a : Addr} {xs : List V}, SqT K H a xs → TyX K H (.ref a) (.type "tuple") := fun {a xs} q => by
    rcases q with (q | ⟨o, q⟩) | ⟨o, its, n, h1, h2, _⟩
    · exact .base (.tup q)
    · exact .fTuple q
    · exact .kTuple h1 h2
  rcases h with h | ⟨i, f, hi, o, rfl, hs⟩
  · cases d with
    | non => cases e; rw [Rp] at h; subst h; exact .base .non
    | bl b => cases e; rw [Rp] at h; subst h; exact .base (.bl b)
    | int b => cases e; rw [Rp] at h; subst h; exact .base (.int b)
    | str b => cases e; rw [Rp] at h; subst h; exact .base (.str b)
    | tup ds => cases e; rw [Rp] at h; obtain ⟨a, xs, rfl, q, _⟩ := h; exact tup q
    | lst ds => cases e; rw [Rp] at h; obtain ⟨a, xs, rfl, q, _⟩ := h; exact lst (SqF.sql q)
    | ref a =>
      rw [Rp] at h; subst h
      unfold tyD at e
      simp only at e
      split at e
      · rename_i xs ea
        cases e
        obtain ⟨vs, h1, _⟩ := r.heap a _ ea
        exact lst (.of h1)
      · cases e
    | _ => cases e
  · obtain ⟨x, h1, h2⟩ := s.val i f hi
    rw [hs] at h1; cases h1
    cases f with
    | ml xs =>
      cases e
      obtain ⟨a, rfl, vs, h3, _⟩ := h2
      exact lst (.of h3)
    | md kvs => cases e
    | _ => simp [own] at o
theorem pe3_isi {T : Str} {n : String} {p pos p2 : Pos} {e : Expr} {t : TE3} (hg : Gl X "isinstance") (hm : X.mg "isinstance" = none) (hgT : Gl X T) (hmT : X.mg T = none) (hvT : bootBuiltins T = some (.type n)) (hn : n ∈ ["bool", "int", "str", "tuple", "list"]) (he : PB3 X C e t)
    (hnT : T ≠ "__name__" := by decide) (hdT : (T == ("__debug__" : Str)) = false := by decide)
    (hv : bootBuiltins "isinstance" = some (.builtin "isinstance") := by decide +kernel)
    (hs : starEach [e, .Name T p2] X.env = (false, eval e X.env) :: starEach [.Name T p2] X.env := by rfl) (hs2 : starEach [.Name T p2] X.env = (false, eval (.Name T p2) X.env) :: starEach [] X.env := by rfl) (hpl : (backTo pos (starEach [.Name T p2] X.env)).any (·.1) = false := by rfl) :
    PE3 X C (.Call (.Name "isinstance" p) [e, .Name T p2] [] pos) (e1 (fIsi n) t) :=
  PE.imp (pe_callB call_isi hg hm hv (pa_cons he (pa_cons (pe_bltn (v := .ty n) hgT hmT hvT rfl hnT hdT) pa_nil hs2) hs) (by decide) (by decide) hs hpl) fun σ H Q hq => by
    obtain ⟨z, A, Q3, r, s, q, f⟩ := hq
    refine ⟨z, A, _, r, s, q, fun d A1 v H1 q1 r1 s1 p1 t1 => ?_⟩
    obtain ⟨d', hd, q3⟩ := q1
    unfold fIsi at hd
    cases ht : tyD A1 d with
    | none => rw [ht] at hd; cases hd
    | some t' =>
      rw [ht] at hd; cases hd
      show rIsi X.K [v, .ty n] H1 Q
      exact ⟨v, .ty n, .type t', .type n, _, rfl, .ty n, tyD_ok r1 s1 t1 ht, kit_ty (kit_ok t' (tyD_mem ht) n hn), low.gv r1 s1 f p1 q3 (.same (by rw [Rp]))⟩
end
end T3
set_option autoImplicit false
namespace T3
open PySem PySem.Spec PyProof.Rows L2

section
variable {X : Cx} {C : Ct}
/-! ### a < b < c -/
theorem pe3_chain {op op' : CmpOp} {r r' : R2} {f g : AH → D → D → Option D} {a b c : Expr} {ta tb tc : TE3} {pos : Pos} (ho : OpR X (compareOp op) r) (ho' : OpR X (compareOp op') r') (h : Op2 X C r f) (h' : Op2 X C r' g) (ha : PB3 X C a ta) (hb : PB3 X C b tb) (hc : PB3 X C c tc)
    (hm : lastMarks [op, op'] [b, c] = false := by with_unfolding_all rfl) : PE3 X C (.Compare a [op, op'] [b, c] pos) (e3 f g ta tb tc) := PE.imp (pe_chain ho ho' ha hb hc hm) fun _ _ _ hq => low_chain h h' hq
theorem lowTV {t : TE3} {σ : L2.St} {H : Hp} {Q : Bool → Hp → Prop} (hq : lowT X.K X.w C (tV t) σ H Q) : low X.K X.w C t σ H fun x H' => ∃ k, x = .bl k ∧ Q k H' := by
  obtain ⟨z, A, Q3, r, s, q, f⟩ := hq
  refine ⟨z, A, _, r, s, q, fun d A' v H' q' r' s' p' t' => ?_⟩
  obtain ⟨b, rfl, q2⟩ := q'
  exact ⟨b, by have := t'.val; exact this, f b A' H' q2 r' s' p'⟩
theorem pt3_chain {op op' : CmpOp} {r r' : R2} {f g : AH → D → D → Option D} {a b c : Expr} {ta tb tc : TE3} {pos : Pos} (ho : OpR X (compareOp op) r) (ho' : OpR X (compareOp op') r') (h : Op2 X C r f) (h' : Op2 X C r' g) (ha : PB3 X C a ta) (hb : PB3 X C b tb) (hc : PB3 X C c tc)
    (hm : lastMarks [op, op'] [b, c] = false := by with_unfolding_all rfl) : PT3 X C (.Compare a [op, op'] [b, c] pos) (tV (e3 f g ta tb tc)) := PT.imp (pt_chain ho ho' ha hb hc hm) fun _ _ _ hq => low_chain h h' (lowTV hq)
/-- names of the module that hold numbers and texts -/
theorem pe3_gi {x : Str} {i : Int} {t : Tok} {pos : Pos} (hg : Gl X x) (hm : X.mg x = some (.int i t)) (hd : (x == ("__debug__" : Str)) = false := by decide) : PE3 X C (.Name x pos) (eC (.int i)) := pe3_c (pe_glob hg hm (v := .int i) ⟨t, rfl⟩ hd) fun _ => by rw [Rp]
theorem pe3_gs {x y : Str} {t : Tok} {pos : Pos} (hg : Gl X x) (hm : X.mg x = some (.str y t)) (hd : (x == ("__debug__" : Str)) = false := by decide) : PE3 X C (.Name x pos) (eC (.str y)) := pe3_c (pe_glob hg hm (v := .str y) ⟨t, rfl⟩ hd) fun _ => by rw [Rp]
end

/-! ### methods of texts -/
def okS (_ : AH) (d : D) : Bool := match d with
  | .str _ => true | _ => false
section
variable {X : Cx} {C : Ct}
theorem tyOk_str (x : Str) (H : Hp) : TyOk X "str" (.str x) H := fun pins σ s v I r => by
  obtain ⟨t, rfl⟩ := r
  exact ⟨typeIs_str s x t, fun _ e => nomatch e⟩
theorem mtn_str {r : V → List V → Hp → VK → Prop} {f : AH → D → List D → Option D}
    (act : ∀ (z : S3) (A : AH) (σ : L2.St) (H : Hp) (a : Str) (ds : List D) (d : D) (xs : List V) (Q : VK), Rel X.K X.w C A H → Slots X.K X.w C z A σ H → RpBs X.K X.w z σ H ds xs → f A (.str a) ds = some d → (∀ v H', Gv X.K X.w H H' d v → Q v H') → r (.str a) xs H Q)
    (hf : ∀ A d ds r, f A d ds = some r → okS A d = true) : MtN X C "str" r okS f where
  ty := fun z A σ H d x _ _ h o => by
    cases d <;> simp [okS] at o
    rw [h.str]; exact tyOk_str _ _
  act := fun z A σ H d0 ds d x xs Q r s h0 hs e q => by
    have o := hf _ _ _ _ e
    cases d0 <;> simp [okS] at o
    rw [h0.str]
    exact act z A σ H _ ds d xs Q r s hs e q
def fFind (_ : AH) : D → List D → Option D
  | .str a, [.str b] => some (.int (Txt.find a b))
  | _, _ => none
def fStarts (_ : AH) : D → List D → Option D
  | .str a, [.str b] => some (.bl (Txt.startswith a b))
  | _, _ => none
def fEnds (_ : AH) : D → List D → Option D
  | .str a, [.str b] => some (.bl (Txt.endswith a b))
  | _, _ => none
theorem m_find : MtN X C "str" (fun x xs H Q => ∃ a b, x = .str a ∧ xs = [.str b] ∧ Q (.int (Txt.find a b)) H) okS fFind :=
  mtn_str (fun z A σ H a ds d xs Q r s h e q => by
    unfold fFind at e
    split at e
    · cases e
      rename_i e1
      cases e1
      obtain ⟨v, rfl, hb⟩ := h.one
      exact ⟨_, _, rfl, by rw [hb.str], q _ H (.same (by rw [Rp]))⟩
    · cases e) fun A d ds r e => by
    unfold fFind at e
    split at e
    · rfl
    · cases e
theorem m_starts : MtN X C "str" (fun x xs H Q => ∃ a b, x = .str a ∧ xs = [.str b] ∧ Q (.bl (Txt.startswith a b)) H) okS fStarts :=
  mtn_str (fun z A σ H a ds d xs Q r s h e q => by
    unfold fStarts at e
    split at e
    · cases e
      rename_i e1
      cases e1
      obtain ⟨v, rfl, hb⟩ := h.one
      exact ⟨_, _, rfl, by rw [hb.str], q _ H (.same (by rw [Rp]))⟩
    · cases e) fun A d ds r e => by
    unfold fStarts at e
    split at e
    · rfl
    · cases e
end

/-! ### methods of lists that change them -/
def okL : Ob → Bool
  | .lst _ => true | _ => false
def gAppend : Ob → List D → Option (Ob × D)
  | .lst xs, [d] => if xs.length < sizeLine then some (.lst (xs ++ [d]), .non) else none
  | _, _ => none
def gExtend : Ob → List D → Option (Ob × D)
  | .lst xs, [.lst ys] => if xs.length + ys.length ≤ sizeLine then some (.lst (xs ++ ys), .non) else none
  | _, _ => none
def gPop : Ob → List D → Option (Ob × D)
  | .lst xs, [] => (xs[xs.length - 1]?).map fun d => (.lst xs.dropLast, d)
  | _, _ => none
def gPopAt : Ob → List D → Option (Ob × D)
  | .lst xs, [.int i] => if -(2 ^ 63) ≤ i ∧ i < 2 ^ 63 then (ixN xs.length i).bind fun k => (xs[k]?).map fun d => (.lst (xs.eraseIdx k), d) else none
  | _, _ => none
def gReverse : Ob → List D → Option (Ob × D)
  | .lst xs, [] => some (.lst xs.reverse, .non)
  | _, _ => none
def gClear : Ob → List D → Option (Ob × D)
  | .lst _, [] => some (.lst [], .non)
  | _, _ => none
section
variable {X : Cx} {C : Ct}
theorem tyOk_list {a : Addr} {xs : List V} {H : Hp} (h : SqL X.K H a xs) : TyOk X "list" (.ref a) H := fun pins σ s v I r => by
  cases r
  obtain ⟨its, _, pl, _⟩ := I.list h
  refine ⟨pl.isList.typeIs, fun a e => ?_⟩
  cases e
  obtain ⟨o, n, e, c, hd, _⟩ := pl
  exact ⟨o, e, hd⟩
theorem Rps.dropLast {K : PySem.W.Frag} {w : World} {H : Hp} {ds : List D} {vs : List V} (h : Rps K w H ds vs) : Rps K w H ds.dropLast vs.dropLast := by
  rw [List.dropLast_eq_take, List.dropLast_eq_take, h.length]
  exact h.take _
theorem mtc_ty {H : Hp} {a : Addr} {ob : Ob} (h : RpO X.K X.w H a ob) (o : okL ob = true) : TyOk X "list" (.ref a) H := by
  cases ob with
  | lst ds => obtain ⟨xs, h1, _⟩ := h; exact tyOk_list (.of h1)
  | _ => simp [okL] at o
theorem m_append : MtC X "list" rAppend okL gAppend where
  ty := fun H a ob h o => mtc_ty h o
  act := fun H a ob ob' ds d xs Q h hs e q => by
    unfold gAppend at e
    split at e
    · split at e
      · rename_i hl
        cases e
        obtain ⟨vs, h1, h2⟩ := h
        rw [Rps] at hs
        obtain ⟨x, r, rfl, hx, hr⟩ := hs
        rw [Rps] at hr
        subst hr
        have pe := pers_upd (u := .lst (vs ++ [x])) h1 chg_lst
        exact ⟨a, vs, x, rfl, rfl, h1, by rw [h2.length]; exact hl, q _ _ ⟨_, upd_same, (h2.pers pe).append (Rps.one (hx.pers pe))⟩ (by rw [Rp])⟩
      · cases e
    · cases e
theorem m_extend : MtC X "list" (rExtendR X.K) okL gExtend where
  ty := fun H a ob h o => mtc_ty h o
  act := fun H a ob ob' ds d xs Q h hs e q => by
    unfold gExtend at e
    split at e
    · split at e
      · rename_i hl
        cases e
        obtain ⟨vs, h1, h2⟩ := h
        rw [Rps] at hs
        obtain ⟨x, r, rfl, hx, hr⟩ := hs
        rw [Rps] at hr
        subst hr
        rw [Rp] at hx
        obtain ⟨b, ws, rfl, hb, h3⟩ := hx
        have pe := pers_upd (u := .lst (vs ++ ws)) h1 chg_lst
        exact ⟨a, b, vs, ws, rfl, rfl, h1, SqF.sql hb, by rw [h2.length, h3.length]; exact hl, q _ _ ⟨_, upd_same, (h2.pers pe).append (h3.pers pe)⟩ (by rw [Rp])⟩
      · cases e
    · cases e
theorem m_pop : MtC X "list" rPop okL gPop where
  ty := fun H a ob h o => mtc_ty h o
  act := fun H a ob ob' ds d xs Q h hs e q => by
    unfold gPop at e
    split at e
    · rename_i ys
      obtain ⟨vs, h1, h2⟩ := h
      rw [Rps] at hs
      subst hs
      cases hg : ys[ys.length - 1]? with
      | none => rw [hg] at e; cases e
      | some y =>
        rw [hg] at e; cases e
        obtain ⟨v, hv, rv⟩ := h2.get hg
        have pe := pers_upd (u := .lst vs.dropLast) h1 chg_lst
        exact ⟨a, vs, v, rfl, rfl, h1, by rw [h2.length]; exact hv, q _ _ ⟨_, upd_same, Rps.dropLast (h2.pers pe)⟩ (rv.pers pe)⟩
    · cases e
theorem m_reverse : MtC X "list" rReverse okL gReverse where
  ty := fun H a ob h o => mtc_ty h o
  act := fun H a ob ob' ds d xs Q h hs e q => by
    unfold gReverse at e
    split at e
    · obtain ⟨vs, h1, h2⟩ := h
      rw [Rps] at hs
      subst hs
      cases e
      exact ⟨a, vs, rfl, rfl, h1, q _ _ ⟨_, upd_same, (h2.pers (pers_upd h1 chg_lst)).reverse⟩ (by rw [Rp])⟩
    · cases e
theorem m_clear : MtC X "list" rClear okL gClear where
  ty := fun H a ob h o => mtc_ty h o
  act := fun H a ob ob' ds d xs Q h hs e q => by
    unfold gClear at e
    split at e
    · obtain ⟨vs, h1, h2⟩ := h
      rw [Rps] at hs
      subst hs
      cases e
      exact ⟨a, vs, rfl, rfl, h1, q _ _ ⟨_, upd_same, Rps.nil⟩ (by rw [Rp])⟩
    · cases e
/-- xs[i] = v -/
def gSet : Ob → D → D → Option Ob
  | .lst xs, .int i, d => (ixN xs.length i).map fun k => .lst (xs.set k d)
  | _, _, _ => none
theorem s_set : SetC X rSetL gSet := fun H a ob ob' k v x y Q h hk hv e q => by
  unfold gSet at e
  split at e
  · rename_i xs i
    obtain ⟨vs, h1, h2⟩ := h
    cases hj : ixN xs.length i with
    | none => rw [hj] at e; cases e
    | some j =>
      rw [hj] at e; cases e
      rw [Rp] at hk
      have pe := pers_upd (u := .lst (vs.set j y)) h1 chg_lst
      exact ⟨a, vs, i, j, rfl, hk, h1, by rw [h2.length]; exact hj, q _ ⟨_, upd_same, (h2.pers pe).set j (hv.pers pe)⟩⟩
  · cases e
end
end T3
set_option autoImplicit false
namespace T3
open PySem PySem.Spec PyProof.Rows L2

/-! ### a def that the module holds -/
def Def3 (P : Program) (w : World) (K : PySem.W.Frag) (mg : Str → Option Value) (base : Heap) (x : Str) (k : Nat) (ps : List Str) (sp : Sp3) : Prop :=
  ∃ (f : Addr) (fd : FuncData), FnOk P w K mg base CX0 k f fd ps (lsp K w sp) ∧ mg x = some (.ref f) ∧ PySem.W.keepIn K (.ref f) = true ∧ L2.Binds K fd ps []
section
variable {X : Cx} {C : Ct} {k : Nat} {ps : List Str} {sp : Sp3} {x : Str} {p pos : Pos} {e : Expr} {es : List Expr} {t : TA3}
theorem pe3_def (G : Def3 X.prog X.w X.K X.mg X.base x k ps sp) (hr : Room k X.A) (hg : Gl X x) (ha : PA3 X C (e :: es) t) (hdb : (x == ("__debug__" : Str)) = false := by decide)
    (he : starEach (e :: es) X.env = (false, eval e X.env) :: starEach es X.env := by rfl) (hpl : (backTo pos (starEach es X.env)).any (·.1) = false := by rfl) : PE3 X C (.Call (.Name x p) (e :: es) [] pos) (eCall sp [] t) := by
  obtain ⟨f, fd, F, hm, hk, hb⟩ := G
  exact pe3_call (dvs := []) F hr hg hm hk hb .nil (fun _ => Rps.nil) ha hdb he hpl
theorem pe3_def0 (G : Def3 X.prog X.w X.K X.mg X.base x k ps sp) (hr : Room k X.A) (hg : Gl X x) (hdb : (x == ("__debug__" : Str)) = false := by decide) : PE3 X C (.Call (.Name x p) [] [] pos) (eCall sp [] aNil) := by
  obtain ⟨f, fd, F, hm, hk, hb⟩ := G
  exact pe3_call0 F hr hg hm hk hb hdb
theorem pe3_gsE {y : Str} (hg : Gl X x) (hm : ∃ t, X.mg x = some (.str y t)) (hd : (x == ("__debug__" : Str)) = false := by decide) : PE3 X C (.Name x pos) (eC (.str y)) := by
  obtain ⟨t, hm⟩ := hm
  exact pe3_gs hg hm hd
theorem pe3_giE {i : Int} (hg : Gl X x) (hm : ∃ t, X.mg x = some (.int i t)) (hd : (x == ("__debug__" : Str)) = false := by decide) : PE3 X C (.Name x pos) (eC (.int i)) := by
  obtain ⟨t, hm⟩ := hm
  exact pe3_gi hg hm hd
end

/-! ### the law's own call -/
def script (ns : List Int) : D := .lst (ns.map .int)
theorem Rps.ints {K : PySem.W.Frag} {w : World} {H : Hp} : ∀ ns : List Int, Rps K w H (ns.map .int) (ns.map V.int)
  | [] => Rps.nil
  | n :: ns => Rps.cons (by rw [Rp]) (Rps.ints ns)
theorem law_sp {K : PySem.W.Frag} {w : World} {sp : Sp3} {H : Hp} {a : Addr} {ns : List Int}
    (h : ∀ Q : D → AH → Prop, (∀ A, Q (.bl true) A) → sp [script ns] (fun _ => none) Q fun _ _ _ => False) (hO : Only H) (hS : SqL K H a (ns.map V.int)) : lsp K w sp [.ref a] H (fun v _ => v = .bl true) fun _ _ _ => False := by
  have hF : SqF K H a (ns.map V.int) := by
    rcases hS with (q | ⟨o, q⟩) | q
    · rcases hO a with n | ⟨o, xs, n⟩ <;> (rw [n] at q; cases q)
    · exact .inl ⟨o, q⟩
    · exact .inr q
  refine ⟨[script ns], fun _ => none, fun d _ => d = .bl true, Rps.one ?_, (fun _ _ e => nomatch e), h _ fun _ => rfl, fun d A' v H' e _ rv _ => ?_⟩
  · unfold script
    rw [Rp]
    exact ⟨a, _, rfl, hF, Rps.ints ns⟩
  · subst e
    exact rv

/-! ### is True, is False -/
def fIsB (_ : AH) : D → D → Option D
  | .bl a, .bl b => some (.bl (decide (a = b)))
  | _, _ => none
def fNotB (_ : AH) : D → D → Option D
  | .bl a, .bl b => some (.bl (!decide (a = b)))
  | _, _ => none
section
variable {X : Cx} {C : Ct}
theorem o_isB : Op2 X C (fun x y H Q => ∃ a b, x = .bl a ∧ y = .bl b ∧ Q (.bl (decide (a = b))) H) fIsB := fun z A σ H d1 d2 d x y Q r s h1 h2 e q => by
  unfold fIsB at e
  split at e
  · cases e
    exact ⟨_, _, h1.bl, h2.bl, q _ H (.same (by rw [Rp]))⟩
  · cases e
theorem o_notB : Op2 X C (fun x y H Q => ∃ a b, x = .bl a ∧ y = .bl b ∧ Q (.bl (!decide (a = b))) H) fNotB := fun z A σ H d1 d2 d x y Q r s h1 h2 e q => by
  unfold fNotB at e
  split at e
  · cases e
    exact ⟨_, _, h1.bl, h2.bl, q _ H (.same (by rw [Rp]))⟩
  · cases e
end
end T3
set_option autoImplicit false
namespace T3
open PySem PySem.Spec PyProof.Rows L2

/-! ### the readings, to be worked out by simp -/
section
variable (z : S3) (A : AH) (Q : D → AH → Prop) (E : Ends3)
@[simp] theorem ap_eV (i : Nat) : eV i z A Q = ∃ d, z[i]? = some (some d) ∧ own d = false ∧ Q d A := rfl
@[simp] theorem ap_eB (i : Nat) : eB i z A Q = ∃ d, z[i]? = some (some d) ∧ Q (frz d) A := rfl
@[simp] theorem ap_eC (d : D) : eC d z A Q = Q d A := rfl
@[simp] theorem ap_fz (t : TE3) : fz t z A Q = t z A (fun d A' => Q (frz d) A') := rfl
@[simp] theorem ap_aNil (Q : List D → AH → Prop) : aNil z A Q = Q [] A := rfl
@[simp] theorem ap_aCons (t : TE3) (u : TA3) (Q : List D → AH → Prop) : aCons t u z A Q = t z A (fun d A1 => u z A1 fun ds A2 => Q (d :: ds) A2) := rfl
@[simp] theorem ap_eTup (t : TA3) : eTup t z A Q = t z A (fun ds A' => ds.length ≤ sizeLine ∧ Q (.tup ds) A') := rfl
@[simp] theorem ap_eLst (t : TA3) : eLst t z A Q = t z A (fun ds A' => ds.length ≤ sizeLine ∧ Q (.ml ds) A') := rfl
@[simp] theorem ap_e2 (f : AH → D → D → Option D) (ta tb : TE3) : e2 f ta tb z A Q = ta z A (fun d1 A1 => tb z A1 fun d2 A2 => ∃ d, f A2 d1 d2 = some d ∧ Q d A2) := rfl
@[simp] theorem ap_e1 (f : AH → D → Option D) (ta : TE3) : e1 f ta z A Q = ta z A (fun d1 A1 => ∃ d, f A1 d1 = some d ∧ Q d A1) := rfl
@[simp] theorem ap_eN (f : AH → List D → Option D) (ta : TA3) : eN f ta z A Q = ta z A (fun ds A1 => ∃ d, f A1 ds = some d ∧ Q d A1) := rfl
@[simp] theorem ap_e3 (f g : AH → D → D → Option D) (ta tb tc : TE3) : e3 f g ta tb tc z A Q = ta z A (fun d1 A1 => tb z A1 fun d2 A2 => ∃ b, f A2 d1 d2 = some (.bl b) ∧ if b = true then tc z A2 fun d3 A3 => ∃ d, g A3 d2 d3 = some d ∧ Q d A3 else Q (.bl false) A2) := rfl
@[simp] theorem ap_eM (ok : AH → D → Bool) (f : AH → D → List D → Option D) (to : TE3) (ta : TA3) : eM ok f to ta z A Q = to z A (fun d0 A1 => ok A1 d0 = true ∧ ta z A1 fun ds A2 => ∃ d, f A2 d0 ds = some d ∧ Q d A2) := rfl
@[simp] theorem ap_eSl (te : TE3) (tl th : TO3) : eSl te tl th z A Q = te z A (fun d A1 => tl z A1 fun lo A2 => th z A2 fun hi A3 => ∃ r, fSl A3 d lo hi = some r ∧ Q r A3) := rfl
@[simp] theorem ap_oNo (Q : Option Int → AH → Prop) : oNo z A Q = Q none A := rfl
@[simp] theorem ap_oAt (t : TE3) (Q : Option Int → AH → Prop) : oAt t z A Q = t z A (fun d A' => ∃ i, d = .int i ∧ Q (some i) A') := rfl
@[simp] theorem ap_tV (t : TE3) (Q : Bool → AH → Prop) : tV t z A Q = t z A (fun d A' => ∃ b, d = .bl b ∧ Q b A') := rfl
@[simp] theorem ap_tNot (t : TT3) (Q : Bool → AH → Prop) : tNot3 t z A Q = t z A (fun b A' => Q (!b) A') := rfl
@[simp] theorem ap_tAnd (t u : TT3) (Q : Bool → AH → Prop) : tAnd3 t u z A Q = t z A (fun b A' => if b = true then u z A' Q else Q false A') := rfl
@[simp] theorem ap_tOr (t u : TT3) (Q : Bool → AH → Prop) : tOr3 t u z A Q = t z A (fun b A' => if b = true then Q true A' else u z A' Q) := rfl
@[simp] theorem ap_tYes (Q : Bool → AH → Prop) : tYes3 z A Q = Q true A := rfl
@[simp] theorem ap_eAnd (t u : TE3) : eAnd t u z A Q = t z A (fun d A' => ∃ b, d = .bl b ∧ if b = true then u z A' Q else Q (.bl false) A') := rfl
@[simp] theorem ap_eOr (t u : TE3) : eOr t u z A Q = t z A (fun d A' => ∃ b, d = .bl b ∧ if b = true then Q (.bl true) A' else u z A' Q) := rfl
@[simp] theorem ap_eNot (t : TE3) : eNot t z A Q = t z A (fun d A' => ∃ b, d = .bl b ∧ Q (.bl (!b)) A') := rfl
@[simp] theorem ap_eCall (sp : Sp3) (dfl : List D) (t : TA3) : eCall sp dfl t z A Q = t z A (fun ds A' => sp (ds ++ dfl) A' Q (fun _ _ _ => False)) := rfl
@[simp] theorem ap_eSh (t : TE3) : eSh t z A Q = t z A (fun d A' => ∃ ob, obOf d = some ob ∧ ∀ a, A' a = none → Q (.ref a) (put A' a ob)) := rfl
@[simp] theorem ap_sNil : sNil E z A = E.nx z A := rfl
@[simp] theorem ap_sSeq (t u : TS3) : sSeq t u E z A = t { E with nx := u E } z A := rfl
@[simp] theorem ap_sBreak : sBreak E z A = E.bk z A := rfl
@[simp] theorem ap_sCont : sCont E z A = E.ct z A := rfl
@[simp] theorem ap_sDrop (t : TE3) : sDrop t E z A = t z A (fun _ A' => E.nx z A') := rfl
@[simp] theorem ap_sRet (t : TE3) : sRet t E z A = t z A E.rt := rfl
@[simp] theorem ap_sRetV (i : Nat) : sRetV i E z A = ∃ d, z[i]? = some (some d) ∧ E.rt d A := rfl
@[simp] theorem ap_sRetN : sRetN E z A = E.rt .non A := rfl
@[simp] theorem ap_sIf (c : TT3) (t u : TS3) : sIf c t u E z A = c z A (fun b A' => if b = true then t E z A' else u E z A') := rfl
@[simp] theorem ap_sSet (i : Nat) (t : TE3) : sSet i t E z A = t z A (fun d A' => E.nx (z.set i (some d)) A') := rfl
@[simp] theorem ap_sSetR (i : Nat) (t : TE3) : sSetR i t E z A = t z A (fun d A' => ∃ ob, obOf d = some ob ∧ ∀ a, A' a = none → E.nx (z.set i (some (.ref a))) (put A' a ob)) := rfl
@[simp] theorem ap_sFz (i : Nat) (t : TS3) : sFz i t E z A = ∃ d, z[i]? = some (some d) ∧ t E (z.set i (some (frz d))) A := rfl
@[simp] theorem ap_sFor (t : TI3) (p : Pat) (tb : TS3) : sFor t p tb E z A = t z A (fun items A' => forW p tb E items z A') := rfl
@[simp] theorem ap_forNil (p : Pat) (tb : TS3) : forW p tb E [] z A = E.nx z A := rfl
@[simp] theorem ap_iS (t : TE3) (Q : List D → AH → Prop) : iS t z A Q = t z A (fun d A' => ∃ items, itemsOf (frz d) = some items ∧ Q items A') := rfl
@[simp] theorem ap_iR1 (t : TA3) (Q : List D → AH → Prop) : iR1 t z A Q = t z A (fun ds A' => ∃ j, ds = [.int j] ∧ small62 j ∧ Q (rng 0 j.toNat) A') := rfl
@[simp] theorem ap_iR2 (t : TA3) (Q : List D → AH → Prop) : iR2 t z A Q = t z A (fun ds A' => ∃ i j, ds = [.int i, .int j] ∧ small62 i ∧ small62 j ∧ Q (rng i (j - i).toNat) A') := rfl
@[simp] theorem ap_sAsgP (p : Pat) (t : TE3) : sAsgP p t E z A = t z A (fun d A' => ∃ z', setP p (frz d) z = some z' ∧ E.nx z' A') := rfl
@[simp] theorem ap_sM (i : Nat) (ok : Ob → Bool) (g : Ob → List D → Option (Ob × D)) (ta : TA3) (k : D → TS3) : sM i ok g ta k E z A = ∃ d0 ob, z[i]? = some (some d0) ∧ obOf d0 = some ob ∧ ok ob = true ∧ ta z A fun ds A2 => ∃ ob' d, g ob ds = some (ob', d) ∧ obOf (dOf ob') = some ob' ∧ k d E (z.set i (some (dOf ob'))) A2 := rfl
@[simp] theorem ap_kDrop (d : D) : kDrop d E z A = E.nx z A := rfl
@[simp] theorem ap_eMR (ok : Ob → Bool) (g : Ob → List D → Option (Ob × D)) (to : TE3) (ta : TA3) : eMR ok g to ta z A Q = to z A (fun d0 A1 => ∃ a ob, d0 = .ref a ∧ A1 a = some ob ∧ ok ob = true ∧ ta z A1 fun ds A2 => ∃ ob1 ob' d, A2 a = some ob1 ∧ g ob1 ds = some (ob', d) ∧ Q d (put A2 a ob')) := rfl
@[simp] theorem ap_sPut (i : Nat) (g : Ob → D → D → Option Ob) (tk tv : TE3) : sPut i g tk tv E z A = ((∃ d, z[i]? = some (some d)) ∧ tv z A fun v A1 => tk z A1 fun k A2 => ∃ d0 ob ob', z[i]? = some (some d0) ∧ obOf d0 = some ob ∧ g ob (frz k) (frz v) = some ob' ∧ obOf (dOf ob') = some ob' ∧ E.nx (z.set i (some (dOf ob'))) A2) := rfl
@[simp] theorem ap_sPutR (g : Ob → D → D → Option Ob) (to tk tv : TE3) : sPutR g to tk tv E z A = tv z A (fun v A1 => to z A1 fun d0 A2 => tk z A2 fun k A3 => ∃ a ob ob', frz d0 = .ref a ∧ A3 a = some ob ∧ g ob (frz k) (frz v) = some ob' ∧ E.nx z (put A3 a ob')) := rfl
@[simp] theorem ap_eLc (t : TI3) (p : Pat) (tt : TT3) (te : TE3) (vs : List Nat) : eLc t p tt te vs z A Q = ((∀ i ∈ vs, ∀ d, z[i]? = some (some d) → own d = false) ∧ t z A fun items A' => lcW p tt te (wipe3 z vs) items [] A' Q) := rfl
@[simp] theorem ap_nm (i : Nat) (d : D) : setP (.nm i) d z = some (z.set i (some d)) := rfl
theorem ap_tp (is : List Nat) (ds : List D) : setP (.tp is) (.tup ds) z = if ds.length = is.length then some (setAll z is ds) else none := rfl
@[simp] theorem ap_set0 (ds : List D) : setAll z [] ds = z := by cases ds <;> rfl
@[simp] theorem ap_setS (i : Nat) (is : List Nat) (d : D) (ds : List D) : setAll z (i :: is) (d :: ds) = setAll (z.set i (some d)) is ds := rfl
@[simp] theorem ap_wipe0 : wipe3 z [] = z := rfl
@[simp] theorem ap_wipeS (v : Nat) (vs : List Nat) : wipe3 z (v :: vs) = (wipe3 z vs).set v none := rfl
theorem for_cons (p : Pat) (tb : TS3) (x : D) (xs : List D) : forW p tb E (x :: xs) z A = ∃ z', setP p x z = some z' ∧ tb { E with nx := forW p tb E xs, ct := forW p tb E xs, bk := E.nx } z' A := rfl
end
@[simp] theorem frz_non : frz .non = .non := rfl
@[simp] theorem frz_bl (b : Bool) : frz (.bl b) = .bl b := rfl
@[simp] theorem frz_int (b : Int) : frz (.int b) = .int b := rfl
@[simp] theorem frz_str (b : Str) : frz (.str b) = .str b := rfl
@[simp] theorem frz_tup (b : List D) : frz (.tup b) = .tup b := rfl
@[simp] theorem frz_lst (b : List D) : frz (.lst b) = .lst b := rfl
@[simp] theorem frz_dct (b : List (D × D)) : frz (.dct b) = .dct b := rfl
@[simp] theorem frz_ref (b : Addr) : frz (.ref b) = .ref b := rfl
@[simp] theorem frz_ml (b : List D) : frz (.ml b) = .lst b := rfl
@[simp] theorem frz_md (b : List (D × D)) : frz (.md b) = .dct b := rfl
@[simp] theorem own_non : own .non = false := rfl
@[simp] theorem own_bl (b : Bool) : own (.bl b) = false := rfl
@[simp] theorem own_int (b : Int) : own (.int b) = false := rfl
@[simp] theorem own_str (b : Str) : own (.str b) = false := rfl
@[simp] theorem own_tup (b : List D) : own (.tup b) = false := rfl
@[simp] theorem own_lst (b : List D) : own (.lst b) = false := rfl
@[simp] theorem own_dct (b : List (D × D)) : own (.dct b) = false := rfl
@[simp] theorem own_ref (b : Addr) : own (.ref b) = false := rfl
@[simp] theorem own_ml (b : List D) : own (.ml b) = true := rfl
@[simp] theorem own_md (b : List (D × D)) : own (.md b) = true := rfl
@[simp] theorem ob_ml (b : List D) : obOf (.ml b) = some (.lst b) := rfl
@[simp] theorem ob_md (b : List (D × D)) : obOf (.md b) = some (.dct b) := rfl
@[simp] theorem d_lst (b : List D) : dOf (.lst b) = .ml b := rfl
@[simp] theorem d_dct (b : List (D × D)) : dOf (.dct b) = .md b := rfl
section
variable (A : AH)
@[simp] theorem vw_non : vw A .non = .non := rfl
@[simp] theorem vw_bl' (b : Bool) : vw A (.bl b) = .bl b := rfl
@[simp] theorem vw_int' (b : Int) : vw A (.int b) = .int b := rfl
@[simp] theorem vw_str' (b : Str) : vw A (.str b) = .str b := rfl
@[simp] theorem vw_tup (b : List D) : vw A (.tup b) = .tup b := rfl
@[simp] theorem vw_lst (b : List D) : vw A (.lst b) = .lst b := rfl
@[simp] theorem vw_dct (b : List (D × D)) : vw A (.dct b) = .dct b := rfl
@[simp] theorem items_lst (b : List D) : itemsOf (.lst b) = some b := rfl
@[simp] theorem items_tup (b : List D) : itemsOf (.tup b) = some b := rfl
@[simp] theorem items_str (b : Str) : itemsOf (.str b) = some (signs b) := rfl
@[simp] theorem ok_str (b : Str) : okS A (.str b) = true := rfl
@[simp] theorem ok_lst (b : List D) : okL (.lst b) = true := rfl
theorem frz_of_own {d : D} (h : own d = false) : frz d = d := frz_of h

/-! ### operations at known shapes -/
@[simp] theorem okLt_int (a b : Int) : okLt (.int a) (.int b) = true := by simp [okLt, pok, pd, PySem.W.alike, dep]
@[simp] theorem okLt_str (a b : Str) : okLt (.str a) (.str b) = true := by simp [okLt, pok, pd, PySem.W.alike, dep]
@[simp] theorem ltD_int (a b : Int) : ltD (.int a) (.int b) = decide (a < b) := by
  unfold ltD
  rw [pd, pd]
  exact PySem.W.dataLt_int a b
@[simp] theorem fLt_int (a b : Int) : fLt A (.int a) (.int b) = some (.bl (decide (a < b))) := by simp [fLt]
@[simp] theorem fGt_int (a b : Int) : fGt A (.int a) (.int b) = some (.bl (decide (b < a))) := by simp [fGt]
@[simp] theorem fLe_int (a b : Int) : fLe A (.int a) (.int b) = some (.bl (decide (a ≤ b))) := by
  have h : a ≤ b ↔ ¬ b < a := by omega
  simp only [fLe, okLt_int, ltD_int, if_true, h, decide_not]
@[simp] theorem fGe_int (a b : Int) : fGe A (.int a) (.int b) = some (.bl (decide (b ≤ a))) := by
  have h : b ≤ a ↔ ¬ a < b := by omega
  simp only [fGe, okLt_int, ltD_int, if_true, h, decide_not]
@[simp] theorem fSub_int (a b : Int) : fSub A (.int a) (.int b) = some (.int (a - b)) := rfl
@[simp] theorem fAdd_int (a b : Int) : fAdd A (.int a) (.int b) = some (.int (a + b)) := rfl
@[simp] theorem fNeg_int (a : Int) : fNeg A (.int a) = some (.int (-a)) := rfl
@[simp] theorem fAdd_str (a b : Str) : fAdd A (.str a) (.str b) = if lim (a.length + b.length) then some (.str (a ++ b)) else none := rfl
@[simp] theorem fAdd_lst (a b : List D) : fAdd A (.lst a) (.lst b) = if lim (a.length + b.length) then some (.ml (a ++ b)) else none := rfl
@[simp] theorem fAdd_tup (a b : List D) : fAdd A (.tup a) (.tup b) = if lim (a.length + b.length) then some (.tup (a ++ b)) else none := rfl
theorem fMul_int (a b : Int) : fMul A (.int a) (.int b) = if big64 a || big64 b then some (.int (a * b)) else none := rfl
@[simp] theorem fMod_int (a b : Int) : fMod A (.int a) (.int b) = if 0 < b then some (.int (a % b)) else none := rfl
@[simp] theorem fFdiv_int (a b : Int) : fFdiv A (.int a) (.int b) = if 0 < b ∧ b < 2 ^ 64 then some (.int (a / b)) else none := rfl
@[simp] theorem fLen_lst (a : List D) : fLen A [.lst a] = some (.int a.length) := rfl
@[simp] theorem fLen_tup (a : List D) : fLen A [.tup a] = some (.int a.length) := rfl
@[simp] theorem fLen_str (a : Str) : fLen A [.str a] = if lim a.length then some (.int a.length) else none := rfl
@[simp] theorem fList_lst (a : List D) : fList A [.lst a] = some (.ml a) := rfl
@[simp] theorem fList_tup (a : List D) : fList A [.tup a] = some (.ml a) := rfl
@[simp] theorem fTuple_lst (a : List D) : fTuple A [.lst a] = some (.tup a) := rfl
@[simp] theorem fTuple_tup (a : List D) : fTuple A [.tup a] = some (.tup a) := rfl
@[simp] theorem fAll_lst (a : List D) : fAll A [.lst a] = (bls a).map fun bs => .bl (bs.all id) := rfl
@[simp] theorem fAny_lst (a : List D) : fAny A [.lst a] = (bls a).map fun bs => .bl (bs.any id) := rfl
@[simp] theorem fIx_lst (a : List D) (i : Int) : fIx A (.lst a) (.int i) = L2.atI a i := rfl
@[simp] theorem fIx_tup (a : List D) (i : Int) : fIx A (.tup a) (.int i) = L2.atI a i := rfl
@[simp] theorem fIx_str (a : Str) (i : Int) : fIx A (.str a) (.int i) = if lim a.length then (L2.atI a.cps.toList i).map fun c => .str ⟨#[c]⟩ else none := rfl
@[simp] theorem fSl_lst (a : List D) (lo hi : Option Int) : fSl A (.lst a) lo hi = some (.ml (cutD a lo hi)) := rfl
@[simp] theorem fSl_tup (a : List D) (lo hi : Option Int) : fSl A (.tup a) lo hi = some (.tup (cutD a lo hi)) := rfl
@[simp] theorem fSl_str (a : Str) (lo hi : Option Int) : fSl A (.str a) lo hi = if lim a.length then some (.str (cutS a lo hi)) else none := rfl
@[simp] theorem fFind_str (a b : Str) : fFind A (.str a) [.str b] = some (.int (Txt.find a b)) := rfl
@[simp] theorem fStarts_str (a b : Str) : fStarts A (.str a) [.str b] = some (.bl (Txt.startswith a b)) := rfl
@[simp] theorem fIsN_non (a : D) : fIsN A a .non = some (.bl (decide (a = .non))) := rfl
@[simp] theorem fNotN_non (a : D) : fNotN A a .non = some (.bl (!decide (a = .non))) := rfl
@[simp] theorem bls_map {α : Type} (f : α → Bool) : ∀ xs : List α, bls (xs.map fun x => D.bl (f x)) = some (xs.map f)
  | [] => rfl
  | x :: xs => by simp [bls, bls_map f xs]
@[simp] theorem bls_comp {α : Type} (f : α → Bool) (xs : List α) : bls (xs.map (D.bl ∘ f)) = some (xs.map f) := bls_map f xs
@[simp] theorem fIsB_bl (a b : Bool) : fIsB A (.bl a) (.bl b) = some (.bl (decide (a = b))) := rfl
@[simp] theorem fNotB_bl (a b : Bool) : fNotB A (.bl a) (.bl b) = some (.bl (!decide (a = b))) := rfl
@[simp] theorem isT_self (t : String) : isT t t = true := by simp [isT]
end

/-! ### == at known shapes -/
mutual
theorem eqv_refl : ∀ a : D, pok a = true → PyData.eqv (pd a) (pd a) = true
  | .non, _ => by simp [pd, PyData.eqv]
  | .bl _, _ => by simp [pd, PyData.eqv]
  | .int _, _ => by simp [pd, PyData.eqv]
  | .str _, _ => by simp [pd, PyData.eqv]
  | .tup xs, h => by rw [pd, PyData.eqv]; exact eqvs_refl xs (by rwa [pok] at h)
  | .lst xs, h => by rw [pd, PyData.eqv]; exact eqvs_refl xs (by rwa [pok] at h)
  | .dct _, h => by simp [pok] at h
  | .ref _, h => by simp [pok] at h
  | .ml _, h => by simp [pok] at h
  | .md _, h => by simp [pok] at h
theorem eqvs_refl : ∀ a : List D, poks a = true → PyData.eqvAll (pds a) (pds a) = true
  | [], _ => by simp [pds, PyData.eqvAll]
  | x :: xs, h => by
    simp only [poks, Bool.and_eq_true] at h
    rw [pds, PyData.eqvAll, eqv_refl x h.1, eqvs_refl xs h.2]; rfl
end
mutual
/-- no truths within -/
def nb : D → Bool
  | .non => true | .int _ => true | .str _ => true | .tup xs => nbs xs | .lst xs => nbs xs | _ => false
def nbs : List D → Bool
  | [] => true
  | x :: xs => nb x && nbs xs
end
mutual
theorem nb_pok : ∀ a : D, nb a = true → pok a = true
  | .non, _ => rfl
  | .int _, _ => rfl
  | .str _, _ => rfl
  | .tup xs, h => by rw [pok]; exact nbs_poks xs (by rwa [nb] at h)
  | .lst xs, h => by rw [pok]; exact nbs_poks xs (by rwa [nb] at h)
  | .bl _, h => by simp [nb] at h
  | .dct _, h => by simp [nb] at h
  | .ref _, h => by simp [nb] at h
  | .ml _, h => by simp [nb] at h
  | .md _, h => by simp [nb] at h
theorem nbs_poks : ∀ a : List D, nbs a = true → poks a = true
  | [], _ => rfl
  | x :: xs, h => by
    simp only [nbs, Bool.and_eq_true] at h
    rw [poks, nb_pok x h.1, nbs_poks xs h.2]; rfl
end
mutual
theorem eqv_eq : ∀ a b : D, nb a = true → nb b = true → PyData.eqv (pd a) (pd b) = true → a = b
  | .non, b, _, hb, h => by cases b <;> simp_all [pd, PyData.eqv, nb]
  | .int _, b, _, hb, h => by cases b <;> simp_all [pd, PyData.eqv, nb]
  | .str _, b, _, hb, h => by cases b <;> simp_all [pd, PyData.eqv, nb]
  | .tup xs, b, ha, hb, h => by
    cases b with
    | tup ys =>
      rw [nb] at ha hb
      rw [pd, pd, PyData.eqv] at h
      rw [eqvs_eq xs ys ha hb h]
    | _ => simp_all [pd, PyData.eqv, nb]
  | .lst xs, b, ha, hb, h => by
    cases b with
    | lst ys =>
      rw [nb] at ha hb
      rw [pd, pd, PyData.eqv] at h
      rw [eqvs_eq xs ys ha hb h]
    | _ => simp_all [pd, PyData.eqv, nb]
  | .bl _, _, ha, _, _ => by simp [nb] at ha
  | .dct _, _, ha, _, _ => by simp [nb] at ha
  | .ref _, _, ha, _, _ => by simp [nb] at ha
  | .ml _, _, ha, _, _ => by simp [nb] at ha
  | .md _, _, ha, _, _ => by simp [nb] at ha
theorem eqvs_eq : ∀ a b : List D, nbs a = true → nbs b = true → PyData.eqvAll (pds a) (pds b) = true → a = b
  | [], [], _, _, _ => rfl
  | [], _ :: _, _, _, h => by simp [pds, PyData.eqvAll] at h
  | _ :: _, [], _, _, h => by simp [pds, PyData.eqvAll] at h
  | x :: xs, y :: ys, ha, hb, h => by
    simp only [nbs, Bool.and_eq_true] at ha hb
    simp only [pds, PyData.eqvAll, Bool.and_eq_true] at h
    rw [eqv_eq x y ha.1 hb.1 h.1, eqvs_eq xs ys ha.2 hb.2 h.2]
end
/-- data without truths: equal just when the same -/
theorem eqD_nb {a b : D} (ha : nb a = true) (hb : nb b = true) : eqD a b = decide (a = b) := by
  unfold eqD
  by_cases h : a = b
  · subst h; rw [eqv_refl a (nb_pok a ha)]; simp
  · cases e : PyData.eqv (pd a) (pd b) with
    | true => exact absurd (eqv_eq a b ha hb e) h
    | false => simp [h]
@[simp] theorem eqD_bl (a b : Bool) : eqD (.bl a) (.bl b) = (a == b) := by simp [eqD, pd, PyData.eqv]
@[simp] theorem eqD_int (a b : Int) : eqD (.int a) (.int b) = decide (a = b) := by rw [eqD_nb rfl rfl]; simp
@[simp] theorem eqD_str (a b : Str) : eqD (.str a) (.str b) = decide (a = b) := by rw [eqD_nb rfl rfl]; simp
section
variable (A : AH)
@[simp] theorem fEq_bl (a b : Bool) : fEq A (.bl a) (.bl b) = some (.bl (a == b)) := by simp [fEq, okEq, pok, dep]
@[simp] theorem fNe_bl (a b : Bool) : fNe A (.bl a) (.bl b) = some (.bl (a != b)) := by simp [fNe, okEq, pok, dep, bne]
@[simp] theorem fEq_int (a b : Int) : fEq A (.int a) (.int b) = some (.bl (decide (a = b))) := by simp [fEq, okEq, pok, dep]
@[simp] theorem fNe_int (a b : Int) : fNe A (.int a) (.int b) = some (.bl (!decide (a = b))) := by simp [fNe, okEq, pok, dep]
@[simp] theorem fEq_str (a b : Str) : fEq A (.str a) (.str b) = some (.bl (decide (a = b))) := by simp [fEq, okEq, pok, dep]
@[simp] theorem fNe_str (a b : Str) : fNe A (.str a) (.str b) = some (.bl (!decide (a = b))) := by simp [fNe, okEq, pok, dep]
theorem fEq_nb {a b : D} (ha : nb (vw A a) = true) (hb : nb (vw A b) = true) (hd : dep (vw A a) ≤ 60) : fEq A a b = some (.bl (decide (vw A a = vw A b))) := by
  simp [fEq, okEq, nb_pok _ ha, nb_pok _ hb, hd, eqD_nb ha hb]
theorem fNe_nb {a b : D} (ha : nb (vw A a) = true) (hb : nb (vw A b) = true) (hd : dep (vw A a) ≤ 60) : fNe A a b = some (.bl (!decide (vw A a = vw A b))) := by
  simp [fNe, okEq, nb_pok _ ha, nb_pok _ hb, hd, eqD_nb ha hb]
end

/-! ### loops and comprehensions by what they keep -/
theorem for_rule {p : Pat} {tb : TS3} {E : Ends3} (I : Nat → S3 → AH → Prop) (fin : ∀ z A (n : Nat), I n z A → E.nx z A → E.nx z A) : ∀ (items : List D) (k : Nat) (z : S3) (A : AH), I k z A →
    (∀ (i : Nat) (x : D), items[i]? = some x → ∀ (z : S3) (A : AH), I (k + i) z A → ∃ z', setP p x z = some z' ∧ ∀ E' : Ends3, (∀ d A, E.rt d A → E'.rt d A) → (∀ z A, E.nx z A → E'.bk z A) → (∀ z A, I (k + i + 1) z A → E'.nx z A) → (∀ z A, I (k + i + 1) z A → E'.ct z A) → tb E' z' A) →
    (∀ (z : S3) (A : AH), I (k + items.length) z A → E.nx z A) → forW p tb E items z A
  | [], k, z, A, h, _, q => q z A h
  | x :: xs, k, z, A, h, step, q => by
    obtain ⟨z', e, hb⟩ := step 0 x rfl z A h
    have go : ∀ (z : S3) (A : AH), I (k + 0 + 1) z A → forW p tb E xs z A := fun z A hi => by
      refine for_rule I fin xs (k + 1) z A hi (fun i y hy z A hI => ?_) fun z A hI => q z A (by rw [List.length_cons, show k + (xs.length + 1) = k + 1 + xs.length by omega]; exact hI)
      have := step (i + 1) y hy z A (by rw [show k + (i + 1) = k + 1 + i by omega]; exact hI)
      rwa [show k + (i + 1) = k + 1 + i by omega] at this
    exact ⟨z', e, hb _ (fun _ _ h => h) (fun _ _ h => h) go go⟩
/-- a loop from its start -/
theorem for_inv {p : Pat} {tb : TS3} {E : Ends3} {items : List D} {z : S3} {A : AH} (I : Nat → S3 → AH → Prop) (h0 : I 0 z A)
    (step : ∀ (i : Nat) (x : D), items[i]? = some x → ∀ (z : S3) (A : AH), I i z A → ∃ z', setP p x z = some z' ∧ ∀ E' : Ends3, (∀ d A, E.rt d A → E'.rt d A) → (∀ z A, E.nx z A → E'.bk z A) → (∀ z A, I (i + 1) z A → E'.nx z A) → (∀ z A, I (i + 1) z A → E'.ct z A) → tb E' z' A)
    (fin : ∀ (z : S3) (A : AH), I items.length z A → E.nx z A) : forW p tb E items z A := by
  refine for_rule I (fun _ _ _ _ h => h) items 0 z A h0 (fun i x hx z A hI => ?_) fun z A hI => fin z A (by rwa [Nat.zero_add] at hI)
  rw [Nat.zero_add] at hI ⊢
  exact step i x hx z A hI
/-- a comprehension without if -/
theorem lc_map {p : Pat} {te : TE3} {z0 : S3} {A : AH} {Q : D → AH → Prop} (f : D → D) : ∀ (items acc : List D), acc.length + items.length ≤ sizeLine → (∀ x ∈ items, ∃ z', setP p x z0 = some z' ∧ ∀ R : D → AH → Prop, R (f x) A → te z' A R) →
    Q (.ml (acc ++ items.map fun x => frz (f x))) A → lcW p tYes3 te z0 items acc A Q
  | [], acc, _, _, q => by simpa [lcW] using q
  | x :: xs, acc, hl, h, q => by
    obtain ⟨z', e, hx⟩ := h x List.mem_cons_self
    simp only [List.length_cons] at hl
    refine ⟨z', e, hx _ ⟨by omega, ?_⟩⟩
    refine lc_map f xs _ (by rw [List.length_append, List.length_cons, List.length_nil]; omega) (fun y hy => h y (List.mem_cons_of_mem _ hy)) ?_
    simpa using q
/-- .. with an if -/
theorem lc_filter {p : Pat} {tt : TT3} {te : TE3} {z0 : S3} {A : AH} {Q : D → AH → Prop} (g : D → Bool) (f : D → D) : ∀ (items acc : List D), acc.length + items.length ≤ sizeLine →
    (∀ x ∈ items, ∃ z', setP p x z0 = some z' ∧ (∀ R : Bool → AH → Prop, R (g x) A → tt z' A R) ∧ (g x = true → ∀ R : D → AH → Prop, R (f x) A → te z' A R)) →
    Q (.ml (acc ++ (items.filter g).map fun x => frz (f x))) A → lcW p tt te z0 items acc A Q
  | [], acc, _, _, q => by simpa [lcW] using q
  | x :: xs, acc, hl, h, q => by
    obtain ⟨z', e, ht, hx⟩ := h x List.mem_cons_self
    simp only [List.length_cons] at hl
    refine ⟨z', e, ht _ ?_⟩
    cases hg : g x with
    | true =>
      rw [if_pos rfl]
      refine hx hg _ ⟨by omega, ?_⟩
      refine lc_filter g f xs _ (by rw [List.length_append, List.length_cons, List.length_nil]; omega) (fun y hy => h y (List.mem_cons_of_mem _ hy)) ?_
      simpa [List.filter_cons, hg] using q
    | false =>
      rw [if_neg (by simp)]
      refine lc_filter g f xs _ (by omega) (fun y hy => h y (List.mem_cons_of_mem _ hy)) ?_
      simpa [List.filter_cons, hg] using q
theorem signs_mem {x : Str} {d : D} (h : d ∈ signs x) : ∃ c, c ∈ x.cps.toList ∧ d = .str ⟨#[c]⟩ := by
  unfold signs at h
  obtain ⟨c, hc, rfl⟩ := List.mem_map.mp h
  exact ⟨c, hc, rfl⟩
/-- a sign is found where it stands -/
theorem find_sign (x : Str) (c : Nat) : Txt.find x ⟨#[c]⟩ < 0 ↔ c ∉ x.cps.toList := by
  have key : ∀ i : Nat, StrLaws.At x ⟨#[c]⟩ x.length i ↔ x.cps.toList[i]? = some c := fun i => by
    rw [← atS_iff]
    unfold atS
    have e1 : (⟨#[c]⟩ : Str).length = 1 := rfl
    have e2 : x.length = x.cps.toList.length := by simp [Str.length]
    rw [e1, e2]
    have e3 : ((i : Int) + ((1 : Nat) : Int) - (i : Int)).toNat = 1 := by omega
    have e4 : ((i : Int)).toNat = i := by omega
    rw [e3, e4]
    generalize x.cps.toList = l
    by_cases hi : i < l.length
    · rw [List.drop_eq_getElem_cons hi, List.getElem?_eq_getElem hi]
      have : ¬ ((l.length : Int) < (i : Int) + 1) := by omega
      generalize l.drop (i + 1) = t
      generalize l[i] = v
      simp [this]
    · rw [List.getElem?_eq_none (by omega)]
      have : ((l.length : Int) < (i : Int) + 1) := by omega
      simp [this]
  rcases find_whole x ⟨#[c]⟩ with ⟨e, h⟩ | ⟨i, e, h, _⟩
  · rw [e]
    refine ⟨fun _ hm => ?_, fun _ => by decide⟩
    obtain ⟨i, hi⟩ := List.mem_iff_getElem?.mp hm
    exact h i ((key i).mpr hi)
  · rw [e]
    refine ⟨fun h2 => by omega, fun hm => ?_⟩
    exact absurd (List.mem_iff_getElem?.mpr ⟨i, (key i).mp h⟩) hm
end T3
set_option autoImplicit false
namespace T3
open PySem PySem.Spec PyProof.Rows L2

/-! ### what the laws' texts share -/
theorem lim_of {n : Nat} (h : n ≤ 100000) : lim n = true := by
  have := sizeLine_eq
  unfold lim
  exact decide_eq_true (by omega)
theorem line_of {n : Nat} (h : n ≤ 100000) : n ≤ sizeLine := by
  have := sizeLine_eq
  omega
theorem str_append_length (x y : Str) : (x ++ y).length = x.length + y.length := by
  show (x.cps ++ y.cps).size = _
  rw [Array.size_append]; rfl
theorem one_length (c : Nat) : (⟨#[c]⟩ : Str).length = 1 := rfl
theorem atI_nat {α : Type} (xs : List α) (j : Nat) (h : j < xs.length) : L2.atI xs (j : Int) = some xs[j] := by
  unfold L2.atI
  rw [show L2.ixN xs.length (j : Int) = some j from by unfold L2.ixN; rw [if_pos (by omega), if_pos (by omega)]; simp]
  exact List.getElem?_eq_getElem h
theorem atI_int {α : Type} (xs : List α) (i : Int) (h0 : 0 ≤ i) (h : i < xs.length) : ∃ x, L2.atI xs i = some x ∧ x ∈ xs := by
  obtain ⟨j, rfl⟩ : ∃ j : Nat, i = j := ⟨i.toNat, by omega⟩
  exact ⟨_, atI_nat xs j (by omega), List.getElem_mem _⟩
/-- a text's sign at a remainder -/
theorem atI_mod (S : Str) (r : Int) (h : 0 < S.length) : ∃ c, L2.atI S.cps.toList (r % (S.length : Int)) = some c := by
  have e : S.cps.toList.length = S.length := by simp [Str.length]
  have h1 := Int.emod_nonneg r (show (S.length : Int) ≠ 0 by omega)
  have h2 := Int.emod_lt_of_pos r (show 0 < (S.length : Int) by omega)
  obtain ⟨c, hc, _⟩ := atI_int S.cps.toList (r % (S.length : Int)) h1 (by omega)
  exact ⟨c, hc⟩
theorem intsC_get {lo c : Int} {n i : Nat} {d : D} (h : (intsC lo c n)[i]? = some d) : i < n ∧ d = .int (lo + (i : Int) * c) := by
  have hl : i < n := by
    have := (List.getElem?_eq_some_iff.mp h).1
    simpa [intsC] using this
  refine ⟨hl, ?_⟩
  unfold intsC at h
  rw [List.getElem?_map, List.getElem?_range hl] at h
  cases h; rfl
theorem intsC_length (lo c : Int) (n : Nat) : (intsC lo c n).length = n := by simp [intsC]
theorem fIsi_str (T : String) (A : AH) (x : Str) : fIsi T A (.str x) = some (.bl (isT "str" T)) := rfl
theorem fIsi_int (T : String) (A : AH) (x : Int) : fIsi T A (.int x) = some (.bl (isT "int" T)) := rfl
theorem fIsi_bl (T : String) (A : AH) (x : Bool) : fIsi T A (.bl x) = some (.bl (isT "bool" T)) := rfl
theorem fIsi_tup (T : String) (A : AH) (x : List D) : fIsi T A (.tup x) = some (.bl (isT "tuple" T)) := rfl
theorem fIsi_lst (T : String) (A : AH) (x : List D) : fIsi T A (.lst x) = some (.bl (isT "list" T)) := rfl
theorem fIsi_non (T : String) (A : AH) : fIsi T A .non = some (.bl (isT "NoneType" T)) := rfl
@[simp] theorem own_script (ns : List Int) : own (script ns) = false := rfl
@[simp] theorem frz_script (ns : List Int) : frz (script ns) = script ns := rfl
@[simp] theorem vw_script (A : AH) (ns : List Int) : vw A (script ns) = script ns := rfl
theorem fMul_small {A : AH} {a b : Int} (h : big64 a = true ∨ big64 b = true) : fMul A (.int a) (.int b) = some (.int (a * b)) := by
  rw [fMul_int]
  rcases h with h | h <;> simp [h]
theorem big_of {a : Int} (h1 : -(2 ^ 64) < a) (h2 : a < 2 ^ 64) : big64 a = true := by
  unfold big64
  rw [decide_eq_true h1, decide_eq_true h2]; rfl
/-- a place between two statements where ways meet -/
theorem seq_mid {t u : TS3} {E : Ends3} {z : S3} {A : AH} (M : S3 → AH → Prop) (h : ∀ E' : Ends3, (∀ d A, E.rt d A → E'.rt d A) → (∀ z A, E.bk z A → E'.bk z A) → (∀ z A, E.ct z A → E'.ct z A) → (∀ z A, M z A → E'.nx z A) → t E' z A)
    (k : ∀ z A, M z A → u E z A) : sSeq t u E z A := h { E with nx := u E } (fun _ _ h => h) (fun _ _ h => h) (fun _ _ h => h) k
/-- cell_at(script, k) -/
def N_cell_at : List Str := ["_law_script", "_law_k"]
def b_cell_at : TS3 := sSeq (sIf (tV (T3.e2 fLt (eB 1) (fz (eN fLen (aCons (eB 0) (aNil)))))) (sSeq (sRet (T3.e2 fIx (eB 0) (eB 1))) (sNil)) (sNil)) (sSeq (sRet (eC (.int 0))) (sNil))
def sp_cell_at : Sp3 := fun ds A Q _ => ∃ ns k, ds = [script ns, .int k] ∧ 0 ≤ k ∧ ∀ c, Q (.int c) A
theorem m_cell_at (ds A Q) (h : sp_cell_at ds A Q (fun _ _ _ => False)) : b_cell_at { nx := fun _ A' => Q .non A', rt := Q } (start3 N_cell_at ds) A := by
  obtain ⟨ns, k, rfl, hk, q⟩ := h
  by_cases h : k < ns.length
  · obtain ⟨j, rfl⟩ : ∃ j : Nat, k = j := ⟨k.toNat, by omega⟩
    have hj : j < ns.length := by omega
    have e := atI_nat (ns.map D.int) j (by simpa using hj)
    simp [b_cell_at, start3, N_cell_at, script, h, e]
    exact q _
  · simp [b_cell_at, start3, N_cell_at, script, h]
    exact q 0
end T3
set_option autoImplicit false
namespace T3
open PySem PySem.Spec PyProof.Rows L2
def sayOk (c : Nat) : Bool := decide (32 ≤ c) && decide (c ≤ 126)
def isSaying : D → Bool
  | .str x => decide (1 ≤ x.length) && decide (x.length ≤ 60) && x.cps.toList.all sayOk
  | _ => false
/-- what the law asks about -/
def thing02 : D → Bool
  | .str x => decide (x.length ≤ 1000) | d => pok d
theorem thing_own {d : D} (h : thing02 d = true) : own d = false ∧ tyD (fun _ => none) d ≠ none := by
  cases d <;> simp [thing02, pok] at h <;> simp [tyD]
def sp_is_saying : Sp3 := fun ds A Q _ => ∃ d, ds = [d] ∧ thing02 d = true ∧ Q (.bl (isSaying d)) A
def sp_due : Sp3 := sp_is_saying
def sp_signs : Sp3 := fun ds A Q _ => ds = [] ∧ ∀ S : Str, 0 < S.length ∧ S.length ≤ 200 → Q (.str S) A
def sp_text : Sp3 := fun ds A Q _ => ∃ c m, ds = [.int c, .int m] ∧ (0 ≤ m ∧ m ≤ 100) ∧ ∀ x : Str, x.length ≤ 100 → Q (.str x) A
def sp_law : Sp3 := fun ds A Q _ => ∃ ns, ds = [script ns] ∧ ns.length ≤ 63 ∧ ∀ A, Q (.bl true) A
theorem law_true {ns : List Int} (hl : ns.length ≤ 63) {Q : D → AH → Prop} (hq : ∀ A, Q (.bl true) A) : sp_law [script ns] (fun _ => none) Q fun _ _ _ => False := ⟨ns, rfl, hl, hq⟩
/-- is_saying(thing); slots 0:thing 1:sign -/
def N_is_saying : List Str := ["thing", "sign"]
def b_is_saying : TS3 := sSeq (sIf (tOr3 (tNot3 (tV (e1 (fIsi "str") (eB 0)))) (tNot3 (tV (e3 fLe fLe (fz (eC (.int 1))) (fz (eN fLen (aCons (eB 0) (aNil)))) (fz (eC (.int 60))))))) (sSeq (sRet (eC (.bl false))) (sNil)) (sNil)) (sSeq (sRet (eN fAll (aCons (fz (eLc (iS (eV 0)) (.nm 1) (tYes3) (e3 fLe fLe (fz (eC (.int 32))) (fz (eN fOrd (aCons (eB 1) (aNil)))) (fz (eC (.int 126)))) [1])) (aNil)))) (sNil))
/-- signs(); slots 0:some -/
def N_signs : List Str := ["_law_some"]
def b_signs : TS3 := sSeq (sSet 0 (eC (.str " !#$&'()*+,-./0123456789:;<=>?@ABCDEFGHIJKLMNOPQRSTUVWXYZ[]^_abcdefghijklmnopqrstuvwxyz{|}~"))) (sSeq (sRet (e2 fAdd (fz (e2 fAdd (fz (e2 fAdd (eB 0) (fz (eC (.str "\""))))) (fz (eC (.str "\\"))))) (fz (eC (.str "`"))))) (sNil))
/-- text(cell, many); slots 0:cell 1:many 2:signs_here 3:text_here 4:rest 5:k 6:turn -/
def N_text : List Str := ["_law_cell", "_law_many", "_law_signs_here", "_law_text_here", "_law_rest", "_law_k", "_law_turn"]
def b_text : TS3 := sSeq (sSet 2 (fz (eCall sp_signs [] aNil))) (sSeq (sIf (tV (e2 fEq (fz (e2 fMod (eB 0) (fz (eC (.int 4))))) (fz (eC (.int 0))))) (sSeq (sSet 2 (fz (e2 fAdd (eB 2) (fz (e2 fMul (fz (eC (.str "\t\n"))) (fz (eC (.int 6)))))))) (sNil)) (sNil)) (sSeq (sSet 3 (eC (.str ""))) (sSeq (sSet 4 (e2 fFdiv (eB 0) (fz (eC (.int 4))))) (sSeq (sFor (iR1 (aCons (fz (eV 1)) (aNil))) (.nm 5) (sSeq (sSet 6 (e2 fMul (fz (e2 fMul (fz (eC (.int 31))) (eB 5))) (fz (e2 fFdiv (fz (e2 fMod (eB 0) (fz (eC (.int 4))))) (fz (eC (.int 2))))))) (sSeq (sSet 3 (fz (e2 fAdd (eB 3) (fz (e2 fIx (eB 2) (fz (e2 fMod (fz (e2 fAdd (eB 4) (eB 6))) (fz (eN fLen (aCons (eB 2) (aNil))))))))))) (sSeq (sSet 4 (e2 fFdiv (eB 4) (fz (eN fLen (aCons (eB 2) (aNil)))))) (sNil))))) (sSeq (sRetV 3) (sNil))))))
/-- due(thing); slots 0:thing 1:sign -/
def N_due : List Str := ["_law_thing", "_law_sign"]
def b_due : TS3 := sSeq (sIf (tOr3 (tNot3 (tV (e1 (fIsi "str") (eB 0)))) (tOr3 (tV (e2 fLt (fz (eN fLen (aCons (eB 0) (aNil)))) (fz (eC (.int 1))))) (tV (e2 fGt (fz (eN fLen (aCons (eB 0) (aNil)))) (fz (eC (.int 60))))))) (sSeq (sRet (eC (.bl false))) (sNil)) (sNil)) (sSeq (sRet (e2 fEq (fz (eLc (iS (eV 0)) (.nm 1) (tOr3 (tV (e2 fLt (fz (eN fOrd (aCons (eB 1) (aNil)))) (fz (eC (.int 32))))) (tV (e2 fGt (fz (eN fOrd (aCons (eB 1) (aNil)))) (fz (eC (.int 126)))))) (eV 1) [1])) (fz (eLst (aNil))))) (sNil))
/-- law(script); slots 0:script 1:k 2:more 3:many 4:text_here 5:some 6:thing 7:told -/
def N_law : List Str := ["_law_script", "_law_k", "_law_more", "_law_many", "_law_text_here", "_law_some", "_law_thing", "_law_told"]
def b_law : TS3 := sSeq (sFor (iR3 (aCons (fz (eC (.int 0))) (aCons (fz (eC (.int 24))) (aCons (fz (eC (.int 2))) (aNil))))) (.nm 1) (sSeq (sSet 2 (fz (eCall sp_cell_at [] (aCons (fz (eV 0)) (aCons (fz (e2 fAdd (eB 1) (fz (eC (.int 1))))) (aNil)))))) (sSeq (sSet 3 (e2 fIx (fz (eLst (aCons (fz (e2 fMod (fz (e2 fFdiv (eB 2) (fz (eC (.int 3))))) (fz (eC (.int 63))))) (aCons (fz (e2 fAdd (fz (eC (.int 59))) (fz (e2 fMod (fz (e2 fFdiv (eB 2) (fz (eC (.int 3))))) (fz (eC (.int 4))))))) (aCons (fz (e2 fMod (fz (e2 fFdiv (eB 2) (fz (eC (.int 3))))) (fz (eC (.int 8))))) (aNil)))))) (fz (e2 fMod (eB 2) (fz (eC (.int 3))))))) (sSeq (sSet 4 (fz (eCall sp_text [] (aCons (fz (eCall sp_cell_at [] (aCons (fz (eV 0)) (aCons (fz (eV 1)) (aNil))))) (aCons (fz (eV 3)) (aNil)))))) (sSeq (sSet 5 (fz (eLst (aCons (fz (eV 4)) (aCons (fz (e2 fAdd (eB 4) (fz (eC (.str " "))))) (aCons (fz (e2 fAdd (eB 4) (fz (eC (.str "~"))))) (aCons (fz (eSl (eB 4) (oAt (eC (.int 1))) (oNo))) (aCons (fz (e2 fAdd (eB 4) (fz (eC (.str "\n"))))) (aNil))))))))) (sSeq (sFor (iS (e2 fAdd (eB 5) (fz (eLst (aCons (fz (e2 fAdd (fz (eC (.str "\t"))) (eB 4))) (aNil)))))) (.nm 6) (sSeq (sSet 7 (fz (eCall sp_is_saying [] (aCons (fz (eV 6)) (aNil))))) (sSeq (sIf (tOr3 (tNot3 (tV (e1 (fIsi "bool") (eB 7)))) (tV (e2 fNe (eB 7) (fz (eCall sp_due [] (aCons (fz (eV 6)) (aNil))))))) (sSeq (sRet (eC (.bl false))) (sNil)) (sNil)) (sNil)))) (sSeq (sFor (iS (eLst (aCons (fz (eLst (aCons (fz (eV 4)) (aNil)))) (aCons (fz (eTup (aCons (fz (eV 4)) (aNil)))) (aCons (fz (eC .non)) (aCons (fz (eC (.int 5))) (aCons (fz (eC (.bl true))) (aCons (fz (eTup (aNil))) (aCons (fz (eLst (aNil))) (aCons (fz (eLst (aCons (fz (eV 4)) (aCons (fz (eV 4)) (aNil))))) (aCons (fz (e1 fNeg (fz (eC (.int 7))))) (aCons (fz (eTup (aCons (fz (eC (.int 1))) (aCons (fz (eV 4)) (aNil))))) (aNil))))))))))))) (.nm 6) (sSeq (sIf (tV (e2 fNotB (fz (eCall sp_is_saying [] (aCons (fz (eV 6)) (aNil)))) (fz (eC (.bl false))))) (sSeq (sRet (eC (.bl false))) (sNil)) (sNil)) (sNil))) (sNil)))))))) (sSeq (sRet (eC (.bl true))) (sNil))
end T3
set_option autoImplicit false
namespace T3
open PySem PySem.Spec PyProof.Rows L2
theorem isSaying_str (x : Str) : isSaying (.str x) = (decide (1 ≤ x.length) && decide (x.length ≤ 60) && x.cps.toList.all sayOk) := rfl
theorem not_saying {d : D} (h : thing02 d = true) (hn : ∀ x, d ≠ .str x) : isSaying d = false ∧ ∀ A, fIsi "str" A d = some (.bl false) := by
  cases d <;> first | exact absurd rfl (hn _) | exact ⟨rfl, fun _ => rfl⟩ | simp [thing02, pok] at h
theorem fOrd_sign (A : AH) (c : Nat) : fOrd A [.str ⟨#[c]⟩] = some (.int c) := rfl
theorem signs_all (x : Str) (g : Nat → Bool) : (signs x).map (fun d => frz (match d with | .str y => .bl (g (y.cps.getD 0 0)) | d => d)) = (x.cps.toList.map g).map .bl := by
  unfold signs
  rw [List.map_map, List.map_map]
  apply List.map_congr_left
  intro c _
  simp
theorem signs_short {x : Str} (h : x.length ≤ 1000) : ([] : List D).length + (signs x).length ≤ sizeLine := by
  rw [signs_length]
  have e : x.cps.size = x.length := rfl
  have := sizeLine_eq
  rw [e]; simp; omega
theorem m_is_saying (ds A Q) (h : sp_is_saying ds A Q (fun _ _ _ => False)) : b_is_saying { nx := fun _ A' => Q .non A', rt := Q } (start3 N_is_saying ds) A := by
  obtain ⟨d, rfl, hd, q⟩ := h
  by_cases hs : ∃ x, d = .str x
  · obtain ⟨x, rfl⟩ := hs
    have hx : x.length ≤ 1000 := by simpa [thing02] using hd
    have hl : lim x.length = true := lim_of (by omega)
    rw [isSaying_str] at q
    by_cases h1 : 1 ≤ x.length
    · have e1 : (1 : Int) ≤ x.length := by omega
      by_cases h2 : x.length ≤ 60
      · have e2 : (x.length : Int) ≤ 60 := by omega
        rw [decide_eq_true h1, decide_eq_true h2, Bool.true_and, Bool.true_and] at q
        simp [b_is_saying, start3, N_is_saying, fIsi_str, hl, e1, e2]
        refine lc_map (fun d => match d with | .str y => .bl (sayOk (y.cps.getD 0 0)) | d => d) (signs x) [] (signs_short hx) (fun y hy => ?_) ?_
        · obtain ⟨c, hc, rfl⟩ := signs_mem hy
          refine ⟨_, rfl, fun R r => ?_⟩
          by_cases hc1 : 32 ≤ c
          · have e3 : (32 : Int) ≤ c := by omega
            simp [fOrd_sign, e3]
            simp [sayOk, hc1] at r
            rw [show decide ((c : Int) ≤ 126) = decide (c ≤ 126) from decide_eq_decide.mpr (by omega)]
            exact r
          · have e3 : ¬ (32 : Int) ≤ c := by omega
            simp [fOrd_sign, e3]
            simp [sayOk, hc1] at r
            exact r
        · rw [List.nil_append, signs_all x sayOk]
          simp
          simp at q
          exact q
      · have e2 : ¬ (x.length : Int) ≤ 60 := by omega
        rw [decide_eq_false h2, Bool.and_false, Bool.false_and] at q
        simp [b_is_saying, start3, N_is_saying, fIsi_str, hl, e1, e2]
        exact q
    · have e1 : ¬ (1 : Int) ≤ x.length := by omega
      rw [decide_eq_false h1, Bool.false_and, Bool.false_and] at q
      simp [b_is_saying, start3, N_is_saying, fIsi_str, hl, e1]
      exact q
  · obtain ⟨e1, e2⟩ := not_saying hd fun x e => hs ⟨x, e⟩
    rw [e1] at q
    simp only [b_is_saying, start3, N_is_saying]
    simp [frz_of (thing_own hd).1, e2]
    exact q
theorem fEq_lst (A : AH) (xs : List D) (h : poks xs = true) : fEq A (.lst xs) (.lst []) = some (.bl (decide (xs = []))) := by
  have e : eqD (.lst xs) (.lst []) = decide (xs = []) := by
    unfold eqD
    rw [pd, pd, PyData.eqv]
    cases xs <;> simp [pds, PyData.eqvAll]
  simp [fEq, okEq, pok, h, poks, dep, deps, e]
theorem signs_poks (x : Str) (g : D → Bool) : poks ((signs x).filter g) = true := by
  have : ∀ l : List D, (∀ d ∈ l, pok d = true) → poks l = true := by
    intro l
    induction l with
    | nil => intro _; rfl
    | cons a l ih => intro h; rw [poks, h a List.mem_cons_self, ih fun d hd => h d (List.mem_cons_of_mem _ hd)]; rfl
  refine this _ fun d hd => ?_
  obtain ⟨c, _, rfl⟩ := signs_mem (List.mem_filter.mp hd).1
  rfl
theorem m_due (ds A Q) (h : sp_due ds A Q (fun _ _ _ => False)) : b_due { nx := fun _ A' => Q .non A', rt := Q } (start3 N_due ds) A := by
  obtain ⟨d, rfl, hd, q⟩ := h
  by_cases hs : ∃ x, d = .str x
  · obtain ⟨x, rfl⟩ := hs
    have hx : x.length ≤ 1000 := by simpa [thing02] using hd
    have hl : lim x.length = true := lim_of (by omega)
    rw [isSaying_str] at q
    by_cases h1 : 1 ≤ x.length
    · have e1 : ¬ ((x.length : Int) < 1) := by omega
      by_cases h2 : x.length ≤ 60
      · have e2 : ¬ (60 < (x.length : Int)) := by omega
        rw [decide_eq_true h1, decide_eq_true h2, Bool.true_and, Bool.true_and] at q
        simp [b_due, start3, N_due, fIsi_str, hl, e1, e2]
        refine lc_filter (fun d => match d with | .str y => !sayOk (y.cps.getD 0 0) | d => false) id (signs x) [] (signs_short hx) (fun y hy => ?_) ?_
        · obtain ⟨c, hc, rfl⟩ := signs_mem hy
          refine ⟨_, rfl, fun R r => ?_, fun _ R r => ?_⟩
          · by_cases hc1 : 32 ≤ c
            · have e3 : ¬ (c : Int) < 32 := by omega
              by_cases hc2 : 126 < c
              · have e4 : (126 : Int) < c := by omega
                have e5 : sayOk c = false := by simp [sayOk, hc2]
                simp [fOrd_sign, e3, e4]
                simpa [e5] using r
              · have e4 : ¬ (126 : Int) < c := by omega
                have e5 : sayOk c = true := by simp [sayOk, hc1]; omega
                simp [fOrd_sign, e3, e4]
                simpa [e5] using r
            · have e3 : (c : Int) < 32 := by omega
              simp [fOrd_sign, e3]
              simp [sayOk, hc1] at r
              exact r
          · simp
            exact r
        · generalize hg : (fun d : D => match d with | .str y => !sayOk (y.cps.getD 0 0) | d => false) = g
          have e5 : ((signs x).filter g).map (fun d => frz (id d)) = (signs x).filter g := by
            conv => rhs; rw [← List.map_id ((signs x).filter g)]
            apply List.map_congr_left
            intro d hd
            obtain ⟨c, _, rfl⟩ := signs_mem (List.mem_filter.mp hd).1
            rfl
          rw [List.nil_append, e5]
          simp [fEq_lst _ _ (signs_poks x g)]
          have e6 : decide ((signs x).filter g = []) = x.cps.toList.all sayOk := by
            rw [Bool.eq_iff_iff, decide_eq_true_iff, List.filter_eq_nil_iff, List.all_eq_true]
            constructor
            · intro h c hc
              have := h (.str ⟨#[c]⟩) (List.mem_map.mpr ⟨c, hc, rfl⟩)
              rw [← hg] at this
              simpa using this
            · intro h d hd
              obtain ⟨c, hc, rfl⟩ := signs_mem hd
              rw [← hg]
              simpa using h c hc
          have e7 : (∀ a ∈ signs x, g a = false) = ((signs x).filter g = []) := by simp
          first | (rw [e6]; exact q) | (simp only [e7]; rw [e6]; exact q) | skip
      · have e2 : (60 < (x.length : Int)) := by omega
        rw [decide_eq_false h2, Bool.and_false, Bool.false_and] at q
        simp [b_due, start3, N_due, fIsi_str, hl, e1, e2]
        exact q
    · have e1 : (x.length : Int) < 1 := by omega
      rw [decide_eq_false h1, Bool.false_and, Bool.false_and] at q
      simp [b_due, start3, N_due, fIsi_str, hl, e1]
      exact q
  · obtain ⟨e1, e2⟩ := not_saying hd fun x e => hs ⟨x, e⟩
    rw [e1] at q
    simp only [b_due, start3, N_due]
    simp [frz_of (thing_own hd).1, e2]
    exact q
def chars02 : Str := " !#$&'()*+,-./0123456789:;<=>?@ABCDEFGHIJKLMNOPQRSTUVWXYZ[]^_abcdefghijklmnopqrstuvwxyz{|}~"
theorem chars02_length : chars02.length = 91 := by decide +kernel
theorem m_signs (ds A Q) (h : sp_signs ds A Q (fun _ _ _ => False)) : b_signs { nx := fun _ A' => Q .non A', rt := Q } (start3 N_signs ds) A := by
  obtain ⟨rfl, q⟩ := h
  have hc := chars02_length
  have l1 : ("\"" : Str).length = 1 := by decide +kernel
  have l2 : ("\\" : Str).length = 1 := by decide +kernel
  have l3 : ("`" : Str).length = 1 := by decide +kernel
  have ln : ∀ n, n ≤ 200 → lim n = true := fun n hn => lim_of (by omega)
  unfold chars02 at hc
  simp [b_signs, start3, N_signs, str_append_length, hc, l1, l2, l3, ln]
  exact q _ (by rw [str_append_length, str_append_length, str_append_length, hc, l1, l2, l3]; omega)
theorem m_text (ds A Q) (h : sp_text ds A Q (fun _ _ _ => False)) : b_text { nx := fun _ A' => Q .non A', rt := Q } (start3 N_text ds) A := by
  obtain ⟨c, m, rfl, hm, q⟩ := h
  have h62 : small62 m := ⟨by omega, by omega⟩
  simp only [b_text, start3, N_text]
  rw [ap_sSeq, ap_sSet, ap_fz, ap_eCall, ap_aNil]
  refine ⟨rfl, fun S0 hS0 => ?_⟩
  simp only [frz_str]
  refine seq_mid (fun z A' => A' = A ∧ ∃ S : Str, 0 < S.length ∧ S.length ≤ 300 ∧ z = [some (.int c), some (.int m), some (.str S), none, none, none, none]) (fun E' hr _ _ hn => ?_) ?_
  · have lt : ("\t\n" : Str).length = 2 := by decide +kernel
    have hm6 : fMul A (.str "\t\n") (.int 6) = some (.str (repS "\t\n" 6)) := rfl
    have lr : (repS "\t\n" 6).length = 12 := by decide +kernel
    have hl2 : lim (S0.length + 12) = true := lim_of (by omega)
    by_cases h0 : c % 4 = 0
    · simp [h0, hm6, lr, hl2]
      exact hn _ _ ⟨rfl, _, by rw [str_append_length, lr]; omega, by rw [str_append_length, lr]; omega, rfl⟩
    · simp [h0]
      exact hn _ _ ⟨rfl, S0, hS0.1, by omega, rfl⟩
  · rintro z A1 ⟨rfl, S, hS, hS2, rfl⟩
    have hlS : lim S.length = true := lim_of (by omega)
    have l0 : ("" : Str).length = 0 := by decide +kernel
    simp [h62]
    refine for_inv (fun i z A' => A' = A1 ∧ ∃ x : Str, ∃ r : Int, ∃ o o', x.length = i ∧ z = [some (.int c), some (.int m), some (.str S), some (.str x), some (.int r), o, o']) ⟨rfl, _, _, _, _, l0, rfl⟩ ?_ ?_
    · rintro i y hy z A1 ⟨rfl, x, r, o, o', hx, rfl⟩
      obtain ⟨hi, rfl⟩ := rng_get hy
      refine ⟨_, rfl, fun E' hr hb hn hc => ?_⟩
      obtain ⟨g, hg⟩ := atI_mod S (r + 31 * (i : Int) * (c % 4 / 2)) hS
      have hpos : (0 : Int) < S.length := by omega
      have h64 : (S.length : Int) < 18446744073709551616 := by omega
      have h1 : fMul A1 (.int 31) (.int i) = some (.int (31 * i)) := fMul_small (.inl (by decide))
      have h2 : fMul A1 (.int (31 * i)) (.int (c % 4 / 2)) = some (.int (31 * i * (c % 4 / 2))) := fMul_small (.inr (big_of (by omega) (by omega)))
      have hlx : lim (x.length + 1) = true := lim_of (by omega)
      simp [h1, h2, hlS, hS, hg, one_length, hlx, h64]
      refine hn _ _ ⟨rfl, _, _, _, _, ?_, rfl⟩
      rw [str_append_length, hx]; rfl
    · rintro z A1 ⟨rfl, x, r, o, o', hx, rfl⟩
      simp
      refine q x ?_
      rw [hx, rng_length]
      omega
theorem cut1 (x : Str) : (cutS x (some 1) none).length ≤ x.length := by
  unfold cutS
  have e : x.cps.toList.length = x.length := by simp [Str.length]
  generalize HT.sIx x.length 0 (some 1) = a
  generalize HT.sIx x.length x.length none = b
  simp [Str.length]
  omega
theorem m_law (ds A Q) (h : sp_law ds A Q (fun _ _ _ => False)) : b_law { nx := fun _ A' => Q .non A', rt := Q } (start3 N_law ds) A := by
  obtain ⟨ns, rfl, hn, q⟩ := h
  have hr : RgC 0 24 2 12 := by unfold RgC; decide +kernel
  simp only [b_law, start3, N_law, ap_sSeq, ap_sFor]
  refine ⟨0, 24, 2, 12, rfl, hr, ?_⟩
  refine for_inv (fun i z A' => ∃ o1 o2 o3 o4 o5 o6 o7, z = [some (script ns), o1, o2, o3, o4, o5, o6, o7]) ⟨_, _, _, _, _, _, _, rfl⟩ ?_ ?_
  · rintro i y hy z A1 ⟨o1, o2, o3, o4, o5, o6, o7, rfl⟩
    obtain ⟨hi, rfl⟩ := intsC_get hy
    refine ⟨_, rfl, fun E' hr hb hn hc => ?_⟩
    have hz : (13 : Nat) ≤ sizeLine := line_of (by omega)
    simp
    refine ⟨ns, _, rfl, by omega, fun more => ?_⟩
    simp
    obtain ⟨m, hm, hm1⟩ := atI_int [D.int (more / 3 % 63), D.int (59 + more / 3 % 4), D.int (more / 3 % 8)] (more % 3) (by omega) (by simp; omega)
    obtain ⟨mi, rfl, hmi⟩ : ∃ mi, m = .int mi ∧ 0 ≤ mi ∧ mi ≤ 63 := by
      simp at hm1
      rcases hm1 with h | h | h <;> exact ⟨_, h, by omega, by omega⟩
    refine ⟨by omega, _, hm, ns, _, rfl, by omega, fun c1 => ?_⟩
    simp
    refine ⟨c1, mi, rfl, by omega, fun x hx => ?_⟩
    have l1 : (" " : Str).length = 1 := by decide +kernel
    have l2 : ("~" : Str).length = 1 := by decide +kernel
    have l3 : ("\n" : Str).length = 1 := by decide +kernel
    have l4 : ("\t" : Str).length = 1 := by decide +kernel
    have hl1 : lim (x.length + 1) = true := lim_of (by omega)
    have hl2 : lim (1 + x.length) = true := lim_of (by omega)
    have hl : lim x.length = true := lim_of (by omega)
    have hl6 : lim 6 = true := lim_of (by omega)
    simp [l1, l2, l3, l4, hl1, hl2, hl, hl6]
    refine ⟨by omega, by omega, ?_⟩
    refine for_inv (fun i z A' => ∃ o2 o3 o4 o5 o6, z = [some (script ns), o2, o3, o4, some (.str x), o5, o6.1, o6.2]) ⟨_, _, _, _, (_, _), rfl⟩ ?_ ?_
    · rintro j y hy z A2 ⟨o2, o3, o4, o5, ⟨o6, o7⟩, rfl⟩
      have hm := List.mem_of_getElem? hy
      have hy1 : thing02 y = true := by
        have hc1 := cut1 x
        have k1 := str_append_length x (Str.ofString " ")
        have k2 := str_append_length x (Str.ofString "~")
        have k3 := str_append_length x (Str.ofString "\n")
        have k4 := str_append_length (Str.ofString "\t") x
        simp only [List.mem_cons, List.not_mem_nil, or_false] at hm
        rcases hm with h | h | h | h | h | h <;> subst h <;> simp [thing02] <;> omega
      have ho := (thing_own hy1).1
      refine ⟨_, rfl, fun E2 hr2 hb2 hn2 hc2 => ?_⟩
      simp [ho, frz_of ho]
      refine ⟨_, rfl, hy1, ?_⟩
      simp [fIsi_bl]
      refine ⟨_, rfl, hy1, ?_⟩
      simp
      exact hn2 _ _ ⟨_, _, _, _, (_, _), rfl⟩
    · rintro z A2 ⟨o2, o3, o4, o5, ⟨o6, o7⟩, rfl⟩
      have z1 : (1 : Nat) ≤ sizeLine := by omega
      have z2 : (2 : Nat) ≤ sizeLine := by omega
      have z3 : (10 : Nat) ≤ sizeLine := by omega
      simp [z1, z2, z3]
      refine for_inv (fun i z A' => ∃ o2 o3 o4 o5 o6, z = [some (script ns), o2, o3, o4, some (.str x), o5, o6.1, o6.2]) ⟨_, _, _, _, (_, _), rfl⟩ ?_ ?_
      · rintro j y hy z A2 ⟨o2, o3, o4, o5, ⟨o6, o7⟩, rfl⟩
        have hm := List.mem_of_getElem? hy
        have hy1 : thing02 y = true ∧ isSaying y = false := by
          simp only [List.mem_cons, List.not_mem_nil, or_false] at hm
          rcases hm with h | h | h | h | h | h | h | h | h | h <;> subst h <;> exact ⟨rfl, rfl⟩
        have ho := (thing_own hy1.1).1
        refine ⟨_, rfl, fun E2 hr2 hb2 hn2 hc2 => ?_⟩
        simp [ho, frz_of ho]
        refine ⟨_, rfl, hy1.1, ?_⟩
        simp [hy1.2]
        exact hn2 _ _ ⟨_, _, _, _, (_, _), rfl⟩
      · rintro z A2 ⟨o2, o3, o4, o5, ⟨o6, o7⟩, rfl⟩
        simp
        exact hn _ _ ⟨_, _, _, _, _, _, _, rfl⟩
  · rintro z A1 ⟨o1, o2, o3, o4, o5, o6, o7, rfl⟩
    simp
    exact q A1
end T3
set_option autoImplicit false
namespace T3
open PySem PySem.Spec PyProof.Rows L2
def topS (i : Nat) : Stmt := PySem.Challenge.pw_talkmarks_k02_what_is_a_saying.main.body.getD i (.Pass ⟨0, 0, 0, 0⟩)
structure Txt (mg : Str → Option Value) : Prop where
  b_all : mg "all" = none
  b_bool : mg "bool" = none
  b_isinstance : mg "isinstance" = none
  b_len : mg "len" = none
  b_ord : mg "ord" = none
  b_range : mg "range" = none
  b_str : mg "str" = none
  c0_FIRST_SIGN : ∃ t, mg "FIRST_SIGN" = some (.int 32 t)
  c0_LAST_SIGN : ∃ t, mg "LAST_SIGN" = some (.int 126 t)
  c0_MOST_SIGNS : ∃ t, mg "MOST_SIGNS" = some (.int 60 t)
section
variable {P : Program} {w : World} {K : PySem.W.Frag} {mg : Str → Option Value} {base : Heap}
abbrev s_is_saying : Stmt := topS 4
theorem l_is_saying (ds A Q E) (h : sp_is_saying ds A Q E) : ds.length = (["thing"] : List Str).length := by first | (obtain ⟨rfl, _⟩ := h; rfl) | (obtain ⟨_, rfl, _⟩ := h; rfl) | (obtain ⟨_, _, rfl, _⟩ := h; rfl) | (obtain ⟨_, _, _, rfl, _⟩ := h; rfl) | (obtain ⟨_, _, _, _, rfl, _⟩ := h; rfl) | (obtain ⟨_, _, _, _, _, rfl, _⟩ := h; rfl) | (obtain ⟨_, _, _, _, _, _, rfl, _⟩ := h; rfl)
theorem sc_is_saying : FnScope N_is_saying ["thing"] (defScope s_is_saying) := ⟨rfl, rfl, rfl, by decide +kernel, rfl, by decide +kernel, by decide +kernel⟩
theorem ok_is_saying {f : Addr} {fd : FuncData} (F : Fun K "is_saying" "is_saying" s_is_saying f fd) (T : Txt mg) : FnOk P w K mg base CX0 1 f fd ["thing"] (lsp K w sp_is_saying) := by
  refine fn3 (t := b_is_saying) F sc_is_saying l_is_saying (fun cdv A outer s H E C hr => ?_) m_is_saying
  have hu := hr.units
  exact pss3_cons (ps3_if (PW.pt (pw3_or (pt3_not (pt3_val (pe3_isi (n := "str") rfl T.b_isinstance rfl T.b_str (by decide +kernel) (by decide) (pb3_v (pv 0))))) (pw3_or1 (pt3_not (pt3_chain (op_leP hu) (op_leP hu) o_le o_le (pb3 (pe3_int)) (pb3 (pe3_callB call_lenA o_len rfl T.b_len (by decide +kernel) (pab3_cons (pb3_v (pv 0)) (pab3_nil)))) (pb3 (pe3_giE rfl T.c0_MOST_SIGNS))))))) (pss3_cons (ps3_ret (pe3_bl)) (pss3_nil)) (pss3_nil)) (pss3_cons (ps3_ret (pe3_callB (cr_all rfl) o_all rfl T.b_all (by decide +kernel) (pab3_cons (pb3 (pe3_lc (own := [("sign", 1)]) (p := .nm 1) rfl sc_is_saying.nd (pi3_s (pe3_v (pv 0))) (blkOk_by (N := N_is_saying) (sc := defScope s_is_saying) (by decide +kernel)) (by decide) (fun _ _ _ _ _ => pg_name (i := 1) sc_is_saying.nd rfl (by first | exact Or.inl rfl | exact Or.inr rfl)) (fun _ _ _ _ _ _ => pts3_nil) (fun _ _ _ _ _ _ => pe3_chain (op_leP hu) (op_leP hu) o_le o_le (pb3 (pe3_giE rfl T.c0_FIRST_SIGN)) (pb3 (pe3_callB call_ord o_ordN rfl T.b_ord (by decide +kernel) (pab3_cons (pb3_v (pv 1)) (pab3_nil)))) (pb3 (pe3_giE rfl T.c0_LAST_SIGN))))) (pab3_nil)))) (pss3_nil))
abbrev s_cell_at : Stmt := topS 6
theorem l_cell_at (ds A Q E) (h : sp_cell_at ds A Q E) : ds.length = (["_law_script", "_law_k"] : List Str).length := by first | (obtain ⟨rfl, _⟩ := h; rfl) | (obtain ⟨_, rfl, _⟩ := h; rfl) | (obtain ⟨_, _, rfl, _⟩ := h; rfl) | (obtain ⟨_, _, _, rfl, _⟩ := h; rfl) | (obtain ⟨_, _, _, _, rfl, _⟩ := h; rfl) | (obtain ⟨_, _, _, _, _, rfl, _⟩ := h; rfl) | (obtain ⟨_, _, _, _, _, _, rfl, _⟩ := h; rfl)
theorem sc_cell_at : FnScope N_cell_at ["_law_script", "_law_k"] (defScope s_cell_at) := ⟨rfl, rfl, rfl, by decide +kernel, rfl, by decide +kernel, by decide +kernel⟩
theorem ok_cell_at {f : Addr} {fd : FuncData} (F : Fun K "_law_cell_at" "_law_cell_at" s_cell_at f fd) (T : Txt mg) : FnOk P w K mg base CX0 1 f fd ["_law_script", "_law_k"] (lsp K w sp_cell_at) := by
  refine fn3 (t := b_cell_at) F sc_cell_at l_cell_at (fun cdv A outer s H E C hr => ?_) m_cell_at
  have hu := hr.units
  exact pss3_cons (ps3_if (pt3_cmp (op_ltP hu) o_lt (pb3_v (pv 1)) (pb3 (pe3_callB call_lenA o_len rfl T.b_len (by decide +kernel) (pab3_cons (pb3_v (pv 0)) (pab3_nil)))) (nomark _)) (pss3_cons (ps3_ret (pe3_ix ix_seq o_ix (pb3_v (pv 0)) (pb3_v (pv 1)) (fun _ _ => rfl))) (pss3_nil)) (pss3_nil)) (pss3_cons (ps3_ret (pe3_int)) (pss3_nil))
abbrev s_signs : Stmt := topS 7
theorem l_signs (ds A Q E) (h : sp_signs ds A Q E) : ds.length = ([] : List Str).length := by first | (obtain ⟨rfl, _⟩ := h; rfl) | (obtain ⟨_, rfl, _⟩ := h; rfl) | (obtain ⟨_, _, rfl, _⟩ := h; rfl) | (obtain ⟨_, _, _, rfl, _⟩ := h; rfl) | (obtain ⟨_, _, _, _, rfl, _⟩ := h; rfl) | (obtain ⟨_, _, _, _, _, rfl, _⟩ := h; rfl) | (obtain ⟨_, _, _, _, _, _, rfl, _⟩ := h; rfl)
theorem sc_signs : FnScope N_signs [] (defScope s_signs) := ⟨rfl, rfl, rfl, by decide +kernel, rfl, by decide +kernel, by decide +kernel⟩
theorem ok_signs {f : Addr} {fd : FuncData} (F : Fun K "_law_signs" "_law_signs" s_signs f fd) (T : Txt mg) : FnOk P w K mg base CX0 1 f fd [] (lsp K w sp_signs) := by
  refine fn3 (t := b_signs) F sc_signs l_signs (fun cdv A outer s H E C hr => ?_) m_signs
  have hu := hr.units
  exact pss3_cons (ps3_set (i := 0) sc_signs.nd rfl (by first | exact Or.inl rfl | exact Or.inr rfl) (pe3_str)) (pss3_cons (ps3_ret (pe3_op op_addA o_add (pb3 (pe3_op op_addA o_add (pb3 (pe3_op op_addA o_add (pb3_v (pv 0)) (pb3 (pe3_str)))) (pb3 (pe3_str)))) (pb3 (pe3_str)))) (pss3_nil))
abbrev s_text : Stmt := topS 8
theorem l_text (ds A Q E) (h : sp_text ds A Q E) : ds.length = (["_law_cell", "_law_many"] : List Str).length := by first | (obtain ⟨rfl, _⟩ := h; rfl) | (obtain ⟨_, rfl, _⟩ := h; rfl) | (obtain ⟨_, _, rfl, _⟩ := h; rfl) | (obtain ⟨_, _, _, rfl, _⟩ := h; rfl) | (obtain ⟨_, _, _, _, rfl, _⟩ := h; rfl) | (obtain ⟨_, _, _, _, _, rfl, _⟩ := h; rfl) | (obtain ⟨_, _, _, _, _, _, rfl, _⟩ := h; rfl)
theorem sc_text : FnScope N_text ["_law_cell", "_law_many"] (defScope s_text) := ⟨rfl, rfl, rfl, by decide +kernel, rfl, by decide +kernel, by decide +kernel⟩
theorem ok_text {f : Addr} {fd : FuncData} (F : Fun K "_law_text" "_law_text" s_text f fd) (T : Txt mg) (G_signs : Def3 P w K mg base "_law_signs" 1 [] sp_signs) : FnOk P w K mg base CX0 2 f fd ["_law_cell", "_law_many"] (lsp K w sp_text) := by
  refine fn3 (t := b_text) F sc_text l_text (fun cdv A outer s H E C hr => ?_) m_text
  have hu := hr.units
  exact pss3_cons (ps3_set (i := 2) sc_text.nd rfl (by first | exact Or.inl rfl | exact Or.inr rfl) (pe3_fz (pe3_def0 G_signs (hr.mono (by decide)) rfl))) (pss3_cons (ps3_if (pt3_cmp (op_eqP hu) o_eq (pb3 (pe3_op op_mod o_mod (pb3_v (pv 0)) (pb3 (pe3_int)))) (pb3 (pe3_int)) (nomark _)) (pss3_cons (ps3_set (i := 2) sc_text.nd rfl (by first | exact Or.inl rfl | exact Or.inr rfl) (pe3_fz (pe3_op op_addA o_add (pb3_v (pv 2)) (pb3 (pe3_op op_mulA o_mul (pb3 (pe3_str)) (pb3 (pe3_int))))))) (pss3_nil)) (pss3_nil)) (pss3_cons (ps3_set (i := 3) sc_text.nd rfl (by first | exact Or.inl rfl | exact Or.inr rfl) (pe3_str)) (pss3_cons (ps3_set (i := 4) sc_text.nd rfl (by first | exact Or.inl rfl | exact Or.inr rfl) (pe3_op op_fdivW o_fdiv (pb3_v (pv 0)) (pb3 (pe3_int)))) (pss3_cons (ps3_for (p := .nm 5) PassesOwn.never rfl (pi3_range1 rfl T.b_range (pa3_cons (pe3_v (pv 1)) (pa3_nil))) (pg_name (i := 5) sc_text.nd rfl (by first | exact Or.inl rfl | exact Or.inr rfl)) (pss3_cons (ps3_set (i := 6) sc_text.nd rfl (by first | exact Or.inl rfl | exact Or.inr rfl) (pe3_op op_mulA o_mul (pb3 (pe3_op op_mulA o_mul (pb3 (pe3_int)) (pb3_v (pv 5)))) (pb3 (pe3_op op_fdivW o_fdiv (pb3 (pe3_op op_mod o_mod (pb3_v (pv 0)) (pb3 (pe3_int)))) (pb3 (pe3_int)))))) (pss3_cons (ps3_set (i := 3) sc_text.nd rfl (by first | exact Or.inl rfl | exact Or.inr rfl) (pe3_fz (pe3_op op_addA o_add (pb3_v (pv 3)) (pb3 (pe3_ix ix_seq o_ix (pb3_v (pv 2)) (pb3 (pe3_op op_mod o_mod (pb3 (pe3_op op_addA o_add (pb3_v (pv 4)) (pb3_v (pv 6)))) (pb3 (pe3_callB call_lenA o_len rfl T.b_len (by decide +kernel) (pab3_cons (pb3_v (pv 2)) (pab3_nil)))))) (fun _ _ => rfl)))))) (pss3_cons (ps3_set (i := 4) sc_text.nd rfl (by first | exact Or.inl rfl | exact Or.inr rfl) (pe3_op op_fdivW o_fdiv (pb3_v (pv 4)) (pb3 (pe3_callB call_lenA o_len rfl T.b_len (by decide +kernel) (pab3_cons (pb3_v (pv 2)) (pab3_nil)))))) (pss3_nil))))) (pss3_cons (ps3_retV (pv 3)) (pss3_nil))))))
abbrev s_due : Stmt := topS 9
theorem l_due (ds A Q E) (h : sp_due ds A Q E) : ds.length = (["_law_thing"] : List Str).length := by first | (obtain ⟨rfl, _⟩ := h; rfl) | (obtain ⟨_, rfl, _⟩ := h; rfl) | (obtain ⟨_, _, rfl, _⟩ := h; rfl) | (obtain ⟨_, _, _, rfl, _⟩ := h; rfl) | (obtain ⟨_, _, _, _, rfl, _⟩ := h; rfl) | (obtain ⟨_, _, _, _, _, rfl, _⟩ := h; rfl) | (obtain ⟨_, _, _, _, _, _, rfl, _⟩ := h; rfl)
theorem sc_due : FnScope N_due ["_law_thing"] (defScope s_due) := ⟨rfl, rfl, rfl, by decide +kernel, rfl, by decide +kernel, by decide +kernel⟩
theorem ok_due {f : Addr} {fd : FuncData} (F : Fun K "_law_due" "_law_due" s_due f fd) (T : Txt mg) : FnOk P w K mg base CX0 1 f fd ["_law_thing"] (lsp K w sp_due) := by
  refine fn3 (t := b_due) F sc_due l_due (fun cdv A outer s H E C hr => ?_) m_due
  have hu := hr.units
  exact pss3_cons (ps3_if (PW.pt (pw3_or (pt3_not (pt3_val (pe3_isi (n := "str") rfl T.b_isinstance rfl T.b_str (by decide +kernel) (by decide) (pb3_v (pv 0))))) (pw3_or (pt3_cmp (op_ltP hu) o_lt (pb3 (pe3_callB call_lenA o_len rfl T.b_len (by decide +kernel) (pab3_cons (pb3_v (pv 0)) (pab3_nil)))) (pb3 (pe3_int)) (nomark _)) (pw3_or1 (pt3_cmp (op_gtP hu) o_gt (pb3 (pe3_callB call_lenA o_len rfl T.b_len (by decide +kernel) (pab3_cons (pb3_v (pv 0)) (pab3_nil)))) (pb3 (pe3_int)) (nomark _)))))) (pss3_cons (ps3_ret (pe3_bl)) (pss3_nil)) (pss3_nil)) (pss3_cons (ps3_ret (pe3_cmp (op_eqP hu) o_eq (pb3 (pe3_lc (own := [("_law_sign", 1)]) (p := .nm 1) rfl sc_due.nd (pi3_s (pe3_v (pv 0))) (blkOk_by (N := N_due) (sc := defScope s_due) (by decide +kernel)) (by decide) (fun _ _ _ _ _ => pg_name (i := 1) sc_due.nd rfl (by first | exact Or.inl rfl | exact Or.inr rfl)) (fun _ _ _ _ _ _ => pts3_one (PW.pt (pw3_or (pt3_cmp (op_ltP hu) o_lt (pb3 (pe3_callB call_ord o_ordN rfl T.b_ord (by decide +kernel) (pab3_cons (pb3_v (pv 1)) (pab3_nil)))) (pb3 (pe3_int)) (nomark _)) (pw3_or1 (pt3_cmp (op_gtP hu) o_gt (pb3 (pe3_callB call_ord o_ordN rfl T.b_ord (by decide +kernel) (pab3_cons (pb3_v (pv 1)) (pab3_nil)))) (pb3 (pe3_int)) (nomark _)))))) (fun _ _ _ _ _ _ => pe3_v (pv 1)))) (pb3 (pe3_lst (pa3_nil))) (nomark _))) (pss3_nil))
abbrev s_law : Stmt := topS 10
theorem l_law (ds A Q E) (h : sp_law ds A Q E) : ds.length = (["_law_script"] : List Str).length := by first | (obtain ⟨rfl, _⟩ := h; rfl) | (obtain ⟨_, rfl, _⟩ := h; rfl) | (obtain ⟨_, _, rfl, _⟩ := h; rfl) | (obtain ⟨_, _, _, rfl, _⟩ := h; rfl) | (obtain ⟨_, _, _, _, rfl, _⟩ := h; rfl) | (obtain ⟨_, _, _, _, _, rfl, _⟩ := h; rfl) | (obtain ⟨_, _, _, _, _, _, rfl, _⟩ := h; rfl)
theorem sc_law : FnScope N_law ["_law_script"] (defScope s_law) := ⟨rfl, rfl, rfl, by decide +kernel, rfl, by decide +kernel, by decide +kernel⟩
theorem ok_law {f : Addr} {fd : FuncData} (F : Fun K "law" "law" s_law f fd) (T : Txt mg) (G_is_saying : Def3 P w K mg base "is_saying" 1 ["thing"] sp_is_saying) (G_due : Def3 P w K mg base "_law_due" 1 ["_law_thing"] sp_due) (G_text : Def3 P w K mg base "_law_text" 2 ["_law_cell", "_law_many"] sp_text) (G_cell_at : Def3 P w K mg base "_law_cell_at" 1 ["_law_script", "_law_k"] sp_cell_at) : FnOk P w K mg base CX0 3 f fd ["_law_script"] (lsp K w sp_law) := by
  refine fn3 (t := b_law) F sc_law l_law (fun cdv A outer s H E C hr => ?_) m_law
  have hu := hr.units
  exact pss3_cons (ps3_for (p := .nm 1) PassesOwn.never rfl (pi3_range3 rfl T.b_range (pa3_cons (pe3_int) (pa3_cons (pe3_int) (pa3_cons (pe3_int) (pa3_nil))))) (pg_name (i := 1) sc_law.nd rfl (by first | exact Or.inl rfl | exact Or.inr rfl)) (pss3_cons (ps3_set (i := 2) sc_law.nd rfl (by first | exact Or.inl rfl | exact Or.inr rfl) (pe3_fz (pe3_def G_cell_at (hr.mono (by decide)) rfl (pa3_cons (pe3_v (pv 0)) (pa3_cons (pe3_op op_addA o_add (pb3_v (pv 1)) (pb3 (pe3_int))) (pa3_nil)))))) (pss3_cons (ps3_set (i := 3) sc_law.nd rfl (by first | exact Or.inl rfl | exact Or.inr rfl) (pe3_ix ix_seq o_ix (pb3 (pe3_lst (pa3_cons (pe3_op op_mod o_mod (pb3 (pe3_op op_fdivW o_fdiv (pb3_v (pv 2)) (pb3 (pe3_int)))) (pb3 (pe3_int))) (pa3_cons (pe3_op op_addA o_add (pb3 (pe3_int)) (pb3 (pe3_op op_mod o_mod (pb3 (pe3_op op_fdivW o_fdiv (pb3_v (pv 2)) (pb3 (pe3_int)))) (pb3 (pe3_int))))) (pa3_cons (pe3_op op_mod o_mod (pb3 (pe3_op op_fdivW o_fdiv (pb3_v (pv 2)) (pb3 (pe3_int)))) (pb3 (pe3_int))) (pa3_nil)))))) (pb3 (pe3_op op_mod o_mod (pb3_v (pv 2)) (pb3 (pe3_int)))) (fun _ _ => rfl))) (pss3_cons (ps3_set (i := 4) sc_law.nd rfl (by first | exact Or.inl rfl | exact Or.inr rfl) (pe3_fz (pe3_def G_text (hr.mono (by decide)) rfl (pa3_cons (pe3_def G_cell_at (hr.mono (by decide)) rfl (pa3_cons (pe3_v (pv 0)) (pa3_cons (pe3_v (pv 1)) (pa3_nil)))) (pa3_cons (pe3_v (pv 3)) (pa3_nil)))))) (pss3_cons (ps3_set (i := 5) sc_law.nd rfl (by first | exact Or.inl rfl | exact Or.inr rfl) (pe3_fz (pe3_lst (pa3_cons (pe3_v (pv 4)) (pa3_cons (pe3_op op_addA o_add (pb3_v (pv 4)) (pb3 (pe3_str))) (pa3_cons (pe3_op op_addA o_add (pb3_v (pv 4)) (pb3 (pe3_str))) (pa3_cons (pe3_slice (pb3_v (pv 4)) (po3_some (pe3_int)) (po3_none)) (pa3_cons (pe3_op op_addA o_add (pb3_v (pv 4)) (pb3 (pe3_str))) (pa3_nil))))))))) (pss3_cons (ps3_for (p := .nm 6) PassesOwn.never rfl (pi3_s (pe3_op op_addA o_add (pb3_v (pv 5)) (pb3 (pe3_lst (pa3_cons (pe3_op op_addA o_add (pb3 (pe3_str)) (pb3_v (pv 4))) (pa3_nil)))))) (pg_name (i := 6) sc_law.nd rfl (by first | exact Or.inl rfl | exact Or.inr rfl)) (pss3_cons (ps3_set (i := 7) sc_law.nd rfl (by first | exact Or.inl rfl | exact Or.inr rfl) (pe3_fz (pe3_def G_is_saying (hr.mono (by decide)) rfl (pa3_cons (pe3_v (pv 6)) (pa3_nil))))) (pss3_cons (ps3_if (PW.pt (pw3_or (pt3_not (pt3_val (pe3_isi (n := "bool") rfl T.b_isinstance rfl T.b_bool (by decide +kernel) (by decide) (pb3_v (pv 7))))) (pw3_or1 (pt3_cmp (op_neP hu) o_ne (pb3_v (pv 7)) (pb3 (pe3_def G_due (hr.mono (by decide)) rfl (pa3_cons (pe3_v (pv 6)) (pa3_nil)))) (nomark _))))) (pss3_cons (ps3_ret (pe3_bl)) (pss3_nil)) (pss3_nil)) (pss3_nil)))) (pss3_cons (ps3_for (p := .nm 6) PassesOwn.never rfl (pi3_s (pe3_lst (pa3_cons (pe3_lst (pa3_cons (pe3_v (pv 4)) (pa3_nil))) (pa3_cons (pe3_tup (pa3_cons (pe3_v (pv 4)) (pa3_nil))) (pa3_cons (pe3_non) (pa3_cons (pe3_int) (pa3_cons (pe3_bl) (pa3_cons (pe3_tup (pa3_nil)) (pa3_cons (pe3_lst (pa3_nil)) (pa3_cons (pe3_lst (pa3_cons (pe3_v (pv 4)) (pa3_cons (pe3_v (pv 4)) (pa3_nil)))) (pa3_cons (pe3_un un_neg o_neg (pb3 (pe3_int))) (pa3_cons (pe3_tup (pa3_cons (pe3_int) (pa3_cons (pe3_v (pv 4)) (pa3_nil)))) (pa3_nil))))))))))))) (pg_name (i := 6) sc_law.nd rfl (by first | exact Or.inl rfl | exact Or.inr rfl)) (pss3_cons (ps3_if (pt3_cmp op_isnot_bl o_notB (pb3 (pe3_def G_is_saying (hr.mono (by decide)) rfl (pa3_cons (pe3_v (pv 6)) (pa3_nil)))) (pb3 (pe3_bl)) (nomark _)) (pss3_cons (ps3_ret (pe3_bl)) (pss3_nil)) (pss3_nil)) (pss3_nil))) (pss3_nil)))))))) (pss3_cons (ps3_ret (pe3_bl)) (pss3_nil))
end
theorem all_mk {l : PySem.W.OpenLaw} {w : World} {K : PySem.W.Frag} {h : Heap} {mg : Str → Option Value} {fa f0 f1 f2 f3 f4 f5 : Addr} (X : K.In h) (G : h.Ns mainGlobals mg) (hfa : mg "law" = some (.ref fa))
    {od0 an0 od1 an1 od2 an2 od3 an3 od4 an4 od5 an5 : Option Addr} {sl0 sl1 sl2 sl3 sl4 sl5 : Array (Option Value)} {oc0 kV0 dc0 pm0 cd0 ct0 oc1 kV1 dc1 pm1 cd1 ct1 oc2 kV2 dc2 pm2 cd2 ct2 oc3 kV3 dc3 pm3 cd3 ct3 oc4 kV4 dc4 pm4 cd4 ct4 oc5 kV5 dc5 pm5 cd5 ct5 : Value}
    (a0 : PySem.W.nsIn K mainGlobals "is_saying" = some (some (.ref f0))) (l0 : K.lookup f0 = some ⟨oc0, od0, .func (PySem.W.fnOf "is_saying" "is_saying" (defArgs s_is_saying) (defBody s_is_saying) (defScope s_is_saying) .none kV0 dc0 pm0 an0 cd0 ct0), sl0⟩) (c0 : PySem.W.codeIn K cd0 "is_saying" = true) (k0 : PySem.W.keepIn K (.ref f0) = true)
    (a1 : PySem.W.nsIn K mainGlobals "_law_cell_at" = some (some (.ref f1))) (l1 : K.lookup f1 = some ⟨oc1, od1, .func (PySem.W.fnOf "_law_cell_at" "_law_cell_at" (defArgs s_cell_at) (defBody s_cell_at) (defScope s_cell_at) .none kV1 dc1 pm1 an1 cd1 ct1), sl1⟩) (c1 : PySem.W.codeIn K cd1 "_law_cell_at" = true) (k1 : PySem.W.keepIn K (.ref f1) = true)
    (a2 : PySem.W.nsIn K mainGlobals "_law_signs" = some (some (.ref f2))) (l2 : K.lookup f2 = some ⟨oc2, od2, .func (PySem.W.fnOf "_law_signs" "_law_signs" (defArgs s_signs) (defBody s_signs) (defScope s_signs) .none kV2 dc2 pm2 an2 cd2 ct2), sl2⟩) (c2 : PySem.W.codeIn K cd2 "_law_signs" = true) (k2 : PySem.W.keepIn K (.ref f2) = true)
    (a3 : PySem.W.nsIn K mainGlobals "_law_text" = some (some (.ref f3))) (l3 : K.lookup f3 = some ⟨oc3, od3, .func (PySem.W.fnOf "_law_text" "_law_text" (defArgs s_text) (defBody s_text) (defScope s_text) .none kV3 dc3 pm3 an3 cd3 ct3), sl3⟩) (c3 : PySem.W.codeIn K cd3 "_law_text" = true) (k3 : PySem.W.keepIn K (.ref f3) = true)
    (a4 : PySem.W.nsIn K mainGlobals "_law_due" = some (some (.ref f4))) (l4 : K.lookup f4 = some ⟨oc4, od4, .func (PySem.W.fnOf "_law_due" "_law_due" (defArgs s_due) (defBody s_due) (defScope s_due) .none kV4 dc4 pm4 an4 cd4 ct4), sl4⟩) (c4 : PySem.W.codeIn K cd4 "_law_due" = true) (k4 : PySem.W.keepIn K (.ref f4) = true)
    (a5 : PySem.W.nsIn K mainGlobals "law" = some (some (.ref f5))) (l5 : K.lookup f5 = some ⟨oc5, od5, .func (PySem.W.fnOf "law" "law" (defArgs s_law) (defBody s_law) (defScope s_law) .none kV5 dc5 pm5 an5 cd5 ct5), sl5⟩) (c5 : PySem.W.codeIn K cd5 "law" = true) (k5 : PySem.W.keepIn K (.ref f5) = true)
    (z_all : PySem.W.nsIn K mainGlobals "all" = some none)
    (z_bool : PySem.W.nsIn K mainGlobals "bool" = some none)
    (z_isinstance : PySem.W.nsIn K mainGlobals "isinstance" = some none)
    (z_len : PySem.W.nsIn K mainGlobals "len" = some none)
    (z_ord : PySem.W.nsIn K mainGlobals "ord" = some none)
    (z_range : PySem.W.nsIn K mainGlobals "range" = some none)
    (z_str : PySem.W.nsIn K mainGlobals "str" = some none)
    {t_FIRST_SIGN : Tok} (y_FIRST_SIGN : PySem.W.nsIn K mainGlobals "FIRST_SIGN" = some (some (.int 32 t_FIRST_SIGN)))
    {t_LAST_SIGN : Tok} (y_LAST_SIGN : PySem.W.nsIn K mainGlobals "LAST_SIGN" = some (some (.int 126 t_LAST_SIGN)))
    {t_MOST_SIGNS : Tok} (y_MOST_SIGNS : PySem.W.nsIn K mainGlobals "MOST_SIGNS" = some (some (.int 60 t_MOST_SIGNS))) :
    ∃ fd : FuncData, (∀ (s : Shared) (v : Value), BindsTo s fd ⟨[v], []⟩ [("_law_script", v)]) ∧ ∀ base : Heap, K.In base → base.Ns mainGlobals mg → FnOk l.prog w K mg base CX0 3 fa fd ["_law_script"] (lsp K w sp_law) := by
  have e := hfa.symm.trans (PySem.W.mg_of X G a5)
  cases e
  have T : Txt mg := ⟨PySem.W.mg_none_of X G z_all, PySem.W.mg_none_of X G z_bool, PySem.W.mg_none_of X G z_isinstance, PySem.W.mg_none_of X G z_len, PySem.W.mg_none_of X G z_ord, PySem.W.mg_none_of X G z_range, PySem.W.mg_none_of X G z_str, ⟨_, PySem.W.mg_of X G y_FIRST_SIGN⟩, ⟨_, PySem.W.mg_of X G y_LAST_SIGN⟩, ⟨_, PySem.W.mg_of X G y_MOST_SIGNS⟩⟩
  refine ⟨PySem.W.fnOf "law" "law" (defArgs s_law) (defBody s_law) (defScope s_law) .none kV5 dc5 pm5 an5 cd5 ct5, fun s v => .of_eq rfl, fun base _ _ => ?_⟩
  have F0 := fun_mk (st := s_is_saying) l0 c0 k0
  have G_is_saying : Def3 l.prog w K mg base "is_saying" 1 ["thing"] sp_is_saying := ⟨f0, _, ok_is_saying F0 T, PySem.W.mg_of X G a0, k0, F0.binds (ps := ["thing"]) fun _ _ _ _ _ _ us hl => match us, hl with | [_], _ => rfl⟩
  have F1 := fun_mk (st := s_cell_at) l1 c1 k1
  have G_cell_at : Def3 l.prog w K mg base "_law_cell_at" 1 ["_law_script", "_law_k"] sp_cell_at := ⟨f1, _, ok_cell_at F1 T, PySem.W.mg_of X G a1, k1, F1.binds (ps := ["_law_script", "_law_k"]) fun _ _ _ _ _ _ us hl => match us, hl with | [_, _], _ => rfl⟩
  have F2 := fun_mk (st := s_signs) l2 c2 k2
  have G_signs : Def3 l.prog w K mg base "_law_signs" 1 [] sp_signs := ⟨f2, _, ok_signs F2 T, PySem.W.mg_of X G a2, k2, F2.binds (ps := []) fun _ _ _ _ _ _ us hl => match us, hl with | [], _ => rfl⟩
  have F3 := fun_mk (st := s_text) l3 c3 k3
  have G_text : Def3 l.prog w K mg base "_law_text" 2 ["_law_cell", "_law_many"] sp_text := ⟨f3, _, ok_text F3 T G_signs, PySem.W.mg_of X G a3, k3, F3.binds (ps := ["_law_cell", "_law_many"]) fun _ _ _ _ _ _ us hl => match us, hl with | [_, _], _ => rfl⟩
  have F4 := fun_mk (st := s_due) l4 c4 k4
  have G_due : Def3 l.prog w K mg base "_law_due" 1 ["_law_thing"] sp_due := ⟨f4, _, ok_due F4 T, PySem.W.mg_of X G a4, k4, F4.binds (ps := ["_law_thing"]) fun _ _ _ _ _ _ us hl => match us, hl with | [_], _ => rfl⟩
  have F5 := fun_mk (st := s_law) l5 c5 k5
  exact ok_law F5 T G_is_saying G_due G_text G_cell_at
theorem walk {l : PySem.W.OpenLaw} {q : Program} {loose : List Str} {XP : (Str → Option Value) → Heap → Prop} {YP : World → Heap → Prop} {d : DefRec} {K : Params → PySem.W.Frag} (hn : l.most = some 63) (hdf : d.params.defaults = [])
    (hY : ∀ (w : World) (h : Heap), YP w h → (K w.params).In h)
    (F : ∀ (w : World) (mg : Str → Option Value) (fa : Addr) (h : Heap), (K w.params).In h → h.Ns mainGlobals mg → mg d.name = some (.ref fa) →
      ∃ fd : FuncData, (∀ (s : Shared) (u : Value), BindsTo s fd ⟨[u], []⟩ [("_law_script", u)]) ∧ ∀ base : Heap, (K w.params).In base → base.Ns mainGlobals mg → FnOk l.prog w (K w.params) mg base CX0 3 fa fd ["_law_script"] (lsp (K w.params) w sp_law)) :
    PySem.W.WalkO q loose XP YP l.row.toRowW d [] (fun f vs => PySem.call f vs) :=
  L2.walk_of (n := 63) (k := 3) (x := "_law_script") (CX := fun _ => CX0) (sp := fun w => lsp (K w.params) w sp_law) hn (by decide) hdf ⟨rfl, by decide, by decide⟩ hY F (fun w H a ns hl hO hS => law_sp (K := K w.params) (w := w) (fun Q hq => law_true hl hq) hO hS) fun _ _ _ _ _ z => z
end T3
open PySem PySem.W PyProof.Rows in
set_option maxRecDepth 100000 in
set_option maxHeartbeats 0 in
theorem PySem.Challenge.cw_talkmarks_k02_what_is_a_saying_holds : PySem.Challenge.rw_talkmarks_k02_what_is_a_saying.Holds := by
  w_on; o_law; k_head; (case hw => w_witness2)
  k_fill
  refine T3.walk (l := PySem.Challenge.rw_talkmarks_k02_what_is_a_saying) rfl rfl (fun w h Y => PySem.W.kIn_of Y) ?F
  case F =>
    intro w mg fa h KX G hmg
    refine' T3.all_mk KX G hmg ?a0 ?l0 ?c0 ?k0 ?a1 ?l1 ?c1 ?k1 ?a2 ?l2 ?c2 ?k2 ?a3 ?l3 ?c3 ?k3 ?a4 ?l4 ?c4 ?k4 ?a5 ?l5 ?c5 ?k5 ?z_all ?z_bool ?z_isinstance ?z_len ?z_ord ?z_range ?z_str ?y_FIRST_SIGN ?y_LAST_SIGN ?y_MOST_SIGNS
    (case a0 => k_is)
    (case l0 => k_is)
    (case c0 => k_is)
    (case k0 => k_is)
    (case a1 => k_is)
    (case l1 => k_is)
    (case c1 => k_is)
    (case k1 => k_is)
    (case a2 => k_is)
    (case l2 => k_is)
    (case c2 => k_is)
    (case k2 => k_is)
    (case a3 => k_is)
    (case l3 => k_is)
    (case c3 => k_is)
    (case k3 => k_is)
    (case a4 => k_is)
    (case l4 => k_is)
    (case c4 => k_is)
    (case k4 => k_is)
    (case a5 => k_is)
    (case l5 => k_is)
    (case c5 => k_is)
    (case k5 => k_is)
    (case z_all => k_is)
    (case z_bool => k_is)
    (case z_isinstance => k_is)
    (case z_len => k_is)
    (case z_ord => k_is)
    (case z_range => k_is)
    (case z_str => k_is)
    (case y_FIRST_SIGN => k_is)
    (case y_LAST_SIGN => k_is)
    (case y_MOST_SIGNS => k_is)
