import PyProof.Rows.All
import Wide.All
import OpenK.AllK
import Wide.FinOn
import HandS.ForMost
import HandS.ForExc
import KE.KeyNested
import HandS.TupAny
import HandS.IsInst
import HandS.Wide
import HandS.StrMore
import KE.DataEq
import KE.DataCmp
import KE.DataMinMax
import KE.DataFind
import PyProof.StrOps2
import HandS.Ends
import HandS.TupLe
import PyProof.Rows.StrFirst
import PyProof.DictRoadsH
import PyProof.DictMoreH
import KE.KDictWalk
import KE.KDictCopyH
import KE.SortData
import HandS.DictTup
import PyProof.TupleOfSeq
import KE.KDictPairs
import HandS.Zip
import HandS.Rev
import HandS.SetFor
import PyProof.Draws
import HandS.Style
import KE.KDictItemsList
import KE.KDictSum
import HandS.SortKw
import HandS.Replace
import PyProof.Rows.TupDisplay
import HandS.Exc
import HandS.ExcOwn
import HandS.ExcIs
import HandS.WordsExc
import HandS.HotCalls
import KE.SortKeyHeap
import HandS.Lambda
import HandS.EndTab
import HandS.Defaults
import PySem.Challenge.RW_talkmarks_k60_what_a_pack_keeps
set_option Elab.async false
set_option linter.all false
set_option maxRecDepth 100000
namespace T3
open PySem PySem.Spec PyProof.Rows L2

/-- data as trees: tuples, lists and dicts that nobody changes any more; ref: an object that others hold, too; ml, md: a list, a dict that one slot alone holds -/
inductive D where
  | non | bl (b : Bool) | int (i : Int) | str (x : Str)
  | tup (xs : List D) | lst (xs : List D) | dct (kvs : List (D × D))
  | ref (a : Addr) | ml (xs : List D) | md (kvs : List (D × D))
  deriving Inhabited

namespace D
mutual
def beq : D → D → Bool
  | .non, .non => true
  | .bl a, .bl b => decide (a = b)
  | .int a, .int b => decide (a = b)
  | .str a, .str b => decide (a = b)
  | .tup a, .tup b => beqs a b
  | .lst a, .lst b => beqs a b
  | .ml a, .ml b => beqs a b
  | .dct a, .dct b => beqk a b
  | .md a, .md b => beqk a b
  | .ref a, .ref b => decide (a = b)
  | _, _ => false
def beqs : List D → List D → Bool
  | [], [] => true
  | a :: as, b :: bs => beq a b && beqs as bs
  | _, _ => false
def beqk : List (D × D) → List (D × D) → Bool
  | [], [] => true
  | (a, b) :: as, (c, d) :: bs => beq a c && beq b d && beqk as bs
  | _, _ => false
end
mutual
theorem beq_self : ∀ a : D, beq a a = true
  | .non => rfl
  | .bl a => by simp [beq]
  | .int a => by simp [beq]
  | .str a => by simp [beq]
  | .tup a => by rw [beq]; exact beqs_self a
  | .lst a => by rw [beq]; exact beqs_self a
  | .ml a => by rw [beq]; exact beqs_self a
  | .dct a => by rw [beq]; exact beqk_self a
  | .md a => by rw [beq]; exact beqk_self a
  | .ref a => by simp [beq]
theorem beqs_self : ∀ a : List D, beqs a a = true
  | [] => rfl
  | a :: as => by rw [beqs, beq_self a, beqs_self as]; rfl
theorem beqk_self : ∀ a : List (D × D), beqk a a = true
  | [] => rfl
  | (a, b) :: as => by rw [beqk, beq_self a, beq_self b, beqk_self as]; rfl
end
mutual
theorem eq_of_beq : ∀ a b : D, beq a b = true → a = b
  | .non, b, h => by cases b <;> simp_all [beq]
  | .bl a, b, h => by cases b <;> simp_all [beq]
  | .int a, b, h => by cases b <;> simp_all [beq]
  | .str a, b, h => by cases b <;> simp_all [beq]
  | .ref a, b, h => by cases b <;> simp_all [beq]
  | .tup a, b, h => by
    cases b with
    | tup b => rw [beq] at h; rw [eq_of_beqs a b h]
    | _ => simp [beq] at h
  | .lst a, b, h => by
    cases b with
    | lst b => rw [beq] at h; rw [eq_of_beqs a b h]
    | _ => simp [beq] at h
  | .ml a, b, h => by
    cases b with
    | ml b => rw [beq] at h; rw [eq_of_beqs a b h]
    | _ => simp [beq] at h
  | .dct a, b, h => by
    cases b with
    | dct b => rw [beq] at h; rw [eq_of_beqk a b h]
    | _ => simp [beq] at h
  | .md a, b, h => by
    cases b with
    | md b => rw [beq] at h; rw [eq_of_beqk a b h]
    | _ => simp [beq] at h
theorem eq_of_beqs : ∀ a b : List D, beqs a b = true → a = b
  | [], [], _ => rfl
  | [], _ :: _, h => nomatch h
  | _ :: _, [], h => nomatch h
  | a :: as, b :: bs, h => by
    simp only [beqs, Bool.and_eq_true] at h
    rw [eq_of_beq a b h.1, eq_of_beqs as bs h.2]
theorem eq_of_beqk : ∀ a b : List (D × D), beqk a b = true → a = b
  | [], [], _ => rfl
  | [], _ :: _, h => nomatch h
  | _ :: _, [], h => nomatch h
  | (a, b) :: as, (c, d) :: bs, h => by
    simp only [beqk, Bool.and_eq_true] at h
    rw [eq_of_beq a c h.1.1, eq_of_beq b d h.1.2, eq_of_beqk as bs h.2]
end
end D
instance : DecidableEq D := fun a b => if h : D.beq a b = true then .isTrue (D.eq_of_beq a b h) else .isFalse fun e => h (e ▸ D.beq_self a)
end T3
namespace T3
open PySem PySem.Spec PyProof.Rows L2

/-! ### keys -/
mutual
/-- what may be a key: no truths, no lists -/
def kok : D → Bool
  | .non => true | .int _ => true | .str _ => true | .tup xs => koks xs | _ => false
def koks : List D → Bool
  | [] => true
  | x :: xs => kok x && koks xs
end
mutual
def dk : D → NestedKey
  | .int i => .num i | .str x => .text x | .tup xs => .tup (dks xs) | _ => .none
def dks : List D → List NestedKey
  | [] => []
  | x :: xs => dk x :: dks xs
end
mutual
theorem dk_inj : ∀ a b : D, kok a = true → kok b = true → dk a = dk b → a = b
  | .non, b, _, hb, h => by cases b <;> simp_all [kok, dk]
  | .int i, b, _, hb, h => by cases b <;> simp_all [kok, dk]
  | .str i, b, _, hb, h => by cases b <;> simp_all [kok, dk]
  | .tup xs, b, ha, hb, h => by
    cases b with
    | tup ys =>
      rw [kok] at ha hb
      rw [dk, dk, NestedKey.tup.injEq] at h
      rw [dks_inj xs ys ha hb h]
    | _ => simp_all [kok, dk]
  | .bl _, _, ha, _, _ => by simp [kok] at ha
  | .lst _, _, ha, _, _ => by simp [kok] at ha
  | .dct _, _, ha, _, _ => by simp [kok] at ha
  | .ref _, _, ha, _, _ => by simp [kok] at ha
  | .ml _, _, ha, _, _ => by simp [kok] at ha
  | .md _, _, ha, _, _ => by simp [kok] at ha
theorem dks_inj : ∀ a b : List D, koks a = true → koks b = true → dks a = dks b → a = b
  | [], [], _, _, _ => rfl
  | [], _ :: _, _, _, h => by simp [dks] at h
  | _ :: _, [], _, _, h => by simp [dks] at h
  | x :: xs, y :: ys, ha, hb, h => by
    simp only [koks, Bool.and_eq_true] at ha hb
    simp only [dks, List.cons.injEq] at h
    rw [dk_inj x y ha.1 hb.1 h.1, dks_inj xs ys ha.2 hb.2 h.2]
end
/-- the depth that a look-up of a key allows -/
def kfit (d : D) : Bool := kok d && decide ((dk d).depth ≤ 8)

/-! ### dicts in the abstract heap -/
inductive EntsAre : List (Int × V × V) → List DictEntry → Prop
  | nil : EntsAre [] []
  | cons {n x y e es ens} : e.hash = n → RelV x e.key → RelV y e.val → EntsAre es ens → EntsAre ((n, x, y) :: es) (e :: ens)
theorem EntsAre.length {es : List (Int × V × V)} {ens : List DictEntry} (r : EntsAre es ens) : es.length = ens.length := by
  induction r with
  | nil => rfl
  | cons _ _ _ _ ih => simp [ih]
/-- the dict at a has these entries: hash, key, value -/
def DE (a : Addr) (es : List (Int × V × V)) (h : Heap) : Prop :=
  es.length ≤ sizeLine ∧ (a == sysModules) = false ∧ ∃ o arr ep, h.get? a = some o ∧ o.ExactDict ∧ o.data = .dict arr ep ∧ EntsAre es arr.toList ∧ ep = arr.size
def dh (a : Addr) (es : List (Int × V × V)) : HO := .ext (DE a es)

/-! ### data and values -/
def SqF (K : PySem.W.Frag) (H : Hp) (a : Addr) (xs : List V) : Prop :=
  (∃ o, H a = some (.frz o (.lst xs))) ∨
    ∃ (o : Obj) (its : Array Value) (n : Nat), K.lookup a = some o ∧ o.cls = .type "list" ∧ o.dict = none ∧ o.data = .seq its n ∧ its.size ≤ sizeLine ∧ Vals xs its.toList
theorem SqF.sql {K : PySem.W.Frag} {H : Hp} {a : Addr} {xs : List V} (h : SqF K H a xs) : SqL K H a xs := by
  rcases h with ⟨o, h⟩ | h
  · exact .inl (.inr ⟨o, h⟩)
  · exact .inr h
/-- a tuple of which nothing hangs beside its items -/
def SqS (K : PySem.W.Frag) (H : Hp) (a : Addr) (xs : List V) : Prop :=
  (∃ o, H a = some (.frz o (.tup xs)) ∧ o.dict = none) ∨
    ∃ (o : Obj) (its : Array Value) (n : Nat), K.lookup a = some o ∧ o.cls = .type "tuple" ∧ o.dict = none ∧ o.data = .seq its n ∧ its.size ≤ sizeLine ∧ Vals xs its.toList
theorem SqS.sqt {K : PySem.W.Frag} {H : Hp} {a : Addr} {xs : List V} (h : SqS K H a xs) : SqT K H a xs := by
  rcases h with ⟨o, h, _⟩ | ⟨o, its, n, h1, h2, _, h3, h4, h5⟩
  · exact .inl (.inr ⟨o, h⟩)
  · exact .inr ⟨o, its, n, h1, h2, h3, h4, h5⟩
/-- keys apart, each of them fit -/
def DOk (kvs : List (D × D)) : Prop := (∀ p ∈ kvs, kfit p.1 = true) ∧ (kvs.map (·.1)).Nodup

section
variable (K : PySem.W.Frag) (w : World) (H : Hp)
mutual
def Rp : D → V → Prop
  | .non, v => v = .non
  | .bl b, v => v = .bl b
  | .int i, v => v = .int i
  | .str x, v => v = .str x
  | .ref a, v => v = .ref a
  | .tup ds, v => ∃ a xs, v = .ref a ∧ SqS K H a xs ∧ Rps ds xs
  | .lst ds, v => ∃ a xs, v = .ref a ∧ SqF K H a xs ∧ Rps ds xs
  | .dct kvs, v => ∃ a es, v = .ref a ∧ (∃ o, H a = some (.frz o (dh a es))) ∧ DOk kvs ∧ Rpk kvs es
  | .ml _, _ => False
  | .md _, _ => False
def Rps : List D → List V → Prop
  | [], xs => xs = []
  | d :: ds, xs => ∃ x r, xs = x :: r ∧ Rp d x ∧ Rps ds r
def Rpk : List (D × D) → List (Int × V × V) → Prop
  | [], es => es = []
  | (k, d) :: kvs, es => ∃ x y r, es = ((dk k).hash w, x, y) :: r ∧ Rp k x ∧ Rp d y ∧ Rpk kvs r
end
end

/-- tuples and what nobody changes any more stay -/
def Pers (H H' : Hp) : Prop := (∀ b xs, H b = some (.tup xs) → H' b = some (.tup xs)) ∧ ∀ b o u, H b = some (.frz o u) → H' b = some (.frz o u)
theorem Pers.refl (H : Hp) : Pers H H := ⟨fun _ _ h => h, fun _ _ _ h => h⟩
theorem Pers.trans {H H1 H2 : Hp} (a : Pers H H1) (b : Pers H1 H2) : Pers H H2 := ⟨fun _ _ h => b.1 _ _ (a.1 _ _ h), fun _ _ _ h => b.2 _ _ _ (a.2 _ _ _ h)⟩
/-- all that was tracked is as it was -/
abbrev Ext (H H' : Hp) : Prop := ∀ b o, H b = some o → H' b = some o
theorem Pers.of_ext {H H' : Hp} (e : Ext H H') : Pers H H' := ⟨fun _ _ h => e _ _ h, fun _ _ _ h => e _ _ h⟩
theorem ext_upd {H : Hp} {p : Addr} {o : HO} (h : H p = none) : Ext H (upd H p o) := fun b u e => by
  rw [upd_ne (ne_of_none e h)]; exact e
/-- a thing that may change is replaced -/
def Chg (o : HO) : Prop := (∀ xs, o ≠ .tup xs) ∧ (∀ b u, o ≠ .frz b u) ∧ ∀ ps, o ≠ .tbl ps
theorem pers_upd {H : Hp} {p : Addr} {o u : HO} (h : H p = some o) (c : Chg o) : Pers H (upd H p u) := by
  refine ⟨fun b xs e => ?_, fun b v z e => ?_⟩
  · have : b ≠ p := fun q => by rw [q, h] at e; cases e; exact c.1 _ rfl
    rw [upd_ne this]; exact e
  · have : b ≠ p := fun q => by rw [q, h] at e; cases e; exact c.2.1 _ _ rfl
    rw [upd_ne this]; exact e
theorem chg_lst {xs : List V} : Chg (.lst xs) := ⟨(fun _ h => nomatch h), (fun _ _ h => nomatch h), fun _ h => nomatch h⟩
theorem chg_dh {a : Addr} {es : List (Int × V × V)} : Chg (dh a es) := ⟨fun _ (h : HO.ext _ = _) => (nomatch h), fun _ _ (h : HO.ext _ = _) => (nomatch h), fun _ (h : HO.ext _ = _) => (nomatch h)⟩
theorem chg_ins {C dx : Addr} {fs : List (Str × V)} : Chg (.ins C dx fs) := ⟨(fun _ h => nomatch h), (fun _ _ h => nomatch h), fun _ h => nomatch h⟩

/-! ### tables of code objects -/
/-- the one lambda's name -/
def lamQ : Str := "_law_log.<locals>.<lambda>"
/-- the object at c is a code object of that name -/
def CodeQ (c : Addr) : HO := .ext fun h => ∃ (oc : Obj) (vs : Array Value) (t : Tok), h.get? c = some oc ∧ oc.data = .fields vs ∧ vs[1]? = some (.str lamQ t)
/-- each code object of the table is the lambda's -/
def LamT (H : Hp) (ps : Array Value) : Prop := TriplesOk ps.toList ∧ ∀ (pos : Pos) (cv : Value), codeAmong pos ps.toList = some cv → ∃ c o, cv = .ref c ∧ H c = some (.frz o (CodeQ c))
theorem LamT.pers {H H' : Hp} {ps : Array Value} (p : Pers H H') (g : LamT H ps) : LamT H' ps := ⟨g.1, fun pos cv e => by
  obtain ⟨c, o, e1, e2⟩ := g.2 pos cv e
  exact ⟨c, o, e1, p.2 _ _ _ e2⟩⟩
theorem LamT.nil {H : Hp} : LamT H #[] := ⟨True.intro, fun pos cv hc => by
  have z : codeAmong pos [] = some cv := hc
  simp [codeAmong] at z⟩
/-- a table of H0 stands in H, grown perhaps -/
def Tbl (H0 H : Hp) : Prop := ∀ b ps0, H0 b = some (.tbl ps0) → ∃ ps, H b = some (.tbl ps) ∧ (LamT H0 ps0 → LamT H ps)
theorem Tbl.refl (H : Hp) : Tbl H H := fun _ ps h => ⟨ps, h, id⟩
theorem Tbl.trans {H0 H H' : Hp} (a : Tbl H0 H) (b : Tbl H H') : Tbl H0 H' := fun x ps h => by
  obtain ⟨p1, e1, g1⟩ := a x ps h
  obtain ⟨p2, e2, g2⟩ := b x p1 e1
  exact ⟨p2, e2, fun g => g2 (g1 g)⟩
theorem Tbl.ext {H0 H H' : Hp} (a : Tbl H0 H) (e : Ext H H') : Tbl H0 H' := a.trans fun x ps h => ⟨ps, e _ _ h, LamT.pers (.of_ext e)⟩
theorem Tbl.upd {H0 H : Hp} {p : Addr} {o u : HO} (a : Tbl H0 H) (h : H p = some o) (c : Chg o) : Tbl H0 (upd H p u) := a.trans fun x ps e => by
  have : x ≠ p := fun q => by rw [q, h] at e; cases e; exact c.2.2 _ rfl
  exact ⟨ps, by rw [upd_ne this]; exact e, LamT.pers (pers_upd h c)⟩

section
variable {K : PySem.W.Frag} {w : World} {H H' : Hp}
theorem SqT.pers {a : Addr} {xs : List V} (p : Pers H H') (h : SqT K H a xs) : SqT K H' a xs := by
  rcases h with (h | ⟨o, h⟩) | h
  · exact .inl (.inl (p.1 _ _ h))
  · exact .inl (.inr ⟨o, p.2 _ _ _ h⟩)
  · exact .inr h
theorem SqS.pers {a : Addr} {xs : List V} (p : Pers H H') (h : SqS K H a xs) : SqS K H' a xs := by
  rcases h with ⟨o, h, d⟩ | h
  · exact .inl ⟨o, p.2 _ _ _ h, d⟩
  · exact .inr h
theorem SqF.pers {a : Addr} {xs : List V} (p : Pers H H') (h : SqF K H a xs) : SqF K H' a xs := by
  rcases h with ⟨o, h⟩ | h
  · exact .inl ⟨o, p.2 _ _ _ h⟩
  · exact .inr h
mutual
theorem Rp.pers (p : Pers H H') : ∀ {d : D} {v : V}, Rp K w H d v → Rp K w H' d v
  | .non, _, h => by rw [Rp] at h ⊢; exact h
  | .bl _, _, h => by rw [Rp] at h ⊢; exact h
  | .int _, _, h => by rw [Rp] at h ⊢; exact h
  | .str _, _, h => by rw [Rp] at h ⊢; exact h
  | .ref _, _, h => by rw [Rp] at h ⊢; exact h
  | .tup ds, _, h => by
    rw [Rp] at h ⊢
    obtain ⟨a, xs, e, s, r⟩ := h
    exact ⟨a, xs, e, SqS.pers p s, Rps.pers p r⟩
  | .lst ds, _, h => by
    rw [Rp] at h ⊢
    obtain ⟨a, xs, e, s, r⟩ := h
    exact ⟨a, xs, e, s.pers p, Rps.pers p r⟩
  | .dct kvs, _, h => by
    rw [Rp] at h ⊢
    obtain ⟨a, es, e, ⟨o, s⟩, k, r⟩ := h
    exact ⟨a, es, e, ⟨o, p.2 _ _ _ s⟩, k, Rpk.pers p r⟩
  | .ml _, _, h => by rw [Rp] at h; exact h.elim
  | .md _, _, h => by rw [Rp] at h; exact h.elim
theorem Rps.pers (p : Pers H H') : ∀ {ds : List D} {xs : List V}, Rps K w H ds xs → Rps K w H' ds xs
  | [], _, h => by rw [Rps] at h ⊢; exact h
  | d :: ds, _, h => by
    rw [Rps] at h ⊢
    obtain ⟨x, r, e, h1, h2⟩ := h
    exact ⟨x, r, e, Rp.pers p h1, Rps.pers p h2⟩
theorem Rpk.pers (p : Pers H H') : ∀ {kvs : List (D × D)} {es : List (Int × V × V)}, Rpk K w H kvs es → Rpk K w H' kvs es
  | [], _, h => by rw [Rpk] at h ⊢; exact h
  | (k, d) :: kvs, _, h => by
    rw [Rpk] at h ⊢
    obtain ⟨x, y, r, e, h1, h2, h3⟩ := h
    exact ⟨x, y, r, e, Rp.pers p h1, Rp.pers p h2, Rpk.pers p h3⟩
end
theorem Rps.length : ∀ {ds : List D} {xs : List V}, Rps K w H ds xs → xs.length = ds.length
  | [], _, h => by rw [Rps] at h; rw [h]; rfl
  | d :: ds, _, h => by
    rw [Rps] at h
    obtain ⟨x, r, rfl, _, h2⟩ := h
    rw [List.length_cons, List.length_cons, Rps.length h2]
theorem Rps.append : ∀ {ds es : List D} {xs ys : List V}, Rps K w H ds xs → Rps K w H es ys → Rps K w H (ds ++ es) (xs ++ ys)
  | [], _, _, _, h, h' => by rw [Rps] at h; rw [h]; exact h'
  | d :: ds, _, _, _, h, h' => by
    rw [Rps] at h
    obtain ⟨x, r, rfl, h1, h2⟩ := h
    show Rps K w H (d :: (ds ++ _)) (x :: (r ++ _))
    rw [Rps]
    exact ⟨x, _, rfl, h1, Rps.append h2 h'⟩
theorem Rps.one {d : D} {v : V} (h : Rp K w H d v) : Rps K w H [d] [v] := by rw [Rps]; exact ⟨v, [], rfl, h, by rw [Rps]⟩
theorem Rps.nil : Rps K w H [] [] := by rw [Rps]
theorem Rps.cons {d : D} {v : V} {ds : List D} {xs : List V} (h : Rp K w H d v) (t : Rps K w H ds xs) : Rps K w H (d :: ds) (v :: xs) := by rw [Rps]; exact ⟨v, xs, rfl, h, t⟩
theorem Rps.get : ∀ {ds : List D} {xs : List V} {i : Nat} {d : D}, Rps K w H ds xs → ds[i]? = some d → ∃ v, xs[i]? = some v ∧ Rp K w H d v
  | [], _, _, _, _, e => by simp at e
  | d :: ds, _, i, _, h, e => by
    rw [Rps] at h
    obtain ⟨x, r, rfl, h1, h2⟩ := h
    cases i with
    | zero => simp at e; subst e; exact ⟨x, rfl, h1⟩
    | succ i => exact Rps.get (i := i) h2 (by simpa using e)
theorem Rps.set : ∀ {ds : List D} {xs : List V} {d : D} {v : V} (i : Nat), Rps K w H ds xs → Rp K w H d v → Rps K w H (ds.set i d) (xs.set i v)
  | [], _, _, _, _, h, _ => by rw [Rps] at h; subst h; exact Rps.nil
  | e :: ds, _, d, v, i, h, r => by
    rw [Rps] at h
    obtain ⟨x, q, rfl, h1, h2⟩ := h
    cases i with
    | zero => exact Rps.cons r h2
    | succ i => exact Rps.cons h1 (Rps.set i h2 r)
theorem Rps.take : ∀ {ds : List D} {xs : List V} (n : Nat), Rps K w H ds xs → Rps K w H (ds.take n) (xs.take n)
  | _, _, 0, _ => by simp [Rps.nil]
  | [], _, n + 1, h => by rw [Rps] at h; subst h; exact Rps.nil
  | d :: ds, _, n + 1, h => by
    rw [Rps] at h
    obtain ⟨x, q, rfl, h1, h2⟩ := h
    exact Rps.cons h1 (Rps.take n h2)
theorem Rps.drop : ∀ {ds : List D} {xs : List V} (n : Nat), Rps K w H ds xs → Rps K w H (ds.drop n) (xs.drop n)
  | _, _, 0, h => h
  | [], _, n + 1, h => by rw [Rps] at h; subst h; exact Rps.nil
  | d :: ds, _, n + 1, h => by
    rw [Rps] at h
    obtain ⟨x, q, rfl, h1, h2⟩ := h
    exact Rps.drop n h2
theorem Rps.reverse {ds : List D} {xs : List V} (h : Rps K w H ds xs) : Rps K w H ds.reverse xs.reverse := by
  induction ds generalizing xs with
  | nil => rw [Rps] at h; subst h; exact Rps.nil
  | cons d ds ih =>
    rw [Rps] at h
    obtain ⟨x, q, rfl, h1, h2⟩ := h
    rw [List.reverse_cons, List.reverse_cons]
    exact (ih h2).append (Rps.one h1)
end

/-! ### what is not data alone -/
/-- an abstract object -/
inductive Ob where
  | lst (xs : List D) | dct (kvs : List (D × D)) | ins (C : Addr) (fs : List (Str × D))
abbrev AH := Addr → Option Ob
def put (A : AH) (a : Addr) (o : Ob) : AH := fun b => if b = a then some o else A b
theorem put_same {A : AH} {a : Addr} {o : Ob} : put A a o a = some o := by unfold put; rw [if_pos rfl]
theorem put_ne {A : AH} {a b : Addr} {o : Ob} (h : b ≠ a) : put A a o b = A b := by unfold put; rw [if_neg h]
def own : D → Bool
  | .ml _ => true | .md _ => true | _ => false
/-- let go: nobody changes it any more -/
def frz : D → D
  | .ml xs => .lst xs | .md kvs => .dct kvs | d => d
def obOf : D → Option Ob
  | .ml xs => some (.lst xs) | .md kvs => some (.dct kvs) | _ => none

section
variable (K : PySem.W.Frag) (w : World) (H : Hp)
def Rpf : List (Str × D) → List (Str × V) → Prop
  | [], xs => xs = []
  | (f, d) :: r, xs => ∃ v q, xs = (f, v) :: q ∧ Rp K w H d v ∧ Rpf r q
/-- the object at a is this -/
def RpO (a : Addr) : Ob → Prop
  | .lst ds => ∃ xs, H a = some (.lst xs) ∧ Rps K w H ds xs
  | .dct kvs => ∃ es, H a = some (dh a es) ∧ DOk kvs ∧ Rpk K w H kvs es
  | .ins C fs => ∃ dx xs, H a = some (.ins C dx xs) ∧ Rpf K w H fs xs
/-- a value, perhaps one that is held here alone -/
def RpV : D → V → Prop
  | .ml ds, v => ∃ a, v = .ref a ∧ RpO K w H a (.lst ds)
  | .md kvs, v => ∃ a, v = .ref a ∧ RpO K w H a (.dct kvs)
  | d, v => Rp K w H d v
end
section
variable {K : PySem.W.Frag} {w : World} {H H' : Hp}
theorem Rpf.pers (p : Pers H H') : ∀ {fs : List (Str × D)} {xs : List (Str × V)}, Rpf K w H fs xs → Rpf K w H' fs xs
  | [], _, h => h
  | (f, d) :: r, _, ⟨v, q, e, h1, h2⟩ => ⟨v, q, e, h1.pers p, h2.pers p⟩
theorem RpO.keep {a : Addr} {o : Ob} (p : Pers H H') (e : H' a = H a) (h : RpO K w H a o) : RpO K w H' a o := by
  cases o with
  | lst ds => obtain ⟨xs, h1, h2⟩ := h; exact ⟨xs, by rw [e]; exact h1, h2.pers p⟩
  | dct kvs => obtain ⟨es, h1, h2, h3⟩ := h; exact ⟨es, by rw [e]; exact h1, h2, h3.pers p⟩
  | ins C fs => obtain ⟨dx, xs, h1, h2⟩ := h; exact ⟨dx, xs, by rw [e]; exact h1, h2.pers p⟩
theorem RpO.there {a : Addr} {o : Ob} (h : RpO K w H a o) : ∃ u, H a = some u ∧ Chg u := by
  cases o with
  | lst ds => obtain ⟨xs, h1, _⟩ := h; exact ⟨_, h1, chg_lst⟩
  | dct kvs => obtain ⟨es, h1, _⟩ := h; exact ⟨_, h1, chg_dh⟩
  | ins C fs => obtain ⟨dx, xs, h1, _⟩ := h; exact ⟨_, h1, chg_ins⟩
theorem RpV.rp {d : D} {v : V} (o : own d = false) (h : RpV K w H d v) : Rp K w H d v := by
  cases d <;> first | exact h | (simp [own] at o)
theorem RpV.of {d : D} {v : V} (h : Rp K w H d v) : RpV K w H d v := by
  cases d <;> first | exact h | (rw [Rp] at h; exact h.elim)
theorem Rp.notOwn {d : D} {v : V} (h : Rp K w H d v) : own d = false := by
  cases d <;> first | rfl | (rw [Rp] at h; exact h.elim)
theorem RpV.ob {d : D} {v : V} (o : own d = true) (h : RpV K w H d v) : ∃ a ob, v = .ref a ∧ obOf d = some ob ∧ RpO K w H a ob := by
  cases d with
  | ml ds => obtain ⟨a, e, h⟩ := h; exact ⟨a, _, e, rfl, h⟩
  | md ds => obtain ⟨a, e, h⟩ := h; exact ⟨a, _, e, rfl, h⟩
  | _ => simp [own] at o
theorem RpV.mk {d : D} {a : Addr} {ob : Ob} (e : obOf d = some ob) (h : RpO K w H a ob) : RpV K w H d (.ref a) := by
  cases d with
  | ml ds => simp [obOf] at e; subst e; exact ⟨a, rfl, h⟩
  | md ds => simp [obOf] at e; subst e; exact ⟨a, rfl, h⟩
  | _ => simp [obOf] at e
theorem RpV.keep {d : D} {v : V} (p : Pers H H') (h : RpV K w H d v) (k : own d = true → ∀ a, v = .ref a → H' a = H a) : RpV K w H' d v := by
  cases o : own d with
  | false => exact .of ((h.rp o).pers p)
  | true =>
    obtain ⟨a, ob, e, eo, r⟩ := h.ob o
    subst e
    exact .mk eo (r.keep p (k o a rfl))
end
end T3
set_option autoImplicit false
namespace T3
open PySem PySem.Spec PyProof.Rows L2

abbrev S3 := List (Option D)
/-- the entry of the def: the abstract heaps there -/
structure Ct where
  H0 : Hp
  A0 : AH
structure Rel (K : PySem.W.Frag) (w : World) (C : Ct) (A : AH) (H : Hp) : Prop where
  heap : ∀ a ob, A a = some ob → RpO K w H a ob
  prot : ∀ b o, C.H0 b = some o → C.A0 b = none → (∀ ps, o ≠ .tbl ps) → H b = some o
  dom : ∀ a, A a ≠ none → C.A0 a ≠ none ∨ C.H0 a = none
  mono : ∀ b, H b = none → C.H0 b = none
  tbl : Tbl C.H0 H
structure Slots (K : PySem.W.Frag) (w : World) (C : Ct) (z : S3) (A : AH) (σ : L2.St) (H : Hp) : Prop where
  val : ∀ (i : Nat) (d : D), z[i]? = some (some d) → ∃ v, σ[i]? = some (some v) ∧ RpV K w H d v
  sep : ∀ (i : Nat) (d : D) (a : Addr), z[i]? = some (some d) → own d = true → σ[i]? = some (some (V.ref a)) → A a = none ∧ C.H0 a = none
  uniq : ∀ (i j : Nat) (d e : D) (a : Addr), z[i]? = some (some d) → own d = true → z[j]? = some (some e) → own e = true → σ[i]? = some (some (V.ref a)) → σ[j]? = some (some (V.ref a)) → i = j
  len : z.length = σ.length
/-- a value at hand: what it holds alone nobody else holds -/
structure Tmp (K : PySem.W.Frag) (w : World) (C : Ct) (z : S3) (A : AH) (σ : L2.St) (H : Hp) (d : D) (v : V) : Prop where
  val : RpV K w H d v
  alone : own d = true → ∀ a, v = V.ref a → A a = none ∧ C.H0 a = none ∧ ∀ (i : Nat) (e : D), z[i]? = some (some e) → own e = true → σ[i]? ≠ some (some (V.ref a))

section
variable {K : PySem.W.Frag} {w : World} {C : Ct} {z : S3} {A : AH} {σ : L2.St} {H H' : Hp} {d : D} {v : V}
theorem Rel.afresh (r : Rel K w C A H) {p : Addr} (h : H p = none) : A p = none := by
  cases e : A p with
  | none => rfl
  | some ob => obtain ⟨u, q, _⟩ := (r.heap p ob e).there; rw [h] at q; cases q
theorem ext_eq {a : Addr} {u : HO} (e : Ext H H') (h : H a = some u) : H' a = H a := by rw [h]; exact e _ _ h
theorem Rel.ext (r : Rel K w C A H) (e : Ext H H') : Rel K w C A H' where
  heap := fun a ob h => by
    have q := r.heap a ob h
    obtain ⟨u, hu, _⟩ := q.there
    exact q.keep (.of_ext e) (ext_eq e hu)
  prot := fun b o h1 h2 h3 => e _ _ (r.prot b o h1 h2 h3)
  dom := r.dom
  tbl := r.tbl.ext e
  mono := fun b h => r.mono b (by
    cases q : H b with
    | none => rfl
    | some u => rw [e _ _ q] at h; cases h)
theorem RpV.ext (h : RpV K w H d v) (e : Ext H H') : RpV K w H' d v := h.keep (.of_ext e) fun o a ev => by
  obtain ⟨b, ob, eb, _, r⟩ := h.ob o
  rw [ev] at eb; cases eb
  obtain ⟨u, hu, _⟩ := r.there
  exact ext_eq e hu
theorem Slots.ext (s : Slots K w C z A σ H) (e : Ext H H') : Slots K w C z A σ H' where
  val := fun i d h => let ⟨v, h1, h2⟩ := s.val i d h; ⟨v, h1, h2.ext e⟩
  sep := s.sep
  uniq := s.uniq
  len := s.len
theorem Tmp.ext (t : Tmp K w C z A σ H d v) (e : Ext H H') : Tmp K w C z A σ H' d v := ⟨t.val.ext e, t.alone⟩
theorem Tmp.of (h : Rp K w H d v) : Tmp K w C z A σ H d v := ⟨.of h, fun o => by rw [h.notOwn] at o; cases o⟩
/-- something new, held alone -/
theorem Tmp.new (r : Rel K w C A H) (s : Slots K w C z A σ H) {p : Addr} {ob : Ob} (h : H p = none) (eo : obOf d = some ob) (q : RpO K w H' p ob) : Tmp K w C z A σ H' d (.ref p) := by
  refine ⟨.mk eo q, fun _ a ea => ?_⟩
  cases ea
  refine ⟨r.afresh h, r.mono _ h, fun i e hi oe hs => ?_⟩
  obtain ⟨u, hu, ru⟩ := s.val i e hi
  rw [hs] at hu; cases hu
  obtain ⟨b, ob', eb, _, rb⟩ := ru.ob oe
  cases eb
  obtain ⟨_, hb, _⟩ := rb.there
  rw [h] at hb; cases hb
/-- stored at a name -/
theorem Slots.set (s : Slots K w C z A σ H) (t : Tmp K w C z A σ H d v) (i : Nat) : Slots K w C (z.set i (some d)) A (σ.set i (some v)) H where
  val := fun j e h => by
    by_cases hj : i = j
    · subst hj
      rw [List.getElem?_set] at h
      split at h
      · split at h
        · rename_i hl
          cases h
          exact ⟨v, by rw [List.getElem?_set_self (by rw [← s.len]; exact hl)], t.val⟩
        · cases h
      · rename_i hne; exact absurd rfl hne
    · rw [List.getElem?_set_ne hj] at h
      obtain ⟨u, h1, h2⟩ := s.val j e h
      exact ⟨u, by rw [List.getElem?_set_ne hj]; exact h1, h2⟩
  sep := fun j e a h o hs => by
    by_cases hj : i = j
    · subst hj
      rw [List.getElem?_set] at h
      split at h
      · split at h
        · rename_i hl
          cases h
          rw [List.getElem?_set_self (by rw [← s.len]; exact hl)] at hs
          cases hs
          exact ⟨(t.alone o a rfl).1, (t.alone o a rfl).2.1⟩
        · cases h
      · rename_i hne; exact absurd rfl hne
    · rw [List.getElem?_set_ne hj] at h hs
      exact s.sep j e a h o hs
  uniq := fun j k e f a h1 o1 h2 o2 s1 s2 => by
    have hz : ∀ {j : Nat} {e : D}, i = j → (z.set i (some d))[j]? = some (some e) → e = d ∧ (σ.set i (some v))[j]? = some (some v) := by
      intro j e ej h
      subst ej
      rw [List.getElem?_set] at h
      split at h
      · split at h
        · rename_i hl
          cases h
          exact ⟨rfl, by rw [List.getElem?_set_self (by rw [← s.len]; exact hl)]⟩
        · cases h
      · rename_i hne; exact absurd rfl hne
    by_cases hj : i = j
    · by_cases hk : i = k
      · exact hj.symm.trans hk
      · obtain ⟨ee, q⟩ := hz hj h1
        subst ee
        rw [q] at s1; cases s1
        rw [List.getElem?_set_ne hk] at h2 s2
        exact absurd s2 ((t.alone o1 a rfl).2.2 k f h2 o2)
    · by_cases hk : i = k
      · obtain ⟨ee, q⟩ := hz hk h2
        subst ee
        rw [q] at s2; cases s2
        rw [List.getElem?_set_ne hj] at h1 s1
        exact absurd s1 ((t.alone o2 a rfl).2.2 j e h1 o1)
      · rw [List.getElem?_set_ne hj] at h1 s1
        rw [List.getElem?_set_ne hk] at h2 s2
        exact s.uniq j k e f a h1 o1 h2 o2 s1 s2
  len := by rw [List.length_set, List.length_set]; exact s.len
end

/-! ### readings -/
abbrev TE3 := S3 → AH → (D → AH → Prop) → Prop
abbrev TT3 := S3 → AH → (Bool → AH → Prop) → Prop
abbrev TA3 := S3 → AH → (List D → AH → Prop) → Prop
/-- an exception: its class, its fields -/
abbrev X3 := Addr → List (Str × D) → AH → Prop
structure Ends3 where
  nx : S3 → AH → Prop
  rt : D → AH → Prop
  bk : S3 → AH → Prop := fun _ _ => False
  ct : S3 → AH → Prop := fun _ _ => False
abbrev TS3 := Ends3 → S3 → AH → Prop

/-- read where it stands: as data, or where a slot alone holds it -/
def RpB (K : PySem.W.Frag) (w : World) (z : S3) (σ : L2.St) (H : Hp) (d : D) (v : V) : Prop :=
  Rp K w H d v ∨ ∃ (i : Nat) (e : D), z[i]? = some (some e) ∧ own e = true ∧ d = frz e ∧ σ[i]? = some (some v)
inductive RpBs (K : PySem.W.Frag) (w : World) (z : S3) (σ : L2.St) (H : Hp) : List D → List V → Prop
  | nil : RpBs K w z σ H [] []
  | cons {d v ds vs} : RpB K w z σ H d v → RpBs K w z σ H ds vs → RpBs K w z σ H (d :: ds) (v :: vs)
section
variable (K : PySem.W.Frag) (w : World) (C : Ct)
def low (t : TE3) : TE := fun σ H Q => ∃ z A Q3, Rel K w C A H ∧ Slots K w C z A σ H ∧ t z A Q3 ∧
  ∀ d A' v H', Q3 d A' → Rel K w C A' H' → Slots K w C z A' σ H' → Pers H H' → Tmp K w C z A' σ H' d v → Q v H'
def lowB (t : TE3) : TE := fun σ H Q => ∃ z A Q3, Rel K w C A H ∧ Slots K w C z A σ H ∧ t z A Q3 ∧
  ∀ d A' v H', Q3 d A' → Rel K w C A' H' → Slots K w C z A' σ H' → Pers H H' → RpB K w z σ H' d v → Q v H'
def lowT (t : TT3) : TT := fun σ H Q => ∃ z A Q3, Rel K w C A H ∧ Slots K w C z A σ H ∧ t z A Q3 ∧
  ∀ b A' H', Q3 b A' → Rel K w C A' H' → Slots K w C z A' σ H' → Pers H H' → Q b H'
/-- arguments, let go each -/
def lowA (t : TA3) : TA := fun σ H Q => ∃ z A Q3, Rel K w C A H ∧ Slots K w C z A σ H ∧ t z A Q3 ∧
  ∀ ds A' vs H', Q3 ds A' → Rel K w C A' H' → Slots K w C z A' σ H' → Pers H H' → Rps K w H' ds vs → Q vs H'
/-- .. read where they stand -/
def lowAB (t : TA3) : TA := fun σ H Q => ∃ z A Q3, Rel K w C A H ∧ Slots K w C z A σ H ∧ t z A Q3 ∧
  ∀ ds A' vs H', Q3 ds A' → Rel K w C A' H' → Slots K w C z A' σ H' → Pers H H' → RpBs K w z σ H' ds vs → Q vs H'
/-- hb: the abstract heap at the start; what is data there stays data -/
structure Fits3 (hb : Hp) (D3 : Ends3) (D : Ends) : Prop where
  nx : ∀ z A σ H, D3.nx z A → Rel K w C A H → Slots K w C z A σ H → Pers hb H → D.nx σ H
  rt : ∀ d A v H, D3.rt d A → Rel K w C A H → RpV K w H d v → (own d = true → ∀ a, v = V.ref a → A a = none ∧ C.H0 a = none) → Pers hb H → D.rt v H
  bk : ∀ z A σ H, D3.bk z A → Rel K w C A H → Slots K w C z A σ H → Pers hb H → D.bk σ H
  ct : ∀ z A σ H, D3.ct z A → Rel K w C A H → Slots K w C z A σ H → Pers hb H → D.ct σ H
def lowS (t : TS3) : TS := fun D σ H => ∃ z A D3, Rel K w C A H ∧ Slots K w C z A σ H ∧ t D3 z A ∧ Fits3 K w C H D3 D
end
theorem Fits3.later {K : PySem.W.Frag} {w : World} {C : Ct} {hb h2 : Hp} {D3 : Ends3} {D : Ends} (p : Pers hb h2) (f : Fits3 K w C hb D3 D) : Fits3 K w C h2 D3 D :=
  ⟨fun z A σ H a b c d => f.nx z A σ H a b c (p.trans d), fun d A v H a b c e g => f.rt d A v H a b c e (p.trans g), fun z A σ H a b c d => f.bk z A σ H a b c (p.trans d), fun z A σ H a b c d => f.ct z A σ H a b c (p.trans d)⟩
abbrev PE3 (X : Cx) (C : Ct) (e : Expr) (t : TE3) : Prop := PE X e (low X.K X.w C t)
abbrev PB3 (X : Cx) (C : Ct) (e : Expr) (t : TE3) : Prop := PE X e (lowB X.K X.w C t)
abbrev PT3 (X : Cx) (C : Ct) (e : Expr) (t : TT3) : Prop := PT X e (lowT X.K X.w C t)
abbrev PA3 (X : Cx) (C : Ct) (es : List Expr) (t : TA3) : Prop := PA X es (lowA X.K X.w C t)
abbrev PAB3 (X : Cx) (C : Ct) (es : List Expr) (t : TA3) : Prop := PA X es (lowAB X.K X.w C t)
abbrev PS3 (X : Cx) (C : Ct) (st : Stmt) (t : TS3) : Prop := PS X st (lowS X.K X.w C t)
abbrev PSs3 (X : Cx) (C : Ct) (st : List Stmt) (t : TS3) : Prop := PSs X st (lowS X.K X.w C t)

section
variable {X : Cx}
theorem PE.imp {e : Expr} {t t' : TE} (h : PE X e t) (i : ∀ σ H Q, t' σ H Q → t σ H Q) : PE X e t' := ⟨fun pins s σ H Q I q => h.run pins s σ H Q I (i σ H Q q)⟩
theorem PT.imp {e : Expr} {t t' : TT} (h : PT X e t) (i : ∀ σ H Q, t' σ H Q → t σ H Q) : PT X e t' := ⟨fun pins s σ H Q I q => h.run pins s σ H Q I (i σ H Q q)⟩
theorem PW.imp {e : Expr} {t t' : TT} (h : PW X e t) (i : ∀ σ H Q, t' σ H Q → t σ H Q) : PW X e t' := ⟨fun wh pins s σ H Q I q => h.run wh pins s σ H Q I (i σ H Q q)⟩
theorem PA.imp {e : List Expr} {t t' : TA} (h : PA X e t) (i : ∀ σ H Q, t' σ H Q → t σ H Q) : PA X e t' := ⟨fun p pins s σ H Q I q => h.run p pins s σ H Q I (i σ H Q q)⟩
theorem PS.imp {e : Stmt} {t t' : TS} (h : PS X e t) (i : ∀ D σ H, t' D σ H → t D σ H) : PS X e t' := ⟨fun pins s σ H D I q => h.run pins s σ H D I (i D σ H q)⟩
theorem PSs.imp {e : List Stmt} {t t' : TS} (h : PSs X e t) (i : ∀ D σ H, t' D σ H → t D σ H) : PSs X e t' := ⟨fun pins s σ H D I q => h.run pins s σ H D I (i D σ H q)⟩
/-- the wish may grow -/
theorem low.mono {K : PySem.W.Frag} {w : World} {C : Ct} {t : TE3} {σ : L2.St} {H : Hp} {Q Q' : VK} (h : low K w C t σ H Q) (i : ∀ v H', Q v H' → Q' v H') : low K w C t σ H Q' := by
  obtain ⟨z, A, Q3, r, s, q, f⟩ := h
  exact ⟨z, A, Q3, r, s, q, fun d A' v H' a b c e g => i _ _ (f d A' v H' a b c e g)⟩
end

/-! ### a thing is let go -/
section
variable {X : Cx} {pins : List (Addr × Obj)} {σ : L2.St} {H : Hp} {s : Shared} {a : Addr} {u : HO}
def CanFrz : HO → Bool
  | .lst _ => true | .ext _ => true | _ => false
theorem Inv.freeze (I : Inv X pins σ H s) (h : H a = some u) (m : CanFrz u = true) : ∃ o, Inv X pins σ (upd H a (.frz o u)) s := by
  have ok := I.hok a u h
  obtain ⟨o, ho⟩ : ∃ o, s.heap.get? a = some o := by
    cases u with
    | lst xs => obtain ⟨_, _, _, _, e⟩ := ok; exact ⟨_, e⟩
    | ext φ => exact ok.2.1
    | _ => simp [CanFrz] at m
  have nt : ∀ b xs, H b = some (.tup xs) → b ≠ a := fun b xs e q => by rw [q, h] at e; cases e; simp [CanFrz] at m
  have nf : ∀ b o' xs, H b = some (.frz o' xs) → b ≠ a := fun b o' xs e q => by rw [q, h] at e; cases e; simp [CanFrz] at m
  have nl : ∀ b ps, H b = some (.tbl ps) → b ≠ a := fun b ps e q => by rw [q, h] at e; cases e; simp [CanFrz] at m
  have nw : ∀ b y, H b = some (.own y) → b ≠ a := fun b y e q => by rw [q, h] at e; cases e; simp [CanFrz] at m
  refine ⟨o, ?_⟩
  have st : ∀ b v, H b = some v → ObjOk X.prog X.w (upd H a (.frz o u)) s.heap b v := fun b v e =>
    (I.hok b v e).stay (fun _ _ _ q => q) (fun c q => by rw [upd_ne (nw c b q)]; exact q) fun c xs q => by rw [upd_ne (nt c xs q)]; exact q
  refine I.un (h' := s.heap) (t' := s.toks) ⟨fun b ob e _ _ _ => e, fun b ob e _ _ _ => ⟨ob.slots, e⟩, fun b ob e n _ => ?_, fun b ob e _ => ⟨ob, e⟩,
    fun b xs e => by rw [upd_ne (nt b xs e)]; exact e, fun b o' xs e => by rw [upd_ne (nf b o' xs e)]; exact e, fun b ps e => ⟨#[], by rw [upd_ne (nl b ps e), e]; simp⟩⟩ fun b v e => ?_
  · have : b ≠ a := fun q => by rw [q, h] at n; cases n
    rw [upd_ne this]; exact n
  · by_cases hb : b = a
    · subst hb
      rw [upd_same] at e; cases e
      exact ⟨ho, st _ _ h⟩
    · rw [upd_ne hb] at e
      exact st _ _ e
/-- .. as a step of an expression's end -/
def tGo (t : TE) : TE := fun σ H Q => t σ H fun v H' => (∃ a u, v = V.ref a ∧ H' a = some u ∧ CanFrz u = true ∧ ∀ o, Q v (upd H' a (.frz o u))) ∨ Q v H'
theorem pe_go {e : Expr} {t : TE} (h : PE X e t) : PE X e (tGo t) := ⟨fun pins s σ H Q I q => by
  refine thn (h.run pins s σ H _ I q) fun u s1 ⟨v, H1, I1, r1, q1⟩ => ?_
  rcases q1 with ⟨a, x, rfl, hx, m, q1⟩ | q1
  · obtain ⟨o, I2⟩ := Inv.freeze I1 hx m
    exact ⟨_, _, I2, r1, q1 o⟩
  · exact ⟨v, H1, I1, r1, q1⟩⟩
end

section
variable {K : PySem.W.Frag} {w : World} {C : Ct} {z : S3} {A : AH} {σ : L2.St} {H : Hp} {d : D} {a : Addr} {u : HO} {o : Obj}
/-- an object that no one else holds changes: what stays -/
theorem Rel.alone (r : Rel K w C A H) (hA : A a = none) (h0 : C.H0 a = none) (h : H a = some u) (c : Chg u) {u' : HO} : Rel K w C A (upd H a u') where
  heap := fun b ob e => (r.heap b ob e).keep (pers_upd h c) (upd_ne fun q => by rw [q, hA] at e; cases e)
  prot := fun b x e1 e2 e3 => by
    rw [upd_ne fun q => by rw [q, h0] at e1; cases e1]
    exact r.prot b x e1 e2 e3
  dom := r.dom
  tbl := r.tbl.upd h c
  mono := fun b e => by
    by_cases hb : b = a
    · rw [hb]; exact h0
    · rw [upd_ne hb] at e; exact r.mono b e
/-- a temporary's own object: the slots stay -/
theorem Slots.alone (s : Slots K w C z A σ H) (h : H a = some u) (c : Chg u) (n : ∀ (i : Nat) (e : D), z[i]? = some (some e) → own e = true → σ[i]? ≠ some (some (V.ref a))) {u' : HO} : Slots K w C z A σ (upd H a u') where
  val := fun i e hi => by
    obtain ⟨v, h1, h2⟩ := s.val i e hi
    exact ⟨v, h1, h2.keep (pers_upd h c) fun o b eb => upd_ne fun q => n i e hi o (by rw [h1, eb, q])⟩
  sep := s.sep
  uniq := s.uniq
  len := s.len
theorem RpO.frz {ob : Ob} (h : RpO K w H a ob) (e : obOf d = some ob) : ∃ u, H a = some u ∧ CanFrz u = true ∧ Chg u ∧ ∀ o, Rp K w (upd H a (.frz o u)) (frz d) (.ref a) := by
  cases d with
  | ml ds =>
    simp [obOf] at e; subst e
    obtain ⟨xs, h1, h2⟩ := h
    refine ⟨_, h1, rfl, chg_lst, fun o => ?_⟩
    show Rp K w _ (.lst ds) _
    rw [Rp]
    exact ⟨a, xs, rfl, .inl ⟨o, upd_same⟩, h2.pers (pers_upd h1 chg_lst)⟩
  | md ds =>
    simp [obOf] at e; subst e
    obtain ⟨xs, h1, h2, h3⟩ := h
    refine ⟨_, h1, rfl, chg_dh, fun o => ?_⟩
    show Rp K w _ (.dct ds) _
    rw [Rp]
    exact ⟨a, xs, rfl, ⟨o, upd_same⟩, h2, h3.pers (pers_upd h1 chg_dh)⟩
  | _ => simp [obOf] at e
theorem frz_of {d : D} (h : own d = false) : frz d = d := by cases d <;> first | rfl | simp [own] at h
end

/-! ### expressions: let go; where they stand -/
def fz (t : TE3) : TE3 := fun z A Q => t z A fun d A' => Q (frz d) A'
section
variable {X : Cx} {C : Ct} {e : Expr} {t : TE3}
theorem pe_fz (h : PE3 X C e t) : PE X e fun σ H Q => ∃ z A Q3, Rel X.K X.w C A H ∧ Slots X.K X.w C z A σ H ∧ t z A Q3 ∧
    ∀ d A' v H', Q3 d A' → Rel X.K X.w C A' H' → Slots X.K X.w C z A' σ H' → Pers H H' → Rp X.K X.w H' (frz d) v → Q v H' := by
  refine PE.imp (pe_go h) fun σ H Q hq => ?_
  obtain ⟨z, A, Q3, r, s, q, f⟩ := hq
  refine ⟨z, A, Q3, r, s, q, fun d A' v H' q' r' s' p' t' => ?_⟩
  cases o : own d with
  | false => exact .inr (f d A' v H' q' r' s' p' (by rw [frz_of o]; exact t'.val.rp o))
  | true =>
    obtain ⟨a, ob, rfl, eo, ro⟩ := t'.val.ob o
    obtain ⟨u, hu, m, c, fr⟩ := ro.frz eo
    obtain ⟨n1, n2, n3⟩ := t'.alone o a rfl
    exact .inl ⟨a, u, rfl, hu, m, fun ob' => f d A' _ _ q' (r'.alone n1 n2 hu c) (s'.alone hu c n3) (p'.trans (pers_upd hu c)) (fr ob')⟩
/-- let go -/
theorem pe3_fz (h : PE3 X C e t) : PE3 X C e (fz t) := PE.imp (pe_fz h) fun σ H Q hq => by
  obtain ⟨z, A, Q3, r, s, q, f⟩ := hq
  exact ⟨z, A, _, r, s, q, fun d A' v H' q' r' s' p' t' => f _ A' v H' q' r' s' p' (.of t')⟩
/-- .. and read -/
theorem pb3 (h : PE3 X C e t) : PB3 X C e (fz t) := PE.imp (pe_fz h) fun σ H Q hq => by
  obtain ⟨z, A, Q3, r, s, q, f⟩ := hq
  exact ⟨z, A, _, r, s, q, fun d A' v H' q' r' s' p' t' => f _ A' v H' q' r' s' p' (.inl t')⟩
end

/-! ### tuples made: their objects told -/
def tupO (us : List Value) : Obj := { cls := .type "tuple", data := .seq us.toArray }
/-- the tuple xs at p, its object o -/
def TupAt (p : Addr) (o : Obj) (xs : List V) (H : Hp) : Hp := upd H p (.frz o (.tup xs))
section
variable {X : Cx} {pins : List (Addr × Obj)} {σ : L2.St} {H : Hp} {s : Shared}
/-- what is wanted behind a new tuple -/
def NewT (xs : List V) (H : Hp) (Q : VK) : Prop := ∀ p o, H p = none → o.dict = none → Q (.ref p) (TupAt p o xs H)
theorem newT_ep {us : List Value} {xs : List V} {Q : VK} {t' : Nat} (I : Inv X pins σ H s) (r : Vals xs us) (hz : xs.length ≤ sizeLine) (q : NewT xs H Q) : EP X pins σ Q (.ref s.heap.objs.size) { s with heap := s.heap.push (tupO us), toks := t' } := by
  have e : (s.heap.push (tupO us)).get? s.heap.objs.size = some (tupO us) := Heap.get?_push_size _ rfl
  exact ⟨.ref s.heap.objs.size, _, I.laid (t' := t') (o := .frz (tupO us) (.tup xs)) (fun b u e => Heap.get?_push_of_some _ e) (Nat.le_refl _) ⟨e, hz, us, r, ⟨_, e, rfl, _, rfl⟩⟩, rfl, q _ _ (I.hok.fresh (Nat.le_refl _)) rfl⟩
def tTupS (t : TA) : TE := fun σ H Q => t σ H fun xs H1 => xs.length ≤ sizeLine ∧ NewT xs H1 Q
theorem pe_tupS {es : List Expr} {t : TA} {x1 pos} (h : PA X es t) : PE X (.Tuple es x1 pos) (tTupS t) := ⟨fun pins s σ H Q I hq =>
  wpAny_Tuple_spliced (thn (h.run pos pins s σ H _ I hq) fun us s1 ⟨xs, H1, I1, r, z, q⟩ => ⟨by rw [← r.length]; exact z, newT_ep (t' := s1.toks) I1 r z q⟩)⟩
def rTupleS (K : PySem.W.Frag) : List V → Hp → VK → Prop := fun xs H Q => ∃ p ys, xs = [.ref p] ∧ ((SqL K H p ys ∧ NewT ys H Q) ∨ (SqT K H p ys ∧ Q (.ref p) H))
theorem call_tupleS : CallR X (.type "tuple") (rTupleS X.K) := fun pins s σ H xs us Q I r h => by
  obtain ⟨p, ys, rfl, h⟩ := h
  obtain ⟨u, rfl, rx⟩ := vals1 r
  cases rx
  rcases h with ⟨hq, q⟩ | ⟨hq, q⟩
  · obtain ⟨its, rv, pl, hz⟩ := I.list hq
    have hl := rv.length
    refine call_tuple_list pl.isList (fun h' kp => ?_) (by simp only [List.size_toArray] <;> omega)
    exact newT_ep (t' := s.toks) (I.kept (t' := s.toks) kp) rv hz q
  · obtain ⟨its, rv, pl, hz⟩ := I.tuple hq
    exact call_tuple_same pl ⟨.ref p, H, I, rfl, q⟩
def rCatS (K : PySem.W.Frag) : R2 := fun x y H Q => ∃ a b xs ys, x = .ref a ∧ y = .ref b ∧ SqT K H a xs ∧ SqT K H b ys ∧ xs.length + ys.length ≤ sizeLine ∧
  (xs = [] → Q (.ref b) H) ∧ (xs ≠ [] → ys = [] → Q (.ref a) H) ∧ (xs ≠ [] → ys ≠ [] → NewT (xs ++ ys) H Q)
theorem op_catS : OpR X (binaryOp .Add) (rCatS X.K) := fun pins s σ H x y v u Q I rx ry h => by
  obtain ⟨a, b, xs, ys, rfl, rfl, ha, hb, hz, q0, q1, q2⟩ := h
  by_cases hx : xs = []
  · exact op_catA pins s σ H _ _ v u Q I rx ry ⟨a, b, xs, ys, rfl, rfl, ha, hb, hz, q0, q1, fun h => absurd hx h⟩
  · cases rx
    cases ry
    obtain ⟨its, r1, p1, _⟩ := I.tuple ha
    obtain ⟨its2, r2, p2, _⟩ := I.tuple hb
    refine HT.cat_tup p1 p2 (fun z => hx (r1.nil_iff.mp z)) (fun z => ⟨.ref a, H, I, rfl, q1 hx (r2.nil_iff.mp z)⟩) (fun z => ?_) (by rw [← r1.length, ← r2.length]; exact hz)
    exact newT_ep (t' := s.toks) I (r1.append r2) (by rw [List.length_append]; exact hz) (q2 hx fun w => z (r2.nil_iff.mpr w))
def rSlS (K : PySem.W.Frag) : V → Option Int → Option Int → Hp → VK → Prop := fun x lo hi H Q => ∃ a xs, x = .ref a ∧ SqT K H a xs ∧
  (HT.sIx xs.length 0 lo = 0 ∧ HT.sIx xs.length xs.length hi = xs.length → Q (.ref a) H) ∧ (¬ (HT.sIx xs.length 0 lo = 0 ∧ HT.sIx xs.length xs.length hi = xs.length) → NewT (cutV xs lo hi) H Q)
theorem sl_tupS : SlR X (rSlS X.K) := fun pins s σ H x v vl vu lo hi sl Q I rx hs pl pu h => by
  obtain ⟨a, xs, rfl, hx, q1, q2⟩ := h
  by_cases hw : HT.sIx xs.length 0 lo = 0 ∧ HT.sIx xs.length xs.length hi = xs.length
  · exact sl_tupA pins s σ H _ v vl vu lo hi sl Q I rx hs pl pu ⟨a, xs, rfl, hx, q1, fun h => absurd hw h⟩
  · cases rx
    obtain ⟨its, r, ht, hz⟩ := I.tuple hx
    have hlen : its.toArray.size = xs.length := by rw [List.size_toArray]; exact r.length.symm
    refine ⟨"tuple", _, PyProof.Rows.slot_tuple_getitem.lookup, ht.typeIs, ?_⟩
    refine HT.getItem_tuple_cut ht hs pl pu (by rw [hlen]; exact hw) ?_ (by rw [hlen]; exact hz)
    rw [hlen]
    exact newT_ep (t' := s.toks) I ((r.drop (HT.sIx xs.length 0 lo)).take (HT.sIx xs.length xs.length hi - HT.sIx xs.length 0 lo)) (Nat.le_trans (cutV_length xs lo hi) hz) (q2 hw)
end
end T3
set_option autoImplicit false
namespace T3
open PySem PySem.Spec PyProof.Rows L2

section
variable {X : Cx} {C : Ct}
/-! ### names, constants -/
def eV (i : Nat) : TE3 := fun z A Q => ∃ d, z[i]? = some (some d) ∧ own d = false ∧ Q d A
def eB (i : Nat) : TE3 := fun z A Q => ∃ d, z[i]? = some (some d) ∧ Q (frz d) A
def eC (d : D) : TE3 := fun _ A Q => Q d A
theorem pe3_v {e : Expr} {i : Nat} (h : PE X e (tVar i)) : PE3 X C e (eV i) := PE.imp h fun σ H Q hq => by
  obtain ⟨z, A, Q3, r, s, ⟨d, h1, h2, q⟩, f⟩ := hq
  obtain ⟨v, hv, rv⟩ := s.val i d h1
  exact ⟨v, hv, f d A v H q r s (.refl H) (.of (rv.rp h2))⟩
theorem pb3_v {e : Expr} {i : Nat} (h : PE X e (tVar i)) : PB3 X C e (eB i) := PE.imp h fun σ H Q hq => by
  obtain ⟨z, A, Q3, r, s, ⟨d, h1, q⟩, f⟩ := hq
  obtain ⟨v, hv, rv⟩ := s.val i d h1
  refine ⟨v, hv, f _ A v H q r s (.refl H) ?_⟩
  cases o : own d with
  | false => rw [frz_of o]; exact .inl (rv.rp o)
  | true => exact .inr ⟨i, d, h1, o, rfl, hv⟩
theorem pe3_c {e : Expr} {v : V} {d : D} (h : PE X e (tC v)) (r : ∀ H, Rp X.K X.w H d v) : PE3 X C e (eC d) := PE.imp h fun σ H Q hq => by
  obtain ⟨z, A, Q3, r', s, q, f⟩ := hq
  exact f d A v H q r' s (.refl H) (.of (r H))
theorem pe3_int {i : Int} {j pos} : PE3 X C (.Constant (.int i) j pos) (eC (.int i)) := pe3_c pe_int fun _ => by rw [Rp]
theorem pe3_bl {b : Bool} {j pos} : PE3 X C (.Constant (.bool b) j pos) (eC (.bl b)) := pe3_c pe_bl fun _ => by rw [Rp]
theorem pe3_non {j pos} : PE3 X C (.Constant .none j pos) (eC .non) := pe3_c pe_non fun _ => by rw [Rp]
theorem pe3_str {x : Str} {j pos} : PE3 X C (.Constant (.str x) j pos) (eC (.str x)) := pe3_c pe_str fun _ => by rw [Rp]
/-- what is not held alone may be read as it is -/
theorem PB3.of {e : Expr} {t : TE3} (h : PE3 X C e t) : PB3 X C e (fz t) := pb3 h

/-! ### arguments -/
def aNil : TA3 := fun _ A Q => Q [] A
def aCons (t : TE3) (u : TA3) : TA3 := fun z A Q => t z A fun d A1 => u z A1 fun ds A2 => Q (d :: ds) A2
theorem pa3_nil : PA3 X C [] aNil := PA.imp pa_nil fun σ H Q hq => by
  obtain ⟨z, A, Q3, r, s, q, f⟩ := hq
  exact f [] A [] H q r s (.refl H) Rps.nil
theorem pa3_cons {e : Expr} {es : List Expr} {t : TE3} {u : TA3} (h : PE3 X C e t) (hr : PA3 X C es u) (hs : starEach (e :: es) X.env = (false, eval e X.env) :: starEach es X.env := by rfl) : PA3 X C (e :: es) (aCons (fz t) u) :=
  PA.imp (pa_cons (pe_fz h) hr hs) fun σ H Q hq => by
    obtain ⟨z, A, Q3, r, s, q, f⟩ := hq
    refine ⟨z, A, _, r, s, q, fun d A1 v H1 q1 r1 s1 p1 t1 => ⟨z, A1, _, r1, s1, q1, fun ds A2 vs H2 q2 r2 s2 p2 t2 => ?_⟩⟩
    exact f _ A2 _ H2 q2 r2 s2 (p1.trans p2) (Rps.cons (t1.pers p2) t2)
theorem RpB.later {K : PySem.W.Frag} {w : World} {z : S3} {σ : L2.St} {H H' : Hp} {d : D} {v : V} (h : RpB K w z σ H d v) (p : Pers H H') : RpB K w z σ H' d v := by
  rcases h with h | h
  · exact .inl (h.pers p)
  · exact .inr h
theorem pab3_nil : PAB3 X C [] aNil := PA.imp pa_nil fun σ H Q hq => by
  obtain ⟨z, A, Q3, r, s, q, f⟩ := hq
  exact f [] A [] H q r s (.refl H) .nil
theorem pab3_cons {e : Expr} {es : List Expr} {t : TE3} {u : TA3} (h : PB3 X C e t) (hr : PAB3 X C es u) (hs : starEach (e :: es) X.env = (false, eval e X.env) :: starEach es X.env := by rfl) : PAB3 X C (e :: es) (aCons t u) :=
  PA.imp (pa_cons h hr hs) fun σ H Q hq => by
    obtain ⟨z, A, Q3, r, s, q, f⟩ := hq
    refine ⟨z, A, _, r, s, q, fun d A1 v H1 q1 r1 s1 p1 t1 => ⟨z, A1, _, r1, s1, q1, fun ds A2 vs H2 q2 r2 s2 p2 t2 => ?_⟩⟩
    exact f _ A2 _ H2 q2 r2 s2 (p1.trans p2) (.cons (t1.later p2) t2)

/-! ### what is made: the answer of an operation that changes nothing -/
/-- v is d: d as data in H', or a new object held alone -/
def Gv (K : PySem.W.Frag) (w : World) (H H' : Hp) (d : D) (v : V) : Prop :=
  Ext H H' ∧ ((own d = false ∧ Rp K w H' d v) ∨ ∃ p ob, H p = none ∧ v = .ref p ∧ obOf d = some ob ∧ RpO K w H' p ob)
theorem Gv.rp {K : PySem.W.Frag} {w : World} {H H' : Hp} {d : D} {v : V} (e : Ext H H') (r : Rp K w H' d v) : Gv K w H H' d v := ⟨e, .inl ⟨r.notOwn, r⟩⟩
theorem Gv.same {K : PySem.W.Frag} {w : World} {H : Hp} {d : D} {v : V} (r : Rp K w H d v) : Gv K w H H d v := ⟨fun _ _ h => h, .inl ⟨r.notOwn, r⟩⟩
theorem Gv.lst {K : PySem.W.Frag} {w : World} {H : Hp} {ds : List D} {xs : List V} {p : Addr} (h : H p = none) (r : Rps K w H ds xs) : Gv K w H (upd H p (.lst xs)) (.ml ds) (.ref p) :=
  ⟨ext_upd h, .inr ⟨p, .lst ds, h, rfl, rfl, xs, upd_same, r.pers (.of_ext (ext_upd h))⟩⟩
theorem Gv.tup {K : PySem.W.Frag} {w : World} {H : Hp} {ds : List D} {xs : List V} {p : Addr} {o : Obj} (h : H p = none) (ho : o.dict = none) (r : Rps K w H ds xs) : Gv K w H (TupAt p o xs H) (.tup ds) (.ref p) :=
  .rp (ext_upd h) (by rw [Rp]; exact ⟨p, xs, rfl, .inl ⟨o, upd_same, ho⟩, r.pers (.of_ext (ext_upd h))⟩)
section
variable {K : PySem.W.Frag} {w : World} {z : S3} {A : AH} {σ : L2.St} {H H' : Hp} {d : D} {v : V}
theorem Gv.tmp (g : Gv K w H H' d v) (r : Rel K w C A H) (s : Slots K w C z A σ H) : Rel K w C A H' ∧ Slots K w C z A σ H' ∧ Tmp K w C z A σ H' d v := by
  obtain ⟨e, g⟩ := g
  refine ⟨r.ext e, s.ext e, ?_⟩
  rcases g with ⟨o, q⟩ | ⟨p, ob, h, rfl, eo, q⟩
  · exact .of q
  · exact .new r s h eo q
end
/-- a reading as data at hand -/
theorem low.gv {z : S3} {A : AH} {σ : L2.St} {H0 H H' : Hp} {d : D} {v : V} {Q3 : D → AH → Prop} {Q : VK} (r : Rel X.K X.w C A H) (s : Slots X.K X.w C z A σ H)
    (f : ∀ d A' v H', Q3 d A' → Rel X.K X.w C A' H' → Slots X.K X.w C z A' σ H' → Pers H0 H' → Tmp X.K X.w C z A' σ H' d v → Q v H') (p : Pers H0 H) (q : Q3 d A) (g : Gv X.K X.w H H' d v) : Q v H' := by
  obtain ⟨r', s', t'⟩ := g.tmp r s
  exact f d A v H' q r' s' (p.trans (.of_ext g.1)) t'

/-! ### displays -/
def eTup (t : TA3) : TE3 := fun z A Q => t z A fun ds A' => ds.length ≤ sizeLine ∧ Q (.tup ds) A'
def eLst (t : TA3) : TE3 := fun z A Q => t z A fun ds A' => ds.length ≤ sizeLine ∧ Q (.ml ds) A'
theorem pe3_tup {es : List Expr} {t : TA3} {x1 pos} (h : PA3 X C es t) : PE3 X C (.Tuple es x1 pos) (eTup t) := PE.imp (pe_tupS h) fun σ H Q hq => by
  obtain ⟨z, A, Q3, r, s, q, f⟩ := hq
  refine ⟨z, A, _, r, s, q, fun ds A' vs H' q' r' s' p' t' => ⟨by rw [t'.length]; exact q'.1, fun p o hp ho => ?_⟩⟩
  exact low.gv r' s' f p' q'.2 (.tup hp ho t')
theorem pe3_lst {es : List Expr} {t : TA3} {pos} (h : PA3 X C es t) : PE3 X C (.List es pos) (eLst t) := PE.imp (pe_lst h) fun σ H Q hq => by
  obtain ⟨z, A, Q3, r, s, q, f⟩ := hq
  refine ⟨z, A, _, r, s, q, fun ds A' vs H' q' r' s' p' t' => ⟨by rw [t'.length]; exact q'.1, fun p hp => ?_⟩⟩
  exact low.gv r' s' f p' q'.2 (.lst hp t')

/-! ### operations that change nothing -/
/-- two operands read where they stand -/
def Op2 (X : Cx) (C : Ct) (r : R2) (f : AH → D → D → Option D) : Prop := ∀ (z : S3) (A : AH) (σ : L2.St) (H : Hp) (d1 d2 d : D) (x y : V) (Q : VK), Rel X.K X.w C A H → Slots X.K X.w C z A σ H →
  RpB X.K X.w z σ H d1 x → RpB X.K X.w z σ H d2 y → f A d1 d2 = some d → (∀ v H', Gv X.K X.w H H' d v → Q v H') → r x y H Q
def e2 (f : AH → D → D → Option D) (ta tb : TE3) : TE3 := fun z A Q => ta z A fun d1 A1 => tb z A1 fun d2 A2 => ∃ d, f A2 d1 d2 = some d ∧ Q d A2
theorem low_op2 {r : R2} {f : AH → D → D → Option D} {ta tb : TE3} (h : Op2 X C r f) {σ : L2.St} {H : Hp} {Q : VK} (hq : low X.K X.w C (e2 f ta tb) σ H Q) : tOp r (lowB X.K X.w C ta) (lowB X.K X.w C tb) σ H Q := by
  obtain ⟨z, A, Q3, r0, s, q, g⟩ := hq
  refine ⟨z, A, _, r0, s, q, fun d1 A1 v1 H1 q1 r1 s1 p1 t1 => ⟨z, A1, _, r1, s1, q1, fun d2 A2 v2 H2 q2 r2 s2 p2 t2 => ?_⟩⟩
  obtain ⟨d, hd, q3⟩ := q2
  exact h z A2 σ H2 d1 d2 d v1 v2 Q r2 s2 (t1.later p2) t2 hd fun v H' gv => low.gv r2 s2 g (p1.trans p2) q3 gv
theorem pe3_op {op : Operator} {r : R2} {f : AH → D → D → Option D} {a b : Expr} {ta tb : TE3} {pos : Pos} (ho : OpR X (binaryOp op) r) (h : Op2 X C r f) (ha : PB3 X C a ta) (hb : PB3 X C b tb) : PE3 X C (.BinOp a op b pos) (e2 f ta tb) :=
  PE.imp (pe_op ho ha hb) fun _ _ _ hq => low_op2 h hq
theorem pe3_cmp {op : CmpOp} {r : R2} {f : AH → D → D → Option D} {a b : Expr} {ta tb : TE3} {pos : Pos} (ho : OpR X (compareOp op) r) (h : Op2 X C r f) (ha : PB3 X C a ta) (hb : PB3 X C b tb) (hm : behindInMarks op b = false) : PE3 X C (.Compare a [op] [b] pos) (e2 f ta tb) :=
  PE.imp (pe_cmpR ho ha hb hm) fun _ _ _ hq => low_op2 h hq
theorem pe3_ix {r : R2} {f : AH → D → D → Option D} {a b : Expr} {ta tb : TE3} {pos : Pos} (ho : IxR X r) (h : Op2 X C r f) (ha : PB3 X C a ta) (hb : PB3 X C b tb) (hs : PlainIx b) : PE3 X C (.Subscript a b pos) (e2 f ta tb) :=
  PE.imp (pe_ix ho ha hb hs) fun _ _ _ hq => low_op2 h hq
/-- one operand -/
def Op1 (X : Cx) (C : Ct) (r : V → Hp → VK → Prop) (f : AH → D → Option D) : Prop := ∀ (z : S3) (A : AH) (σ : L2.St) (H : Hp) (d1 d : D) (x : V) (Q : VK), Rel X.K X.w C A H → Slots X.K X.w C z A σ H →
  RpB X.K X.w z σ H d1 x → f A d1 = some d → (∀ v H', Gv X.K X.w H H' d v → Q v H') → r x H Q
def e1 (f : AH → D → Option D) (ta : TE3) : TE3 := fun z A Q => ta z A fun d1 A1 => ∃ d, f A1 d1 = some d ∧ Q d A1
theorem pe3_un {op : UnaryOp} {r : V → Hp → VK → Prop} {f : AH → D → Option D} {a : Expr} {ta : TE3} {pos : Pos} (ho : UnR X (unaryOp op) r) (h : Op1 X C r f) (ha : PB3 X C a ta) : PE3 X C (.UnaryOp op a pos) (e1 f ta) :=
  PE.imp (pe_un ho ha) fun σ H Q hq => by
    obtain ⟨z, A, Q3, r0, s, q, g⟩ := hq
    refine ⟨z, A, _, r0, s, q, fun d1 A1 v1 H1 q1 r1 s1 p1 t1 => ?_⟩
    obtain ⟨d, hd, q3⟩ := q1
    exact h z A1 σ H1 d1 d v1 Q r1 s1 t1 hd fun v H' gv => low.gv r1 s1 g p1 q3 gv
/-- a call of a built-in with operands read where they stand -/
def OpN (X : Cx) (C : Ct) (r : List V → Hp → VK → Prop) (f : AH → List D → Option D) : Prop := ∀ (z : S3) (A : AH) (σ : L2.St) (H : Hp) (ds : List D) (d : D) (xs : List V) (Q : VK), Rel X.K X.w C A H → Slots X.K X.w C z A σ H →
  RpBs X.K X.w z σ H ds xs → f A ds = some d → (∀ v H', Gv X.K X.w H H' d v → Q v H') → r xs H Q
def eN (f : AH → List D → Option D) (ta : TA3) : TE3 := fun z A Q => ta z A fun ds A1 => ∃ d, f A1 ds = some d ∧ Q d A1
theorem low_opN {r : List V → Hp → VK → Prop} {f : AH → List D → Option D} {ta : TA3} (h : OpN X C r f) {σ : L2.St} {H : Hp} {Q : VK} (hq : low X.K X.w C (eN f ta) σ H Q) : tCB r (lowAB X.K X.w C ta) σ H Q := by
  obtain ⟨z, A, Q3, r0, s, q, g⟩ := hq
  refine ⟨z, A, _, r0, s, q, fun ds A1 vs H1 q1 r1 s1 p1 t1 => ?_⟩
  obtain ⟨d, hd, q3⟩ := q1
  exact h z A1 σ H1 ds d vs Q r1 s1 t1 hd fun v H' gv => low.gv r1 s1 g p1 q3 gv
theorem pe3_callB {id : String} {r : List V → Hp → VK → Prop} {f : AH → List D → Option D} {x : Str} {p pos : Pos} {e : Expr} {es : List Expr} {t : TA3} (hc : CallR X (.builtin id) r) (h : OpN X C r f) (hg : Gl X x) (hm : X.mg x = none) (hv : bootBuiltins x = some (.builtin id)) (ha : PAB3 X C (e :: es) t)
    (hn : x ≠ "__name__" := by decide) (hdb : (x == ("__debug__" : Str)) = false := by decide) (he : starEach (e :: es) X.env = (false, eval e X.env) :: starEach es X.env := by rfl) (hpl : (backTo pos (starEach es X.env)).any (·.1) = false := by rfl) : PE3 X C (.Call (.Name x p) (e :: es) [] pos) (eN f t) :=
  PE.imp (pe_callB hc hg hm hv ha hn hdb he hpl) fun _ _ _ hq => low_opN h hq
theorem pe3_callTy {T : String} {r : List V → Hp → VK → Prop} {f : AH → List D → Option D} {x : Str} {p pos : Pos} {e : Expr} {es : List Expr} {t : TA3} (hc : CallR X (.type T) r) (h : OpN X C r f) (hg : Gl X x) (hm : X.mg x = none) (hv : bootBuiltins x = some (.type T)) (ha : PAB3 X C (e :: es) t)
    (hn : x ≠ "__name__" := by decide) (hdb : (x == ("__debug__" : Str)) = false := by decide) (he : starEach (e :: es) X.env = (false, eval e X.env) :: starEach es X.env := by rfl) (hpl : (backTo pos (starEach es X.env)).any (·.1) = false := by rfl) : PE3 X C (.Call (.Name x p) (e :: es) [] pos) (eN f t) :=
  PE.imp (pe_callTy hc hg hm hv ha hn hdb he hpl) fun _ _ _ hq => low_opN h hq

/-! ### tests -/
/-- a value that is a truth, as a test -/
def tV (t : TE3) : TT3 := fun z A Q => t z A fun d A' => ∃ b, d = .bl b ∧ Q b A'
theorem pt3_val {e : Expr} {t : TE3} (h : PE3 X C e t) (he : ∀ whole, isTrue e X.env whole = (do let v ← whole; standAt e.pos; holding [v] (truthy v)) := by intro _; rfl) : PT3 X C e (tV t) :=
  PT.imp (pt_val h he) fun σ H Q hq => by
    obtain ⟨z, A, Q3, r, s, q, f⟩ := hq
    refine ⟨z, A, _, r, s, q, fun d A' v H' q' r' s' p' t' => ?_⟩
    obtain ⟨b, rfl, q2⟩ := q'
    have e : v = .bl b := by have := t'.val; exact this
    exact ⟨b, e, f b A' H' q2 r' s' p'⟩
theorem pt3_cmp {op : CmpOp} {r : R2} {f : AH → D → D → Option D} {a b : Expr} {ta tb : TE3} {pos : Pos} (ho : OpR X (compareOp op) r) (h : Op2 X C r f) (ha : PB3 X C a ta) (hb : PB3 X C b tb) (hm : behindInMarks op b = false) : PT3 X C (.Compare a [op] [b] pos) (tV (e2 f ta tb)) :=
  PT.imp (pt_cmpR ho ha hb hm) fun σ H Q hq => by
    obtain ⟨z, A, Q3, r, s, q, f⟩ := hq
    refine low_op2 h ⟨z, A, _, r, s, q, fun d A' v H' q' r' s' p' t' => ?_⟩
    obtain ⟨b, rfl, q2⟩ := q'
    have e : v = .bl b := by have := t'.val; exact this
    exact ⟨b, e, f b A' H' q2 r' s' p'⟩
def tNot3 (t : TT3) : TT3 := fun z A Q => t z A fun b A' => Q (!b) A'
def tAnd3 (t u : TT3) : TT3 := fun z A Q => t z A fun b A' => if b = true then u z A' Q else Q false A'
def tOr3 (t u : TT3) : TT3 := fun z A Q => t z A fun b A' => if b = true then Q true A' else u z A' Q
theorem pt3_not {e : Expr} {t : TT3} {pos} (h : PT3 X C e t) : PT3 X C (.UnaryOp .Not e pos) (tNot3 t) := PT.imp (pt_not h) fun σ H Q hq => by
  obtain ⟨z, A, Q3, r, s, q, f⟩ := hq
  exact ⟨z, A, _, r, s, q, fun b A' H' q' r' s' p' => f _ A' H' q' r' s' p'⟩
abbrev PW3 (X : Cx) (C : Ct) (e : Expr) (t : TT3) : Prop := PW X e (lowT X.K X.w C t)
theorem lowT_and {t u : TT3} {σ : L2.St} {H : Hp} {Q : Bool → Hp → Prop} (hq : lowT X.K X.w C (tAnd3 t u) σ H Q) : tAnd (lowT X.K X.w C t) (lowT X.K X.w C u) σ H Q := by
  obtain ⟨z, A, Q3, r, s, q, f⟩ := hq
  refine ⟨z, A, _, r, s, q, fun b A' H' q' r' s' p' => ?_⟩
  cases b with
  | true => exact ⟨z, A', Q3, r', s', q', fun b A2 H2 q2 r2 s2 p2 => f b A2 H2 q2 r2 s2 (p'.trans p2)⟩
  | false => exact f false A' H' q' r' s' p'
theorem lowT_or {t u : TT3} {σ : L2.St} {H : Hp} {Q : Bool → Hp → Prop} (hq : lowT X.K X.w C (tOr3 t u) σ H Q) : tOr (lowT X.K X.w C t) (lowT X.K X.w C u) σ H Q := by
  obtain ⟨z, A, Q3, r, s, q, f⟩ := hq
  refine ⟨z, A, _, r, s, q, fun b A' H' q' r' s' p' => ?_⟩
  cases b with
  | true => exact f true A' H' q' r' s' p'
  | false => exact ⟨z, A', Q3, r', s', q', fun b A2 H2 q2 r2 s2 p2 => f b A2 H2 q2 r2 s2 (p'.trans p2)⟩
theorem pw3_and1 {a : Expr} {t : TT3} {pos} (h : PT3 X C a t) : PW3 X C (.BoolOp .And [a] pos) t := pw_and1 h
theorem pw3_or1 {a : Expr} {t : TT3} {pos} (h : PT3 X C a t) : PW3 X C (.BoolOp .Or [a] pos) t := pw_or1 h
theorem pw3_and {a b : Expr} {rest : List Expr} {t u : TT3} {pos} (h : PT3 X C a t) (h' : PW3 X C (.BoolOp .And (b :: rest) pos) u) : PW3 X C (.BoolOp .And (a :: b :: rest) pos) (tAnd3 t u) := PW.imp (pw_and h h') fun _ _ _ hq => lowT_and hq
theorem pw3_or {a b : Expr} {rest : List Expr} {t u : TT3} {pos} (h : PT3 X C a t) (h' : PW3 X C (.BoolOp .Or (b :: rest) pos) u) : PW3 X C (.BoolOp .Or (a :: b :: rest) pos) (tOr3 t u) := PW.imp (pw_or h h') fun _ _ _ hq => lowT_or hq
/-- and, or, not as values -/
def eAnd (t u : TE3) : TE3 := fun z A Q => t z A fun d A' => ∃ b, d = .bl b ∧ if b = true then u z A' Q else Q (.bl false) A'
def eOr (t u : TE3) : TE3 := fun z A Q => t z A fun d A' => ∃ b, d = .bl b ∧ if b = true then Q (.bl true) A' else u z A' Q
def eNot (t : TE3) : TE3 := fun z A Q => t z A fun d A' => ∃ b, d = .bl b ∧ Q (.bl (!b)) A'
theorem pe3_one {op} {a : Expr} {t : TE3} {pos} (h : PE3 X C a t) : PE3 X C (.BoolOp op [a] pos) t := pe_one h
theorem pe3_and {a b : Expr} {rest : List Expr} {t u : TE3} {pos} (h : PE3 X C a t) (h' : PE3 X C (.BoolOp .And (b :: rest) pos) u) : PE3 X C (.BoolOp .And (a :: b :: rest) pos) (eAnd t u) := PE.imp (pe_and h h') fun σ H Q hq => by
  obtain ⟨z, A, Q3, r, s, q, f⟩ := hq
  refine ⟨z, A, _, r, s, q, fun d A' v H' q' r' s' p' t' => ?_⟩
  obtain ⟨b, rfl, q2⟩ := q'
  refine ⟨b, by have := t'.val; exact this, ?_⟩
  cases b with
  | true => exact ⟨z, A', Q3, r', s', q2, fun d A2 v H2 q2 r2 s2 p2 t2 => f d A2 v H2 q2 r2 s2 (p'.trans p2) t2⟩
  | false => exact f _ A' _ H' q2 r' s' p' (.of (by rw [Rp]))
theorem pe3_not {a : Expr} {t : TE3} {pos} (h : PE3 X C a t) : PE3 X C (.UnaryOp .Not a pos) (eNot t) := PE.imp (pe_not h) fun σ H Q hq => by
  obtain ⟨z, A, Q3, r, s, q, f⟩ := hq
  refine ⟨z, A, _, r, s, q, fun d A' v H' q' r' s' p' t' => ?_⟩
  obtain ⟨b, rfl, q2⟩ := q'
  exact ⟨b, by have := t'.val; exact this, f _ A' _ H' q2 r' s' p' (.of (by rw [Rp]))⟩
/-- a < b < c -/
def e3 (f g : AH → D → D → Option D) (ta tb tc : TE3) : TE3 := fun z A Q => ta z A fun d1 A1 => tb z A1 fun d2 A2 => ∃ b, f A2 d1 d2 = some (.bl b) ∧ if b = true then tc z A2 fun d3 A3 => ∃ d, g A3 d2 d3 = some d ∧ Q d A3 else Q (.bl false) A2
end
end T3
set_option autoImplicit false
namespace T3
open PySem PySem.Spec PyProof.Rows L2

section
variable {K : PySem.W.Frag} {w : World} {C : Ct} {z : S3} {A : AH} {σ : L2.St} {H : Hp} {d : D} {a : Addr} {u u' : HO} {ob ob' : Ob}
/-- an object of its own is held by several from now on -/
theorem Rel.share (r : Rel K w C A H) (h0 : C.H0 a = none) (q : RpO K w H a ob) : Rel K w C (put A a ob) H where
  heap := fun b o e => by
    by_cases hb : b = a
    · subst hb; rw [put_same] at e; cases e; exact q
    · rw [put_ne hb] at e; exact r.heap b o e
  prot := r.prot
  dom := fun b e => by
    by_cases hb : b = a
    · subst hb; exact .inr h0
    · rw [put_ne hb] at e; exact r.dom b e
  mono := r.mono
  tbl := r.tbl
theorem Slots.share (s : Slots K w C z A σ H) (n : ∀ (i : Nat) (e : D), z[i]? = some (some e) → own e = true → σ[i]? ≠ some (some (V.ref a))) : Slots K w C z (put A a ob) σ H where
  val := s.val
  sep := fun i e b h o hs => by
    have hb : b ≠ a := fun q => n i e h o (by rw [hs, q])
    rw [put_ne hb]
    exact s.sep i e b h o hs
  uniq := s.uniq
  len := s.len
/-- an object that a slot holds is changed -/
theorem own_write (r : Rel K w C A H) (s : Slots K w C z A σ H) {i : Nat} (hi : z[i]? = some (some d)) (o : own d = true) (hs : σ[i]? = some (some (V.ref a))) (h : H a = some u) (c : Chg u) {d' : D} (eo : obOf d' = some ob') (q : RpO K w (upd H a u') a ob') :
    Rel K w C A (upd H a u') ∧ Slots K w C (z.set i (some d')) A σ (upd H a u') := by
  obtain ⟨hA, h0⟩ := s.sep i d a hi o hs
  have hl : i < z.length := (List.getElem?_eq_some_iff.mp hi).1
  have od' : own d' = true := by cases d' <;> first | rfl | simp [obOf] at eo
  have zs : ∀ (j : Nat) (e : D), (z.set i (some d'))[j]? = some (some e) → (j = i ∧ e = d') ∨ (j ≠ i ∧ z[j]? = some (some e)) := fun j e hj => by
    by_cases q : i = j
    · subst q
      rw [List.getElem?_set_self hl] at hj
      cases hj
      exact .inl ⟨rfl, rfl⟩
    · rw [List.getElem?_set_ne q] at hj
      exact .inr ⟨fun e => q e.symm, hj⟩
  refine ⟨r.alone hA h0 h c, fun j e hj => ?_, fun j e b hj oe hb => ?_, fun j k e f b h1 o1 h2 o2 s1 s2 => ?_, by rw [List.length_set]; exact s.len⟩
  · rcases zs j e hj with ⟨rfl, rfl⟩ | ⟨nj, hj⟩
    · exact ⟨_, hs, .mk eo q⟩
    · obtain ⟨v, h1, h2⟩ := s.val j e hj
      exact ⟨v, h1, h2.keep (pers_upd h c) fun oe b eb => upd_ne fun q => nj (s.uniq j i e d a hj oe hi o (by rw [h1, eb, q]) hs)⟩
  · rcases zs j e hj with ⟨rfl, rfl⟩ | ⟨nj, hj⟩
    · exact s.sep j d b hi o hb
    · exact s.sep j e b hj oe hb
  · rcases zs j e h1 with ⟨ej, _⟩ | ⟨nj, h1⟩
    · rcases zs k f h2 with ⟨ek, _⟩ | ⟨nk, h2⟩
      · rw [ej, ek]
      · rw [ej] at s1 ⊢
        exact s.uniq i k d f b hi o h2 o2 s1 s2
    · rcases zs k f h2 with ⟨ek, _⟩ | ⟨nk, h2⟩
      · rw [ek] at s2 ⊢
        exact s.uniq j i e d b h1 o1 hi o s1 s2
      · exact s.uniq j k e f b h1 o1 h2 o2 s1 s2
/-- an object that several hold is changed -/
theorem ref_write (r : Rel K w C A H) (s : Slots K w C z A σ H) (hA : A a = some ob) (h : H a = some u) (c : Chg u) (q : RpO K w (upd H a u') a ob') :
    Rel K w C (put A a ob') (upd H a u') ∧ Slots K w C z (put A a ob') σ (upd H a u') := by
  have ns : ∀ (i : Nat) (e : D), z[i]? = some (some e) → own e = true → σ[i]? ≠ some (some (V.ref a)) := fun i e hi oe hs => by
    rw [(s.sep i e a hi oe hs).1] at hA; cases hA
  refine ⟨⟨fun b x e => ?_, fun b x e1 e2 e3 => ?_, fun b e => ?_, fun b e => ?_, r.tbl.upd h c⟩, (s.share ns).alone h c ns⟩
  · by_cases hb : b = a
    · subst hb; rw [put_same] at e; cases e; exact q
    · rw [put_ne hb] at e
      exact (r.heap b x e).keep (pers_upd h c) (upd_ne hb)
  · have hb : b ≠ a := fun q => by
      subst q
      rcases r.dom b (by rw [hA]; simp) with n | n
      · exact n e2
      · rw [n] at e1; cases e1
    rw [upd_ne hb]
    exact r.prot b x e1 e2 e3
  · by_cases hb : b = a
    · subst hb; exact r.dom b (by rw [hA]; simp)
    · rw [put_ne hb] at e; exact r.dom b e
  · by_cases hb : b = a
    · subst hb; rw [upd_same] at e; cases e
    · rw [upd_ne hb] at e; exact r.mono b e
end

section
variable {X : Cx} {C : Ct}
/-! ### blocks -/
def sNil : TS3 := fun D z A => D.nx z A
def sSeq (t u : TS3) : TS3 := fun D z A => t { D with nx := u D } z A
theorem pss3_nil : PSs3 X C [] sNil := PSs.imp pss_nil fun D σ H hq => by
  obtain ⟨z, A, D3, r, s, q, f⟩ := hq
  exact f.nx z A σ H q r s (.refl H)
theorem pss3_cons {st : Stmt} {rest : List Stmt} {t u : TS3} (h : PS3 X C st t) (hr : PSs3 X C rest u) : PSs3 X C (st :: rest) (sSeq t u) := PSs.imp (pss_cons h hr) fun D σ H hq => by
  obtain ⟨z, A, D3, r, s, q, f⟩ := hq
  exact ⟨z, A, _, r, s, q, ⟨fun z' A' σ' H' q' r' s' p' => ⟨z', A', D3, r', s', q', f.later p'⟩, f.rt, f.bk, f.ct⟩⟩
def sBreak : TS3 := fun D z A => D.bk z A
def sCont : TS3 := fun D z A => D.ct z A
def sDrop (t : TE3) : TS3 := fun D z A => t z A fun _ A' => D.nx z A'
theorem ps3_expr {e : Expr} {t : TE3} {pos} (h : PE3 X C e t) (hs : swapsWith e none pos.line X.env = pure false := by rfl) : PS3 X C (.Expr e pos) (sDrop t) := PS.imp (ps_expr h hs) fun D σ H hq => by
  obtain ⟨z, A, D3, r, s, q, f⟩ := hq
  exact ⟨z, A, _, r, s, q, fun d A' v H' q' r' s' p' t' => f.nx z A' σ H' q' r' s' p'⟩
def sRet (t : TE3) : TS3 := fun D z A => t z A D.rt
theorem ps3_ret {e : Expr} {t : TE3} {pos} (h : PE3 X C e t) : PS3 X C (.Return (some e) pos) (sRet t) := PS.imp (ps_ret h) fun D σ H hq => by
  obtain ⟨z, A, D3, r, s, q, f⟩ := hq
  exact ⟨z, A, _, r, s, q, fun d A' v H' q' r' s' p' t' => f.rt d A' v H' q' r' t'.val (fun o a ev => ⟨(t'.alone o a ev).1, (t'.alone o a ev).2.1⟩) p'⟩
/-- return of a name: what it holds alone is handed on -/
def sRetV (i : Nat) : TS3 := fun D z A => ∃ d, z[i]? = some (some d) ∧ D.rt d A
theorem ps3_retV {e : Expr} {i : Nat} {pos} (h : PE X e (tVar i)) : PS3 X C (.Return (some e) pos) (sRetV i) := PS.imp (ps_ret h) fun D σ H hq => by
  obtain ⟨z, A, D3, r, s, ⟨d, h1, q⟩, f⟩ := hq
  obtain ⟨v, hv, rv⟩ := s.val i d h1
  exact ⟨v, hv, f.rt d A v H q r rv (fun o a ev => s.sep i d a h1 o (by rw [hv, ev])) (.refl H)⟩
def sRetN : TS3 := fun D _ A => D.rt .non A
def sIf (c : TT3) (t u : TS3) : TS3 := fun D z A => c z A fun b A' => if b = true then t D z A' else u D z A'
theorem ps3_if {c : Expr} {a b : List Stmt} {tc : TT3} {t u : TS3} {pos} (hc : PT3 X C c tc) (ha : PSs3 X C a t) (hb : PSs3 X C b u) : PS3 X C (.If c a b pos) (sIf tc t u) := PS.imp (ps_if hc ha hb) fun D σ H hq => by
  obtain ⟨z, A, D3, r, s, q, f⟩ := hq
  refine ⟨z, A, _, r, s, q, fun b A' H' q' r' s' p' => ?_⟩
  cases b with
  | true => exact ⟨z, A', D3, r', s', q', f.later p'⟩
  | false => exact ⟨z, A', D3, r', s', q', f.later p'⟩

/-! ### a name is stored -/
def sSet (i : Nat) (t : TE3) : TS3 := fun D z A => t z A fun d A' => D.nx (z.set i (some d)) A'
theorem low_set {i : Nat} {t : TE3} {D : Ends} {σ : L2.St} {H : Hp} (hq : lowS X.K X.w C (sSet i t) D σ H) : tAsg (low X.K X.w C t) (gName i) D σ H := by
  obtain ⟨z, A, D3, r, s, q, f⟩ := hq
  exact ⟨z, A, _, r, s, q, fun d A' v H' q' r' s' p' t' => f.nx _ A' _ H' q' r' (s'.set t' i) p'⟩
theorem ps3_set {i : Nat} {x : Str} {e : Expr} {t : TE3} {pos pos' : Pos} (hN : X.N.Nodup) (hi : X.N[i]? = some x) (hx : Loc X.env.scope x) (h : PE3 X C e t) (hs : swapsWith e (some (.Name x pos')) pos.line X.env = pure false := by rfl) (hf : X.fn x = true ∨ X.env.scope.names.lookup x = some .local := by first | exact .inl rfl | exact .inr rfl | assumption) :
    PS3 X C (.Assign [.Name x pos'] e pos) (sSet i t) := PS.imp (ps_set hN hi hx h hs hf) fun _ _ _ hq => low_set hq
/-- .. and held by several from now on -/
def shareD (z : S3) (i : Nat) (d : D) (A : AH) (k : S3 → AH → Prop) : Prop := match obOf d with
  | some ob => ∀ a, A a = none → k (z.set i (some (.ref a))) (put A a ob)
  | none => k (z.set i (some d)) A
def sSetR (i : Nat) (t : TE3) : TS3 := fun D z A => t z A fun d A' => shareD z i d A' D.nx
theorem low_setR {i : Nat} {t : TE3} {D : Ends} {σ : L2.St} {H : Hp} (hq : lowS X.K X.w C (sSetR i t) D σ H) : tAsg (low X.K X.w C t) (gName i) D σ H := by
  obtain ⟨z, A, D3, r, s, q, f⟩ := hq
  refine ⟨z, A, _, r, s, q, fun d A' v H' q' r' s' p' t' => ?_⟩
  cases eo : obOf d with
  | none =>
    unfold shareD at q'
    rw [eo] at q'
    exact f.nx _ A' _ H' q' r' (s'.set t' i) p'
  | some ob =>
    unfold shareD at q'
    rw [eo] at q'
    have o : own d = true := by cases d <;> first | rfl | simp [obOf] at eo
    obtain ⟨a, ob', rfl, eo', ro⟩ := t'.val.ob o
    rw [eo] at eo'; cases eo'
    obtain ⟨n1, n2, n3⟩ := t'.alone o a rfl
    exact f.nx _ _ _ H' (q' a n1) (r'.share n2 ro) ((s'.share n3).set (.of (by rw [Rp])) i) p'
theorem ps3_setR {i : Nat} {x : Str} {e : Expr} {t : TE3} {pos pos' : Pos} (hN : X.N.Nodup) (hi : X.N[i]? = some x) (hx : Loc X.env.scope x) (h : PE3 X C e t) (hs : swapsWith e (some (.Name x pos')) pos.line X.env = pure false := by rfl) (hf : X.fn x = true ∨ X.env.scope.names.lookup x = some .local := by first | exact .inl rfl | exact .inr rfl | assumption) :
    PS3 X C (.Assign [.Name x pos'] e pos) (sSetR i t) := PS.imp (ps_set hN hi hx h hs hf) fun _ _ _ hq => low_setR hq
/-- an expression's value, made new, is held by several from now on -/
def eSh (t : TE3) : TE3 := fun z A Q => t z A fun d A' => ∃ ob, obOf d = some ob ∧ ∀ a, A' a = none → Q (.ref a) (put A' a ob)
theorem pe3_sh {e : Expr} {t : TE3} (h : PE3 X C e t) : PE3 X C e (eSh t) := PE.imp h fun σ H Q hq => by
  obtain ⟨z, A, Q3, r, s, q, f⟩ := hq
  refine ⟨z, A, _, r, s, q, fun d A' v H' q' r' s' p' t' => ?_⟩
  obtain ⟨ob, eo, q2⟩ := q'
  have o : own d = true := by cases d <;> first | rfl | simp [obOf] at eo
  obtain ⟨a, ob', rfl, eo', ro⟩ := t'.val.ob o
  rw [eo] at eo'; cases eo'
  obtain ⟨n1, n2, n3⟩ := t'.alone o a rfl
  exact f _ _ _ H' (q2 a n1) (r'.share n2 ro) (s'.share n3) p' (.of (by rw [Rp]))
/-- a slot lets go -/
def sFz (i : Nat) (t : TS3) : TS3 := fun D z A => ∃ d, z[i]? = some (some d) ∧ t D (z.set i (some (frz d))) A
theorem ps_goS {st : List Stmt} {t : TS} (h : PSs X st t) (i : Nat) : PSs X st fun D σ H => t D σ H ∨ ∃ a u, σ[i]? = some (some (V.ref a)) ∧ H a = some u ∧ CanFrz u = true ∧ ∀ o, t D σ (upd H a (.frz o u)) := ⟨fun pins s σ H D I q => by
  rcases q with q | ⟨a, u, _, hx, m, q⟩
  · exact h.run pins s σ H D I q
  · obtain ⟨o, I2⟩ := Inv.freeze I hx m
    exact h.run pins s σ _ D I2 (q o)⟩
theorem pss3_fz {st : List Stmt} {t : TS3} (i : Nat) (h : PSs3 X C st t) : PSs3 X C st (sFz i t) := PSs.imp (ps_goS h i) fun D σ H hq => by
  obtain ⟨z, A, D3, r, s, ⟨d, hd, q⟩, f⟩ := hq
  obtain ⟨v, hv, rv⟩ := s.val i d hd
  have hl : i < z.length := (List.getElem?_eq_some_iff.mp hd).1
  cases o : own d with
  | false =>
    rw [frz_of o] at q
    have e : z.set i (some d) = z := by
      apply List.ext_getElem?
      intro j
      by_cases hj : i = j
      · subst hj; rw [List.getElem?_set_self hl, hd]
      · rw [List.getElem?_set_ne hj]
    rw [e] at q
    exact .inl ⟨z, A, D3, r, s, q, f⟩
  | true =>
    obtain ⟨a, ob, rfl, eo, ro⟩ := rv.ob o
    obtain ⟨u, hu, m, c, fr⟩ := ro.frz eo
    refine .inr ⟨a, u, hv, hu, m, fun ob' => ?_⟩
    obtain ⟨n1, n2⟩ := s.sep i d a hd o hv
    have zs : ∀ (j : Nat) (e : T3.D), (z.set i (some (frz d)))[j]? = some (some e) → own e = true → i ≠ j ∧ z[j]? = some (some e) := fun j e hj oe => by
      by_cases q : i = j
      · subst q
        rw [List.getElem?_set_self hl] at hj
        cases hj
        cases d <;> simp [own, frz] at o oe
      · rw [List.getElem?_set_ne q] at hj
        exact ⟨q, hj⟩
    refine ⟨_, A, D3, r.alone n1 n2 hu c, ⟨fun j e hj => ?_, fun j e b hj oe hb => ?_, fun j k e g b h1 o1 h2 o2 s1 s2 => ?_, by rw [List.length_set]; exact s.len⟩, q, f.later (pers_upd hu c)⟩
    · by_cases q : i = j
      · subst q
        rw [List.getElem?_set_self hl] at hj
        cases hj
        exact ⟨_, hv, .of (fr ob')⟩
      · rw [List.getElem?_set_ne q] at hj
        obtain ⟨v, h1, h2⟩ := s.val j e hj
        exact ⟨v, h1, h2.keep (pers_upd hu c) fun oe b eb => upd_ne fun qq => q (s.uniq i j d e a hd o hj oe hv (by rw [h1, eb, qq]))⟩
    · obtain ⟨nj, hj'⟩ := zs j e hj oe
      exact s.sep j e b hj' oe hb
    · obtain ⟨_, h1'⟩ := zs j e h1 o1
      obtain ⟨_, h2'⟩ := zs k g h2 o2
      exact s.uniq j k e g b h1' o1 h2' o2 s1 s2
end

/-! ### methods of built-in types -/
def TyOk (X : Cx) (T : String) (x : V) (H : Hp) : Prop := ∀ (pins : List (Addr × Obj)) (σ : L2.St) (s : Shared) (v : Value), L2.Inv X pins σ H s → RelV x v → s.TypeIs v T ∧ ∀ a, v = .ref a → ∃ ob, s.heap.get? a = some ob ∧ ob.dict = none
section
variable {X : Cx} {C : Ct} {o e : Expr} {es : List Expr} {to : TE} {t : TA} {name : Str} {apos cpos : Pos} {T id : String} {r : V → List V → Hp → VK → Prop}
def tBW (X : Cx) (T : String) (r : V → List V → Hp → VK → Prop) (to : TE) (t : TA) : TE := fun σ H Q => to σ H fun x H1 => TyOk X T x H1 ∧ t σ H1 fun xs H2 => r x xs H2 Q
theorem pe_bw0 (pa : PlainAttrs T) (slot : Slot T name id) (hty : typeOf (.builtin id) = pure (.type "method_descriptor")) (hm : MtR X id r) (ho : PE X o to)
    (hbase : attributeBase o name X.env (eval o X.env) = eval o X.env := by rfl) (hline : (apos.endLine == cpos.line) = true := by rfl) : PE X (.Call (.Attribute o name apos) [] [] cpos) (tBW X T r to tNil) := by
  refine ⟨fun pins s σ H Q I h => ?_⟩
  refine wpAny_Call_method0_late hbase hline (thn (ho.run pins s σ H _ I h) fun v s1 ⟨x, H1, I1, r1, ty, q1⟩ => ?_)
  obtain ⟨h1, h2⟩ := ty pins σ s1 v I1 r1
  exact ⟨T, id, pa, slot, hty, h1, h2, Calls.callWith_builtin rfl (PySem.evalArgs_none (hm pins s1 σ H1 x [] v [] Q I1 r1 .nil q1))⟩
theorem pe_bw (pa : PlainAttrs T) (slot : Slot T name id) (hty : typeOf (.builtin id) = pure (.type "method_descriptor")) (hm : MtR X id r) (ho : PE X o to) (ha : PA X (e :: es) t)
    (hbase : attributeBase o name X.env (eval o X.env) = eval o X.env := by rfl)
    (hfew : ((backTo cpos (starEach (e :: es) X.env)).all (fun x => !x.1) && (backToKw cpos (keywordEach [] X.env)).all (fun x => x.1.isSome)
      && decide ((e :: es).length + ([] : List Keyword).length + (if ([] : List Keyword).isEmpty then 0 else 1) < 30)) = true := by rfl)
    (hline : (apos.endLine == cpos.line) = true := by rfl) (hs : starEach (e :: es) X.env = (false, eval e X.env) :: starEach es X.env := by rfl) (hplain : (backTo cpos (starEach es X.env)).any (·.1) = false := by rfl) :
    PE X (.Call (.Attribute o name apos) (e :: es) [] cpos) (tBW X T r to t) := by
  refine ⟨fun pins s σ H Q I h => ?_⟩
  refine wpAny_Call_method_late hbase hfew hline rfl (thn (ho.run pins s σ H _ I h) fun v s1 ⟨x, H1, I1, r1, ty, q1⟩ => ?_)
  obtain ⟨h1, h2⟩ := ty pins σ s1 v I1 r1
  refine ⟨T, id, pa, slot, hty, h1, h2, ?_⟩
  have hA := ha.run cpos pins s1 σ H1 _ I1 q1
  rw [hs] at hA ⊢
  refine Calls.callWith_builtin (by show (false || (backTo cpos (starEach es X.env)).any (·.1)) = false; rw [hplain] <;> rfl) (Calls.evalArgs_plain ?_)
  exact thn hA fun us s2 ⟨vs, H2, I2, r2, q2⟩ => hm pins s2 σ H2 x vs v us Q I2 r1 r2 q2

/-! #### .. that read -/
/-- x.m(..) that changes nothing: the receiver and the arguments where they stand -/
structure MtN (X : Cx) (C : Ct) (T : String) (r : V → List V → Hp → VK → Prop) (ok : AH → D → Bool) (f : AH → D → List D → Option D) : Prop where
  ty : ∀ (z : S3) (A : AH) (σ : L2.St) (H : Hp) (d : D) (x : V), Rel X.K X.w C A H → Slots X.K X.w C z A σ H → RpB X.K X.w z σ H d x → ok A d = true → TyOk X T x H
  act : ∀ (z : S3) (A : AH) (σ : L2.St) (H : Hp) (d0 : D) (ds : List D) (d : D) (x : V) (xs : List V) (Q : VK), Rel X.K X.w C A H → Slots X.K X.w C z A σ H →
    RpB X.K X.w z σ H d0 x → RpBs X.K X.w z σ H ds xs → f A d0 ds = some d → (∀ v H', Gv X.K X.w H H' d v → Q v H') → r x xs H Q
def eM (ok : AH → D → Bool) (f : AH → D → List D → Option D) (to : TE3) (ta : TA3) : TE3 := fun z A Q => to z A fun d0 A1 => ok A1 d0 = true ∧ ta z A1 fun ds A2 => ∃ d, f A2 d0 ds = some d ∧ Q d A2
/-! #### .. that change the receiver -/
structure MtC (X : Cx) (T : String) (r : V → List V → Hp → VK → Prop) (ok : Ob → Bool) (g : Ob → List D → Option (Ob × D)) : Prop where
  ty : ∀ (H : Hp) (a : Addr) (ob : Ob), RpO X.K X.w H a ob → ok ob = true → TyOk X T (.ref a) H
  act : ∀ (H : Hp) (a : Addr) (ob ob' : Ob) (ds : List D) (d : D) (xs : List V) (Q : VK), RpO X.K X.w H a ob → Rps X.K X.w H ds xs → g ob ds = some (ob', d) →
    (∀ u' v, RpO X.K X.w (upd H a u') a ob' → Rp X.K X.w (upd H a u') d v → Q v (upd H a u')) → r (.ref a) xs H Q
/-- the receiver a reference -/
def eMR (ok : Ob → Bool) (g : Ob → List D → Option (Ob × D)) (to : TE3) (ta : TA3) : TE3 := fun z A Q => to z A fun d0 A1 => ∃ a ob, d0 = .ref a ∧ A1 a = some ob ∧ ok ob = true ∧
  ta z A1 fun ds A2 => ∃ ob1 ob' d, A2 a = some ob1 ∧ g ob1 ds = some (ob', d) ∧ Q d (put A2 a ob')
theorem low_mr {ok : Ob → Bool} {g : Ob → List D → Option (Ob × D)} {to : TE3} {ta : TA3} (h : MtC X T r ok g) {σ : L2.St} {H : Hp} {Q : VK} (hq : low X.K X.w C (eMR ok g to ta) σ H Q) : tBW X T r (low X.K X.w C to) (lowA X.K X.w C ta) σ H Q := by
  obtain ⟨z, A, Q3, r0, s, q, k⟩ := hq
  refine ⟨z, A, _, r0, s, q, fun d0 A1 v1 H1 q1 r1 s1 p1 t1 => ?_⟩
  obtain ⟨a, ob, rfl, ea, eok, q2⟩ := q1
  have ev : v1 = .ref a := by have := t1.val; exact this
  subst ev
  refine ⟨h.ty H1 a ob (r1.heap a ob ea) eok, z, A1, _, r1, s1, q2, fun ds A2 vs H2 q3 r2 s2 p2 t2 => ?_⟩
  obtain ⟨ob1, ob', d, e1, e2, q4⟩ := q3
  have ro := r2.heap a ob1 e1
  obtain ⟨u, hu, c⟩ := ro.there
  refine h.act H2 a ob1 ob' ds d vs Q ro t2 e2 fun u' v q5 rv => ?_
  obtain ⟨r3, s3⟩ := ref_write r2 s2 e1 hu c q5
  exact k d _ v _ q4 r3 s3 ((p1.trans p2).trans (pers_upd hu c)) (.of rv)
theorem pe3_mr {ok : Ob → Bool} {g : Ob → List D → Option (Ob × D)} {to : TE3} {ta : TA3} (pa : PlainAttrs T) (slot : Slot T name id) (hty : typeOf (.builtin id) = pure (.type "method_descriptor")) (hm : MtR X id r) (h : MtC X T r ok g) (ho : PE3 X C o to) (ha : PA3 X C (e :: es) ta)
    (hbase : attributeBase o name X.env (eval o X.env) = eval o X.env := by rfl)
    (hfew : ((backTo cpos (starEach (e :: es) X.env)).all (fun x => !x.1) && (backToKw cpos (keywordEach [] X.env)).all (fun x => x.1.isSome)
      && decide ((e :: es).length + ([] : List Keyword).length + (if ([] : List Keyword).isEmpty then 0 else 1) < 30)) = true := by rfl)
    (hline : (apos.endLine == cpos.line) = true := by rfl) (hs : starEach (e :: es) X.env = (false, eval e X.env) :: starEach es X.env := by rfl) (hplain : (backTo cpos (starEach es X.env)).any (·.1) = false := by rfl) :
    PE3 X C (.Call (.Attribute o name apos) (e :: es) [] cpos) (eMR ok g to ta) :=
  PE.imp (pe_bw pa slot hty hm ho ha hbase hfew hline hs hplain) fun σ H Q hq => low_mr h hq
/-- the receiver a name that holds it alone; the value goes to a consumer of its own (W: dropped, or stored) -/
def dOf : Ob → D
  | .lst xs => .ml xs | .dct kvs => .md kvs | .ins _ _ => .non
def sM (i : Nat) (ok : Ob → Bool) (g : Ob → List D → Option (Ob × D)) (ta : TA3) (k : D → TS3) : TS3 := fun D z A => ∃ d0 ob, z[i]? = some (some d0) ∧ obOf d0 = some ob ∧ ok ob = true ∧
  ta z A fun ds A2 => ∃ ob' d, g ob ds = some (ob', d) ∧ obOf (dOf ob') = some ob' ∧ k d D (z.set i (some (dOf ob'))) A2
theorem low_sm {i : Nat} {ok : Ob → Bool} {g : Ob → List D → Option (Ob × D)} {ta : TA3} {k : D → TS3} (h : MtC X T r ok g) {σ : L2.St} {H : Hp} {D : Ends} {W : VK} (hq : lowS X.K X.w C (sM i ok g ta k) D σ H)
    (hk : ∀ d v z A H D3, k d D3 z A → Fits3 X.K X.w C H D3 D → Rel X.K X.w C A H → Slots X.K X.w C z A σ H → Rp X.K X.w H d v → W v H) : tBW X T r (tVar i) (lowA X.K X.w C ta) σ H W := by
  obtain ⟨z, A, D3, r0, s, ⟨d0, ob, hd, eo, eok, q⟩, f⟩ := hq
  obtain ⟨v, hv, rv⟩ := s.val i d0 hd
  have o : own d0 = true := by cases d0 <;> first | rfl | simp [obOf] at eo
  obtain ⟨a, ob', rfl, eo', ro⟩ := rv.ob o
  rw [eo] at eo'; cases eo'
  refine ⟨_, hv, h.ty H a ob ro eok, z, A, _, r0, s, q, fun ds A2 vs H2 q3 r2 s2 p2 t2 => ?_⟩
  obtain ⟨ob', d, e2, e3, q4⟩ := q3
  obtain ⟨v2, hv2, rv2⟩ := s2.val i d0 hd
  rw [hv] at hv2; cases hv2
  obtain ⟨a2, ob2, ea2, eo2, ro2⟩ := rv2.ob o
  cases ea2
  rw [eo] at eo2; cases eo2
  obtain ⟨u, hu, c⟩ := ro2.there
  refine h.act H2 a ob ob' ds d vs W ro2 t2 e2 fun u' v q5 rv => ?_
  obtain ⟨r3, s3⟩ := own_write r2 s2 hd o hv hu c e3 q5
  exact hk d v _ _ _ D3 q4 (f.later (p2.trans (pers_upd hu c))) r3 s3 rv
def kDrop : D → TS3 := fun _ D z A => D.nx z A
theorem ps3_m {i : Nat} {ok : Ob → Bool} {g : Ob → List D → Option (Ob × D)} {ta : TA3} {pos : Pos} (pa : PlainAttrs T) (slot : Slot T name id) (hty : typeOf (.builtin id) = pure (.type "method_descriptor")) (hm : MtR X id r) (h : MtC X T r ok g) (ho : PE X o (tVar i)) (ha : PA3 X C (e :: es) ta)
    (hsw : swapsWith (.Call (.Attribute o name apos) (e :: es) [] cpos) none pos.line X.env = pure false := by rfl)
    (hbase : attributeBase o name X.env (eval o X.env) = eval o X.env := by rfl)
    (hfew : ((backTo cpos (starEach (e :: es) X.env)).all (fun x => !x.1) && (backToKw cpos (keywordEach [] X.env)).all (fun x => x.1.isSome)
      && decide ((e :: es).length + ([] : List Keyword).length + (if ([] : List Keyword).isEmpty then 0 else 1) < 30)) = true := by rfl)
    (hline : (apos.endLine == cpos.line) = true := by rfl) (hs : starEach (e :: es) X.env = (false, eval e X.env) :: starEach es X.env := by rfl) (hplain : (backTo cpos (starEach es X.env)).any (·.1) = false := by rfl) :
    PS3 X C (.Expr (.Call (.Attribute o name apos) (e :: es) [] cpos) pos) (sM i ok g ta kDrop) :=
  PS.imp (ps_expr (pe_bw pa slot hty hm ho ha hbase hfew hline hs hplain) hsw) fun D σ H hq => low_sm (X := X) (C := C) (W := fun _ H1 => D.nx σ H1) h hq fun d v z A H D3 hk f r s rv => f.nx z A σ H hk r s (.refl H)

/-! #### o[i] = e -/
/-- a store by values -/
def SetC (X : Cx) (r : TSet) (g : Ob → D → D → Option Ob) : Prop := ∀ (H : Hp) (a : Addr) (ob ob' : Ob) (k v : D) (x y : V) (Q : Hp → Prop), RpO X.K X.w H a ob → Rp X.K X.w H k x → Rp X.K X.w H v y → g ob k v = some ob' →
  (∀ u', RpO X.K X.w (upd H a u') a ob' → Q (upd H a u')) → r (.ref a) x y H Q
def sPut (i : Nat) (g : Ob → D → D → Option Ob) (tk tv : TE3) : TS3 := fun D z A => (∃ d, z[i]? = some (some d)) ∧ tv z A fun v A1 => tk z A1 fun k A2 => ∃ d0 ob ob', z[i]? = some (some d0) ∧ obOf d0 = some ob ∧ g ob (frz k) (frz v) = some ob' ∧ obOf (dOf ob') = some ob' ∧ D.nx (z.set i (some (dOf ob'))) A2
def sPutR (g : Ob → D → D → Option Ob) (to tk tv : TE3) : TS3 := fun D z A => tv z A fun v A1 => to z A1 fun d0 A2 => tk z A2 fun k A3 => ∃ a ob ob', frz d0 = .ref a ∧ A3 a = some ob ∧ g ob (frz k) (frz v) = some ob' ∧ D.nx z (put A3 a ob')
section
variable {i k : Expr} {j : Nat} {tr : TSet} {g : Ob → D → D → Option Ob} {tk tv : TE3} {to3 : TE3} {tpos pos : Pos} {ve : Expr}
theorem ps3_put (hr : PSet X tr) (h : SetC X tr g) (ho : PE X o (tVar j)) (hk : PE3 X C k tk) (hv : PE3 X C ve tv)
    (ha : ∀ v, assign (.Subscript o k tpos) X.env v = (do
      let ov ← holding [v] (eval o X.env)
      let iv ← holding [v, ov] (eval k X.env)
      standAt tpos
      holding [v, ov, iv] (setItem ov iv v)
      release [v, ov, iv] []) := by intro _; rfl)
    (hs : swapsWithSole [.Subscript o k tpos] ve pos.line X.env = pure false := by rfl) (hw : swappedStores [.Subscript o k tpos] ve X.env = pure none := by rfl)
    (h1 : (assignEach [.Subscript o k tpos] X.env).map (·.2) = [assign (.Subscript o k tpos) X.env] := by rfl) : PS3 X C (.Assign [.Subscript o k tpos] ve pos) (sPut j g tk tv) :=
  PS.imp (ps_asg (pe_fz hv) (pg_sub ho (pe_fz hk) hr ha) hs hw h1) fun D σ H hq => by
    obtain ⟨z, A, D3, r, s, ⟨⟨dj, hdj⟩, q⟩, f⟩ := hq
    obtain ⟨x, hx, _⟩ := s.val j dj hdj
    refine ⟨z, A, _, r, s, q, fun v A1 y H1 q1 r1 s1 p1 t1 => ?_⟩
    refine ⟨x, hx, z, A1, _, r1, s1, q1, fun kd A2 kx H2 q2 r2 s2 p2 t2 => ?_⟩
    obtain ⟨d0, ob, ob', hd, eo, eg, e3, q4⟩ := q2
    have o : own d0 = true := by cases d0 <;> first | rfl | simp [obOf] at eo
    obtain ⟨x2, hx2, rv2⟩ := s2.val j d0 hd
    rw [hx] at hx2; cases hx2
    obtain ⟨a2, ob2, ea2, eo2, ro2⟩ := rv2.ob o
    subst ea2
    rw [eo] at eo2; cases eo2
    obtain ⟨u, hu, c⟩ := ro2.there
    refine h H2 a2 ob ob' _ _ kx y _ ro2 t2 (t1.pers p2) eg fun u' q5 => ?_
    obtain ⟨r3, s3⟩ := own_write r2 s2 hd o hx hu c e3 q5
    exact f.nx _ _ σ _ q4 r3 s3 ((p1.trans p2).trans (pers_upd hu c))
theorem ps3_putR (hr : PSet X tr) (h : SetC X tr g) (ho : PE3 X C o to3) (hk : PE3 X C k tk) (hv : PE3 X C ve tv)
    (ha : ∀ v, assign (.Subscript o k tpos) X.env v = (do
      let ov ← holding [v] (eval o X.env)
      let iv ← holding [v, ov] (eval k X.env)
      standAt tpos
      holding [v, ov, iv] (setItem ov iv v)
      release [v, ov, iv] []) := by intro _; rfl)
    (hs : swapsWithSole [.Subscript o k tpos] ve pos.line X.env = pure false := by rfl) (hw : swappedStores [.Subscript o k tpos] ve X.env = pure none := by rfl)
    (h1 : (assignEach [.Subscript o k tpos] X.env).map (·.2) = [assign (.Subscript o k tpos) X.env] := by rfl) : PS3 X C (.Assign [.Subscript o k tpos] ve pos) (sPutR g to3 tk tv) :=
  PS.imp (ps_asg (pe_fz hv) (pg_sub (pe_fz ho) (pe_fz hk) hr ha) hs hw h1) fun D σ H hq => by
    obtain ⟨z, A, D3, r, s, q, f⟩ := hq
    refine ⟨z, A, _, r, s, q, fun v A1 y H1 q1 r1 s1 p1 t1 => ⟨z, A1, _, r1, s1, q1, fun d0 A2 x H2 q2 r2 s2 p2 t2 => ⟨z, A2, _, r2, s2, q2, fun kd A3 kx H3 q3 r3 s3 p3 t3 => ?_⟩⟩⟩
    obtain ⟨a, ob, ob', ed, ea, eg, q4⟩ := q3
    rw [ed] at t2
    have ex : x = .ref a := by rw [Rp] at t2; exact t2
    subst ex
    have ro := r3.heap a ob ea
    obtain ⟨u, hu, c⟩ := ro.there
    refine h H3 a ob ob' _ _ kx y _ ro t3 ((t1.pers p2).pers p3) eg fun u' q5 => ?_
    obtain ⟨r4, s4⟩ := ref_write r3 s3 ea hu c q5
    exact f.nx _ _ σ _ q4 r4 s4 (((p1.trans p2).trans p3).trans (pers_upd hu c))
end
end
end T3
set_option autoImplicit false
namespace T3
open PySem PySem.Spec PyProof.Rows L2

/-! ### targets: a name; names in brackets -/
inductive Pat where
  | nm (i : Nat) | tp (is : List Nat)
def Pat.ix : Pat → List Nat
  | .nm i => [i] | .tp is => is
def gNames : List Nat → TGs
  | [] => gNil
  | i :: is => gCons (gName i) (gNames is)
def gPat (K : PySem.W.Frag) : Pat → TG
  | .nm i => gName i
  | .tp is => gTup K is.length (gNames is)
def setAll : S3 → List Nat → List D → S3
  | z, i :: is, d :: ds => setAll (z.set i (some d)) is ds
  | z, _, _ => z
def setP : Pat → D → S3 → Option S3
  | .nm i, d, z => some (z.set i (some d))
  | .tp is, .tup ds, z => if ds.length = is.length then some (setAll z is ds) else none
  | .tp _, _, _ => none
theorem wipe_at (σ : L2.St) : ∀ (vs : List Nat) (j : Nat), j ∈ vs → (wipe σ vs)[j]? = if j < σ.length then some none else none
  | [], j, h => by cases h
  | v :: vs, j, h => by
    show ((wipe σ vs).set v none)[j]? = _
    by_cases e : v = j
    · subst e
      by_cases hl : v < σ.length
      · rw [List.getElem?_set_self (by rw [wipe_length]; exact hl), if_pos hl]
      · rw [if_neg hl, List.getElem?_eq_none (by rw [List.length_set, wipe_length]; omega)]
    · rw [List.getElem?_set_ne e]
      exact wipe_at σ vs j ((List.mem_cons.mp h).resolve_left fun q => e q.symm)
theorem wipe_set (σ : L2.St) (i : Nat) (x : Option V) (vs : List Nat) (h : i ∈ vs) : wipe (σ.set i x) vs = wipe σ vs := by
  apply List.ext_getElem?
  intro j
  by_cases hj : j ∈ vs
  · rw [wipe_at _ _ _ hj, wipe_at _ _ _ hj, List.length_set]
  · rw [wipe_out hj, wipe_out hj, List.getElem?_set_ne (fun e => hj (by rw [← e]; exact h))]
section
variable {K : PySem.W.Frag} {w : World} {C : Ct} {z z' : S3} {A : AH} {σ : L2.St} {H : Hp} {d : D} {v : V}
theorem names_low (r : Rel K w C A H) : ∀ (is : List Nat) (ds : List D) (vs : List V) (z : S3) (σ : L2.St), Slots K w C z A σ H → Rps K w H ds vs → ds.length = is.length → ∀ Q : L2.St → Hp → Prop,
    (∀ σ', Slots K w C (setAll z is ds) A σ' H → (∀ ws : List Nat, (∀ i ∈ is, i ∈ ws) → wipe σ' ws = wipe σ ws) → Q σ' H) → gNames is vs σ H Q
  | [], ds, vs, z, σ, s, h, e, Q, q => by
    have : ds = [] := List.eq_nil_of_length_eq_zero (by simpa using e)
    subst this
    rw [Rps] at h
    exact ⟨h, q σ s fun _ _ => rfl⟩
  | i :: is, [], vs, z, σ, s, h, e, Q, q => by simp at e
  | i :: is, d :: ds, vs, z, σ, s, h, e, Q, q => by
    rw [Rps] at h
    obtain ⟨x, xs, rfl, h1, h2⟩ := h
    refine ⟨x, xs, rfl, ?_⟩
    refine names_low r is ds xs (z.set i (some d)) (σ.set i (some x)) (s.set (.of h1) i) h2 (by simpa using e) Q fun σ' s' hw => q σ' s' fun ws hi => ?_
    rw [hw ws fun j hj => hi j (List.mem_cons_of_mem _ hj), wipe_set _ _ _ _ (hi i List.mem_cons_self)]
/-- an item, as the target wants it: names in brackets ask less -/
def RpP (K : PySem.W.Frag) (w : World) (H : Hp) : Pat → D → V → Prop
  | .nm _, d, v => Rp K w H d v
  | .tp _, d, v => Rp K w H d v ∨ ∃ a xs ds, d = .tup ds ∧ v = .ref a ∧ SqT K H a xs ∧ Rps K w H ds xs
theorem RpP.of {p : Pat} (h : Rp K w H d v) : RpP K w H p d v := by
  cases p with
  | nm i => exact h
  | tp is => exact .inl h
theorem RpP.notOwn {p : Pat} (h : RpP K w H p d v) : own d = false ∧ ∀ ds, d = .tup ds → ∀ y ∈ ds, own y = false := by
  have one : ∀ {ds : List D} {xs : List V}, Rps K w H ds xs → ∀ y ∈ ds, own y = false := fun rs y hy => by
    obtain ⟨k, hk⟩ := List.mem_iff_getElem?.mp hy
    obtain ⟨v, _, rv⟩ := rs.get hk
    exact rv.notOwn
  have rp : Rp K w H d v → own d = false ∧ ∀ ds, d = .tup ds → ∀ y ∈ ds, own y = false := fun h => ⟨h.notOwn, fun ds e y hy => by
    rw [e, Rp] at h
    obtain ⟨a, xs, _, _, rs⟩ := h
    exact one rs y hy⟩
  cases p with
  | nm i => exact rp h
  | tp is =>
    rcases h with h | ⟨a, xs, ds, rfl, _, _, rs⟩
    · exact rp h
    · exact ⟨rfl, fun ds' e y hy => by cases e; exact one rs y hy⟩
theorem pat_low {p : Pat} {Q : L2.St → Hp → Prop} (r : Rel K w C A H) (s : Slots K w C z A σ H) (h : RpP K w H p d v) (e : setP p d z = some z')
    (q : ∀ σ', Slots K w C z' A σ' H → (∀ ws : List Nat, (∀ i ∈ p.ix, i ∈ ws) → wipe σ' ws = wipe σ ws) → Q σ' H) : gPat K p v σ H Q := by
  cases p with
  | nm i =>
    simp only [setP, Option.some.injEq] at e
    subst e
    exact q _ (s.set (.of h) i) fun ws hi => wipe_set _ _ _ _ (hi i (by simp [Pat.ix]))
  | tp is =>
    cases d with
    | tup ds =>
      rw [setP] at e
      split at e
      · rename_i hl
        cases e
        have h' : ∃ a xs, v = .ref a ∧ SqT K H a xs ∧ Rps K w H ds xs := by
          rcases h with h | ⟨a, xs, ds', e, ev, h1, h2⟩
          · rw [Rp] at h
            obtain ⟨a, xs, rfl, hs, hr⟩ := h
            exact ⟨a, xs, rfl, hs.sqt, hr⟩
          · cases e
            exact ⟨a, xs, ev, h1, h2⟩
        obtain ⟨a, xs, rfl, hs, hr⟩ := h'
        refine ⟨a, xs, rfl, hs, hr.length.trans hl, ?_⟩
        exact names_low r is ds xs z σ s hr hl Q q
      · cases e
    | _ => cases e
end
section
variable {X : Cx} {C : Ct}
def sAsgP (p : Pat) (t : TE3) : TS3 := fun D z A => t z A fun d A' => ∃ z', setP p (frz d) z = some z' ∧ D.nx z' A'
theorem ps3_asgP {tg e : Expr} {p : Pat} {t : TE3} {pos : Pos} (he : PE3 X C e t) (hg : PG X tg (gPat X.K p)) (hs : swapsWithSole [tg] e pos.line X.env = pure false := by rfl) (hw : swappedStores [tg] e X.env = pure none := by rfl)
    (h1 : (assignEach [tg] X.env).map (·.2) = [assign tg X.env] := by rfl) : PS3 X C (.Assign [tg] e pos) (sAsgP p t) := PS.imp (ps_asg (pe_fz he) hg hs hw h1) fun D σ H hq => by
  obtain ⟨z, A, D3, r, s, q, f⟩ := hq
  refine ⟨z, A, _, r, s, q, fun d A' v H' q' r' s' p' t' => ?_⟩
  obtain ⟨z', e, q2⟩ := q'
  exact pat_low r' s' (.of t') e fun σ' s2 _ => f.nx z' A' σ' H' q2 r' s2 p'

/-! ### what a loop walks -/
/-- lists that others hold, with what stands in them -/
abbrev Ws := List (Addr × List D)
/-- what an object shows: a dict shows itself -/
def hvO : Ob → Option (List D)
  | .lst xs => some xs | .dct kvs => some [.md kvs] | .ins _ _ => none
@[simp] theorem hvO_lst (xs : List D) : hvO (.lst xs) = some xs := (rfl)
@[simp] theorem hvO_dct (kvs : List (D × D)) : hvO (.dct kvs) = some [.md kvs] := (rfl)
def Held (A : AH) (ws : Ws) : Prop := ∀ q ∈ ws, (A q.1).bind hvO = some q.2
def Seen (K : PySem.W.Frag) (w : World) (ws : Ws) (H : Hp) : Prop := ∀ q ∈ ws, ∃ ob, hvO ob = some q.2 ∧ RpO K w H q.1 ob
theorem Held.seen {K : PySem.W.Frag} {w : World} {C : Ct} {A : AH} {H : Hp} {ws : Ws} (r : Rel K w C A H) (h : Held A ws) : Seen K w ws H := fun q hq => by
  have e := h q hq
  cases c : A q.1 with
  | none => rw [c] at e; cases e
  | some ob => rw [c] at e; exact ⟨ob, e, r.heap q.1 _ c⟩
abbrev TI3 := S3 → AH → (List D → Ws → AH → Prop) → Prop
/-- the iterator yields these items as long as data stays data -/
def Steady (K : PySem.W.Frag) (w : World) (p : Pat) (ws : Ws) (J : It) (items : List D) (H : Hp) : Prop :=
  (∀ H2, Pers H H2 → Seen K w ws H2 → J.stop items.length H2) ∧ ∀ i d H2, Pers H H2 → Seen K w ws H2 → items[i]? = some d → J.go i H2 ∧ ∀ x H3, J.yld i H2 x H3 → Ext H2 H3 ∧ RpP K w H3 p d x
def lowI (K : PySem.W.Frag) (w : World) (C : Ct) (p : Pat) (t : TI3) : TI := fun σ H R => ∃ z A Q3, Rel K w C A H ∧ Slots K w C z A σ H ∧ t z A Q3 ∧
  ∀ items ws A' J H', Q3 items ws A' → Rel K w C A' H' → Slots K w C z A' σ H' → Pers H H' → Steady K w p ws J items H' → R J H'
abbrev PI3 (X : Cx) (C : Ct) (p : Pat) (tg e : Expr) (t : TI3) : Prop := PI X tg e (lowI X.K X.w C p t)
theorem PI.imp {tg e : Expr} {t t' : TI} (h : PI X tg e t) (i : ∀ σ H R, t' σ H R → t σ H R) : PI X tg e t' := ⟨fun pins s σ H R I q => h.run pins s σ H R I (i σ H R q)⟩

/-! ### for -/
def forW (p : Pat) (tb : TS3) (E : Ends3) (ws : Ws) : List D → S3 → AH → Prop
  | [], z, A => Held A ws ∧ E.nx z A
  | x :: xs, z, A => Held A ws ∧ ∃ z', setP p x z = some z' ∧ tb { E with nx := forW p tb E ws xs, ct := forW p tb E ws xs, bk := E.nx } z' A
def sFor (t : TI3) (p : Pat) (tb : TS3) : TS3 := fun D z A => t z A fun items ws A' => forW p tb D ws items z A'
theorem ps3_for {tg iter : Expr} {body : List Stmt} {t : TI3} {p : Pat} {tb : TS3} {pos : Pos} (hp : PassesOwn (model X.prog X.w) X.A X.env X.xe) (hc : X.calm = true) (hi : PI3 X C p tg iter t) (hg : PG X tg (gPat X.K p)) (hb : PSs3 X C body tb)
    (hs : ∀ x, foldedSetIterable iter X.env x = pure x := by intro _; rfl) : PS3 X C (.For tg iter body [] pos) (sFor t p tb) := PS.imp (ps_for hp hc hi hg hb hs) fun D σ H hq => by
  obtain ⟨z, A, D3, r, s, q, f⟩ := hq
  refine ⟨z, A, _, r, s, q, fun items ws A1 J H1 q1 r1 s1 p1 st => ?_⟩
  refine ⟨fun i m σ2 H2 => ∃ z2 A2, m = items.length - i ∧ i ≤ items.length ∧ Rel X.K X.w C A2 H2 ∧ Slots X.K X.w C z2 A2 σ2 H2 ∧ Pers H1 H2 ∧ forW p tb D3 ws (items.drop i) z2 A2,
    ⟨items.length, z, A1, by simp, Nat.zero_le _, r1, s1, .refl _, by simpa using q1⟩, ?_⟩
  rintro i m σ2 H2 ⟨z2, A2, rfl, hi, r2, s2, p2, q2⟩
  by_cases hlt : i < items.length
  · refine .inr ?_
    have hd : items.drop i = items[i] :: items.drop (i + 1) := List.drop_eq_getElem_cons hlt
    rw [hd] at q2
    obtain ⟨hw, z3, e3, q3⟩ := q2
    obtain ⟨go, yl⟩ := st.2 i items[i] H2 p2 (hw.seen r2) (List.getElem?_eq_getElem hlt)
    refine ⟨go, fun σ4 H4 => ∃ z4 A4, Rel X.K X.w C A4 H4 ∧ Slots X.K X.w C z4 A4 σ4 H4 ∧ Pers H1 H4 ∧ forW p tb D3 ws (items.drop (i + 1)) z4 A4, ?_, fun x H3 y => ?_⟩
    · rintro σ4 H4 ⟨z4, A4, r4, s4, p4, q4⟩
      exact ⟨items.length - (i + 1), by omega, z4, A4, rfl, hlt, r4, s4, p4, q4⟩
    · obtain ⟨e, rx⟩ := yl x H3 y
      have pb : Pers H1 H3 := p2.trans (.of_ext e)
      refine pat_low (r2.ext e) (s2.ext e) rx e3 fun σ' s' _ => ?_
      exact ⟨z3, A2, _, r2.ext e, s', q3, ⟨fun z4 A4 σ4 H4 q4 r4 s4 p4 => ⟨z4, A4, r4, s4, pb.trans p4, q4⟩, fun d A4 v H4 q4 r4 t4 o4 p4 => f.rt d A4 v H4 q4 r4 t4 o4 ((p1.trans pb).trans p4),
        fun z4 A4 σ4 H4 q4 r4 s4 p4 => f.nx z4 A4 σ4 H4 q4 r4 s4 ((p1.trans pb).trans p4), fun z4 A4 σ4 H4 q4 r4 s4 p4 => ⟨z4, A4, r4, s4, pb.trans p4, q4⟩⟩⟩
  · have e : i = items.length := by omega
    subst e
    rw [List.drop_length] at q2
    exact .inl ⟨st.1 H2 p2 (q2.1.seen r2), f.nx z2 A2 σ2 H2 q2.2 r2 s2 (p1.trans p2)⟩

/-! ### while -/
/-! ### comprehensions -/
def wipe3 (z : S3) : List Nat → S3
  | [] => z
  | v :: vs => (wipe3 z vs).set v none
theorem wipe3_length (z : S3) : ∀ vs : List Nat, (wipe3 z vs).length = z.length
  | [] => rfl
  | v :: vs => by unfold wipe3; rw [List.length_set, wipe3_length z vs]
theorem wipe3_some {z : S3} {i : Nat} {x : D} : ∀ {vs : List Nat}, (wipe3 z vs)[i]? = some (some x) → z[i]? = some (some x) ∧ i ∉ vs
  | [], h => ⟨h, by simp⟩
  | v :: vs, h => by
    unfold wipe3 at h
    by_cases e : v = i
    · subst e
      rw [List.getElem?_set] at h
      split at h
      · split at h <;> cases h
      · rename_i hn; exact absurd rfl hn
    · rw [List.getElem?_set_ne e] at h
      obtain ⟨h1, h2⟩ := wipe3_some h
      exact ⟨h1, by simp only [List.mem_cons, not_or]; exact ⟨fun q => e q.symm, h2⟩⟩
theorem wipe3_out {z : S3} {i : Nat} : ∀ {vs : List Nat}, i ∉ vs → (wipe3 z vs)[i]? = z[i]?
  | [], _ => rfl
  | v :: vs, h => by
    unfold wipe3
    simp only [List.mem_cons, not_or] at h
    rw [List.getElem?_set_ne (fun e => h.1 e.symm), wipe3_out h.2]
theorem setAll_out {i : Nat} : ∀ {is : List Nat} {ds : List D} {z : S3}, i ∉ is → (setAll z is ds)[i]? = z[i]?
  | [], _, _, _ => by unfold setAll; rfl
  | _ :: _, [], _, _ => by unfold setAll; rfl
  | j :: is, d :: ds, z, h => by
    simp only [List.mem_cons, not_or] at h
    unfold setAll
    rw [setAll_out h.2, List.getElem?_set_ne (fun e => h.1 e.symm)]
theorem setP_out {p : Pat} {d : D} {z z' : S3} {i : Nat} (e : setP p d z = some z') (h : i ∉ p.ix) : z'[i]? = z[i]? := by
  cases p with
  | nm j =>
    simp only [setP, Option.some.injEq] at e
    subst e
    exact List.getElem?_set_ne (fun q => h (by simp [Pat.ix, q]))
  | tp is =>
    cases d with
    | tup ds =>
      rw [setP] at e
      split at e
      · cases e; exact setAll_out h
      · cases e
    | _ => cases e
def lcW (p : Pat) (tt : TT3) (te : TE3) (z0 : S3) (ws : Ws) : List D → List D → AH → (D → AH → Prop) → Prop
  | [], acc, A, Q => Held A ws ∧ Q (.ml acc) A
  | x :: xs, acc, A, Q => Held A ws ∧ ∃ z', setP p x z0 = some z' ∧ tt z' A fun b A1 => if b = true then te z' A1 fun d A2 => acc.length < sizeLine ∧ lcW p tt te z0 ws xs (acc ++ [frz d]) A2 Q else lcW p tt te z0 ws xs acc A1 Q
def eLc (t : TI3) (p : Pat) (tt : TT3) (te : TE3) (vs : List Nat) : TE3 := fun z A Q => (∀ i ∈ vs, ∀ d, z[i]? = some (some d) → own d = false) ∧ t z A fun items ws A' => lcW p tt te (wipe3 z vs) ws items [] A' Q
def tYes3 : TT3 := fun _ A Q => Q true A
abbrev PTs3 (X : Cx) (C : Ct) (ifs : List Expr) (t : TT3) : Prop := PTs X ifs (lowT X.K X.w C t)
theorem PTs.imp {e : List Expr} {t t' : TT} (h : PTs X e t) (i : ∀ σ H Q, t' σ H Q → t σ H Q) : PTs X e t' := ⟨fun pins s σ H Q I q => h.run pins s σ H Q I (i σ H Q q)⟩
theorem pts3_nil : PTs3 X C [] tYes3 := PTs.imp pts_nil fun σ H Q hq => by
  obtain ⟨z, A, Q3, r, s, q, f⟩ := hq
  exact f true A H q r s (.refl H)
theorem pts3_one {c : Expr} {t : TT3} (h : PT3 X C c t) : PTs3 X C [c] t := pts_one h
/-- within a block whose list stands at L -/
def Ct.with (C : Ct) (L : Addr) (o : HO) : Ct := ⟨fun b => if b = L then some o else C.H0 b, fun b => if b = L then none else C.A0 b⟩
section
variable {K : PySem.W.Frag} {w : World} {C : Ct} {z : S3} {A : AH} {σ : L2.St} {H : Hp} {L : Addr} {o : HO}
theorem Rel.into {ls : List V} (r : Rel K w C A H) (eo : o = .lst ls) (h : H L = some o) (hA : A L = none) : Rel K w (C.with L o) A H where
  heap := r.heap
  tbl := fun b ps e => by
    by_cases hb : b = L
    · have : (some o : Option HO) = some (.tbl ps) := by simpa [Ct.with, hb] using e
      rw [eo] at this; cases this
    · simp only [Ct.with, hb, if_false] at e
      obtain ⟨p1, e1, g1⟩ := r.tbl b ps e
      refine ⟨p1, e1, fun g => g1 ⟨g.1, fun pos cv q => ?_⟩⟩
      obtain ⟨c, oc, q1, q2⟩ := g.2 pos cv q
      by_cases hc : c = L
      · have : (some o : Option HO) = some (.frz oc (CodeQ c)) := by simpa [Ct.with, hc] using q2
        rw [eo] at this; cases this
      · simp only [Ct.with, hc, if_false] at q2
        exact ⟨c, oc, q1, q2⟩
  prot := fun b x e1 e2 e3 => by
    by_cases hb : b = L
    · subst hb
      have : (some o : Option HO) = some x := by simpa [Ct.with] using e1
      rw [h, this]
    · simp only [Ct.with, hb, if_false] at e1 e2
      exact r.prot b x e1 e2 e3
  dom := fun b e => by
    by_cases hb : b = L
    · rw [hb, hA] at e; exact absurd rfl e
    · simp only [Ct.with, hb, if_false]; exact r.dom b e
  mono := fun b e => by
    by_cases hb : b = L
    · rw [hb, h] at e; cases e
    · simp only [Ct.with, hb, if_false]; exact r.mono b e
theorem Rel.outof {ls : List V} (r : Rel K w (C.with L o) A H) (eo : o = .lst ls) (h0 : C.H0 L = none) : Rel K w C A H ∧ H L = some o ∧ A L = none := by
  refine ⟨⟨r.heap, fun b x e1 e2 e3 => ?_, fun b e => ?_, fun b e => ?_, fun b ps e => ?_⟩, r.prot L o (by simp [Ct.with]) (by simp [Ct.with]) (by rw [eo]; exact fun _ h => nomatch h), ?_⟩
  · have hb : b ≠ L := fun q => by rw [q, h0] at e1; cases e1
    exact r.prot b x (by simp [Ct.with, hb, e1]) (by simp [Ct.with, hb, e2]) e3
  · by_cases hb : b = L
    · rw [hb]; exact .inr h0
    · have := r.dom b e
      simpa [Ct.with, hb] using this
  · by_cases hb : b = L
    · rw [hb]; exact h0
    · have := r.mono b e
      simpa [Ct.with, hb] using this
  · have hb : b ≠ L := fun q => by rw [q, h0] at e; cases e
    obtain ⟨p1, e1, g1⟩ := r.tbl b ps (by simp [Ct.with, hb, e])
    refine ⟨p1, e1, fun g => g1 ⟨g.1, fun pos cv q => ?_⟩⟩
    obtain ⟨c, oc, q1, q2⟩ := g.2 pos cv q
    have hc : c ≠ L := fun z => by rw [z, h0] at q2; cases q2
    exact ⟨c, oc, q1, by simp [Ct.with, hc, q2]⟩
  · cases q : A L with
    | none => rfl
    | some x =>
      have := r.dom L (by rw [q]; simp)
      simp [Ct.with] at this
theorem Slots.into (s : Slots K w C z A σ H) (n : ∀ (i : Nat) (e : D), z[i]? = some (some e) → own e = true → σ[i]? ≠ some (some (V.ref L))) : Slots K w (C.with L o) z A σ H where
  val := s.val
  sep := fun i d a h oo hs => by
    have hb : a ≠ L := fun q => n i d h oo (by rw [hs, q])
    simpa [Ct.with, hb] using s.sep i d a h oo hs
  uniq := s.uniq
  len := s.len
theorem Slots.outof (s : Slots K w (C.with L o) z A σ H) (h0 : C.H0 L = none) : Slots K w C z A σ H ∧ ∀ (i : Nat) (e : D), z[i]? = some (some e) → own e = true → σ[i]? ≠ some (some (V.ref L)) := by
  refine ⟨⟨s.val, fun i d a h oo hs => ?_, s.uniq, s.len⟩, fun i e h oo hs => ?_⟩
  · have q := s.sep i d a h oo hs
    by_cases hb : a = L
    · rw [hb]; exact ⟨by rw [← hb]; exact q.1, h0⟩
    · simpa [Ct.with, hb] using q
  · have q := (s.sep i e L h oo hs).2
    simp [Ct.with] at q
theorem Slots.wipe (s : Slots K w C z A σ H) (vs : List Nat) : Slots K w C (wipe3 z vs) A (L2.wipe σ vs) H where
  val := fun i d h => by
    obtain ⟨h1, h2⟩ := wipe3_some h
    obtain ⟨v, h3, h4⟩ := s.val i d h1
    exact ⟨v, by rw [wipe_out h2]; exact h3, h4⟩
  sep := fun i d a h oo hs => by
    obtain ⟨h1, h2⟩ := wipe3_some h
    rw [wipe_out h2] at hs
    exact s.sep i d a h1 oo hs
  uniq := fun i j d e a h1 o1 h2 o2 s1 s2 => by
    obtain ⟨g1, n1⟩ := wipe3_some h1
    obtain ⟨g2, n2⟩ := wipe3_some h2
    rw [wipe_out n1] at s1
    rw [wipe_out n2] at s2
    exact s.uniq i j d e a g1 o1 g2 o2 s1 s2
  len := by rw [wipe3_length, wipe_length]; exact s.len
/-- behind a block: the slots of the def as they were -/
theorem Slots.back {vs : List Nat} {p : Pat} {x : D} {z' : S3} {A' : AH} {σ' : L2.St} {H' : Hp} (s : Slots K w C z A σ H) (nv : ∀ i ∈ vs, ∀ d, z[i]? = some (some d) → own d = false) (hp : ∀ i ∈ p.ix, i ∈ vs) (e : setP p x (wipe3 z vs) = some z') (hw : L2.wipe σ' vs = L2.wipe σ vs)
    (s' : Slots K w C z' A' σ' H') (pe : Pers H H') : Slots K w C z A' σ H' := by
  have zz : ∀ i, i ∉ vs → z'[i]? = z[i]? := fun i hi => by rw [setP_out e (fun q => hi (hp i q)), wipe3_out hi]
  have ss : ∀ i, i ∉ vs → σ'[i]? = σ[i]? := fun i hi => by
    have := congrArg (fun l => l[i]?) hw
    simpa [wipe_out hi] using this
  have nin : ∀ (i : Nat) (d : D), z[i]? = some (some d) → own d = true → i ∉ vs := fun i d h oo hi => by
    rw [nv i hi d h] at oo; cases oo
  refine ⟨fun i d h => ?_, fun i d a h oo hs => ?_, fun i j d f a h1 o1 h2 o2 s1 s2 => ?_, s.len⟩
  · by_cases hi : i ∈ vs
    · obtain ⟨v, h1, h2⟩ := s.val i d h
      exact ⟨v, h1, .of ((h2.rp (nv i hi d h)).pers pe)⟩
    · obtain ⟨v, h1, h2⟩ := s'.val i d (by rw [zz i hi]; exact h)
      exact ⟨v, by rw [← ss i hi]; exact h1, h2⟩
  · have hi := nin i d h oo
    exact s'.sep i d a (by rw [zz i hi]; exact h) oo (by rw [ss i hi]; exact hs)
  · have hi := nin i d h1 o1
    have hj := nin j f h2 o2
    exact s'.uniq i j d f a (by rw [zz i hi]; exact h1) o1 (by rw [zz j hj]; exact h2) o2 (by rw [ss i hi]; exact s1) (by rw [ss j hj]; exact s2)
end
theorem low_lc {t : TI3} {p : Pat} {tt : TT3} {te : TE3} {vs : List Nat} (hp : ∀ i ∈ p.ix, i ∈ vs) {σ : L2.St} {H : Hp} {Q : VK} (hq : low X.K X.w C (eLc t p tt te vs) σ H Q) :
    tLc (lowI X.K X.w C p t) (gPat X.K p) (fun σ H Q => ∃ C', lowT X.K X.w C' tt σ H Q) (tGo (fun σ H Q => ∃ C', low X.K X.w C' te σ H Q)) vs σ H Q := by
  obtain ⟨z, A, Q3, r, s, ⟨nv, q⟩, f⟩ := hq
  refine ⟨z, A, _, r, s, q, fun items ws A1 J H1 q1 r1 s1 p1 st L hL => ?_⟩
  have h0 : C.H0 L = none := r1.mono L hL
  have e1 := ext_upd (o := .lst []) hL
  have notL : ∀ (i : Nat) (e : D), z[i]? = some (some e) → own e = true → σ[i]? ≠ some (some (V.ref L)) := fun i e hi oe hs => by
    obtain ⟨v, h1, h2⟩ := s1.val i e hi
    rw [hs] at h1; cases h1
    obtain ⟨b, ob, eb, _, rb⟩ := h2.ob oe
    cases eb
    obtain ⟨_, hb, _⟩ := rb.there
    rw [hL] at hb; cases hb
  refine ⟨fun i m H2 => ∃ A2 acc accV, m = items.length - i ∧ i ≤ items.length ∧ Rel X.K X.w C A2 H2 ∧ A2 L = none ∧ Slots X.K X.w C z A2 σ H2 ∧ Pers H1 H2 ∧ H2 L = some (.lst accV) ∧ Rps X.K X.w H2 acc accV ∧ lcW p tt te (wipe3 z vs) ws (items.drop i) acc A2 Q3,
    ⟨items.length, A1, [], [], by simp, Nat.zero_le _, r1.ext e1, r1.afresh hL, s1.ext e1, .of_ext e1, upd_same, Rps.nil, by simpa using q1⟩, ?_⟩
  rintro i m H2 ⟨A2, acc, accV, rfl, hi, r2, hA2, s2, p2, hL2, ra, q2⟩
  by_cases hlt : i < items.length
  · refine .inr ?_
    have hd : items.drop i = items[i] :: items.drop (i + 1) := List.drop_eq_getElem_cons hlt
    rw [hd] at q2
    obtain ⟨hwd, z3, e3, q3⟩ := q2
    obtain ⟨go, yl⟩ := st.2 i items[i] H2 p2 (hwd.seen r2) (List.getElem?_eq_getElem hlt)
    refine ⟨go, fun H4 => ∃ A4 acc4 accV4, Rel X.K X.w C A4 H4 ∧ A4 L = none ∧ Slots X.K X.w C z A4 σ H4 ∧ Pers H1 H4 ∧ H4 L = some (.lst accV4) ∧ Rps X.K X.w H4 acc4 accV4 ∧ lcW p tt te (wipe3 z vs) ws (items.drop (i + 1)) acc4 A4 Q3, ?_, fun x H3 y => ?_⟩
    · rintro H4 ⟨A4, acc4, accV4, a1, a2, a3, a4, a5, a6, a7⟩
      exact ⟨items.length - (i + 1), by omega, A4, acc4, accV4, rfl, hlt, a1, a2, a3, a4, a5, a6, a7⟩
    · obtain ⟨e, rx⟩ := yl x H3 y
      have pb : Pers H1 H3 := p2.trans (.of_ext e)
      have r3 := r2.ext e
      have s3 := s2.ext e
      have hL3 : H3 L = some (.lst accV) := e _ _ hL2
      refine pat_low (z := wipe3 z vs) r3 (s3.wipe vs) rx e3 fun σ' s' hw => ?_
      have hw' : L2.wipe σ' vs = L2.wipe σ vs := by
        rw [hw vs hp]
        apply List.ext_getElem?
        intro j
        by_cases hj : j ∈ vs
        · rw [wipe_at _ _ _ hj, wipe_at _ _ _ hj, wipe_length]
        · rw [wipe_out hj, wipe_out hj]
      refine ⟨hw', C.with L (.lst accV), z3, A2, _, r3.into rfl hL3 hA2, s'.into (fun j d hj oj hs => ?_), q3, fun b A4 H4 q4 r4 s4 p4 => ?_⟩
      · by_cases hv : j ∈ vs
        · by_cases hpx : j ∈ p.ix
          · obtain ⟨v, h1, h2⟩ := s'.val j d hj
            rw [hs] at h1; cases h1
            have q := (s'.sep j d L hj oj hs).1
            obtain ⟨b, ob, eb, _, rb⟩ := h2.ob oj
            -- an item is data: it holds nothing alone
            exact absurd oj (by
              have nd : ∀ (p : Pat) (x : D) (z z' : S3) (j : Nat) (d : D), own x = false → (∀ ds, x = .tup ds → ∀ y ∈ ds, own y = false) → setP p x z = some z' → j ∈ p.ix → z'[j]? = some (some d) → own d = false := by
                intro p x z z' j d ox ot e hj hz
                cases p with
                | nm k =>
                  simp only [setP, Option.some.injEq] at e
                  subst e
                  simp [Pat.ix] at hj
                  subst hj
                  rw [List.getElem?_set] at hz
                  split at hz
                  · split at hz
                    · cases hz; exact ox
                    · cases hz
                  · rename_i hn; exact absurd rfl hn
                | tp is =>
                  cases x with
                  | tup ds =>
                    rw [setP] at e
                    split at e
                    · rename_i hl
                      cases e
                      have go : ∀ (is : List Nat) (ds : List D) (z : S3), (∀ y ∈ ds, own y = false) → ds.length = is.length → j ∈ is → (setAll z is ds)[j]? = some (some d) → own d = false := by
                        intro is
                        induction is with
                        | nil => intro ds z _ _ h _; cases h
                        | cons k is ih =>
                          intro ds z ho hl hj hz
                          cases ds with
                          | nil => simp at hl
                          | cons y ds =>
                            unfold setAll at hz
                            by_cases hjs : j ∈ is
                            · exact ih ds _ (fun y hy => ho y (List.mem_cons_of_mem _ hy)) (by simpa using hl) hjs hz
                            · rw [setAll_out hjs] at hz
                              have : j = k := by
                                rcases List.mem_cons.mp hj with q | q
                                · exact q
                                · exact absurd q hjs
                              subst this
                              rw [List.getElem?_set] at hz
                              split at hz
                              · split at hz
                                · cases hz; exact ho _ List.mem_cons_self
                                · cases hz
                              · rename_i hn; exact absurd rfl hn
                      exact go is ds z (ot ds rfl) hl hj hz
                    · cases e
                  | _ => cases e
              have oi : own items[i] = false := rx.notOwn.1
              have ot := rx.notOwn.2
              rw [nd p items[i] _ z3 j d oi ot e3 hpx hj]
              simp)
          · have hz : z3[j]? = (wipe3 z vs)[j]? := setP_out e3 hpx
            rw [hz] at hj
            exact absurd hv (wipe3_some hj).2
        · have hz : z3[j]? = z[j]? := by rw [setP_out e3 (fun q => hv (hp j q)), wipe3_out hv]
          rw [hz] at hj
          have hσ : σ'[j]? = σ[j]? := by
            have := congrArg (fun l => l[j]?) hw'
            simpa [wipe_out hv] using this
          exact notL j d hj oj (by rw [← hσ]; exact hs)
      · cases b with
        | false =>
          obtain ⟨r5, hL5, hA5⟩ := r4.outof rfl h0
          obtain ⟨s5, _⟩ := s4.outof h0
          exact ⟨A4, acc, accV, r5, hA5, s3.back nv hp e3 hw' s5 p4, pb.trans p4, hL5, ra.pers ((Pers.of_ext e).trans p4), q4⟩
        | true =>
          refine ⟨C.with L (.lst accV), z3, A4, _, r4, s4, q4, fun d A5 v H5 q5 r5 s5 p5 t5 => ?_⟩
          have fin : ∀ (H6 : Hp), Rel X.K X.w (C.with L (.lst accV)) A5 H6 → Slots X.K X.w (C.with L (.lst accV)) z3 A5 σ' H6 → Pers H4 H6 → Rp X.K X.w H6 (frz d) v →
              ∃ acc, H6 L = some (.lst acc) ∧ acc.length < sizeLine ∧ ∃ A4 acc4 accV4, Rel X.K X.w C A4 (upd H6 L (.lst (acc ++ [v]))) ∧ A4 L = none ∧ Slots X.K X.w C z A4 σ (upd H6 L (.lst (acc ++ [v]))) ∧ Pers H1 (upd H6 L (.lst (acc ++ [v]))) ∧ (upd H6 L (.lst (acc ++ [v]))) L = some (.lst accV4) ∧
                Rps X.K X.w (upd H6 L (.lst (acc ++ [v]))) acc4 accV4 ∧ lcW p tt te (wipe3 z vs) ws (items.drop (i + 1)) acc4 A4 Q3 := by
            intro H6 r6 s6 p6 t6
            obtain ⟨r7, hL7, hA7⟩ := r6.outof rfl h0
            obtain ⟨s7, n7⟩ := s6.outof h0
            have pu : Pers H6 (upd H6 L (.lst (accV ++ [v]))) := pers_upd hL7 chg_lst
            have sb := s3.back nv hp e3 hw' s7 (p4.trans p6)
            have ra6 : Rps X.K X.w H6 acc accV := ra.pers (((Pers.of_ext e).trans p4).trans p6)
            refine ⟨accV, hL7, by rw [ra.length]; exact q5.1, A5, acc ++ [frz d], accV ++ [v], r7.alone hA7 h0 hL7 chg_lst, hA7, sb.alone hL7 chg_lst notL, ((pb.trans p4).trans p6).trans pu, upd_same, ?_, q5.2⟩
            exact (ra6.pers pu).append (Rps.one (t6.pers pu))
          cases o : own d with
          | false => exact .inr (fin H5 r5 s5 p5 (by rw [frz_of o]; exact t5.val.rp o))
          | true =>
            obtain ⟨a, ob, rfl, eo, ro⟩ := t5.val.ob o
            obtain ⟨u, hu, m, c, fr⟩ := ro.frz eo
            obtain ⟨n1, n2, n3⟩ := t5.alone o a rfl
            exact .inl ⟨a, u, rfl, hu, m, fun ob' => fin _ (r5.alone n1 n2 hu c) (s5.alone hu c n3) (p5.trans (pers_upd hu c)) (fr ob')⟩
  · have e : i = items.length := by omega
    subst e
    rw [List.drop_length] at q2
    refine .inl ⟨st.1 H2 p2 (q2.1.seen r2), ?_⟩
    refine f _ A2 _ H2 q2.2 r2 s2 (p1.trans p2) ⟨⟨L, rfl, accV, hL2, ra⟩, fun _ a ea => ?_⟩
    cases ea
    exact ⟨hA2, h0, notL⟩
end
end T3
set_option autoImplicit false
namespace T3
open PySem PySem.Spec PyProof.Rows L2

/-! ### comprehensions, as rules -/
section
variable {X : Cx} {C : Ct}
theorem PE.ex {e : Expr} {t : Ct → TE} (h : ∀ C, PE X e (t C)) : PE X e fun σ H Q => ∃ C, t C σ H Q := ⟨fun pins s σ H Q I ⟨C, q⟩ => (h C).run pins s σ H Q I q⟩
theorem PTs.ex {e : List Expr} {t : Ct → TT} (h : ∀ C, PTs X e (t C)) : PTs X e fun σ H Q => ∃ C, t C σ H Q := ⟨fun pins s σ H Q I ⟨C, q⟩ => (h C).run pins s σ H Q I q⟩
theorem pe3_lc {elt tg iter : Expr} {ifs : List Expr} {scope : Scope} {own : List (Str × Nat)} {pos : Pos} {t : TI3} {p : Pat} {tt : TT3} {te : TE3} (hc : X.calm = true) (hN : X.N.Nodup) (hi : PI3 X C p tg iter t) (ok : BlkOk X.N X.env.scope scope own) (hp : ∀ i ∈ p.ix, i ∈ own.map (·.2))
    (hg : ∀ (s : Shared) (H : Hp) (Ca : Addr) (cl : List (Str × Addr)) (fp : List Addr), PG (X.blk s H scope (compEnvC scope cl Ca X.env) fp) tg (gPat X.K p))
    (ht : ∀ (s : Shared) (H : Hp) (Ca : Addr) (cl : List (Str × Addr)) (fp : List Addr) (C' : Ct), PTs3 (X.blk s H scope (compEnvC scope cl Ca X.env) fp) C' ifs tt)
    (he : ∀ (s : Shared) (H : Hp) (Ca : Addr) (cl : List (Str × Addr)) (fp : List Addr) (C' : Ct), PE3 (X.blk s H scope (compEnvC scope cl Ca X.env) fp) C' elt te) (hs : ∀ x, foldedSetIterable iter X.env x = pure x := by intro _; rfl) :
    PE3 X C (.ListComp elt [⟨tg, iter, ifs, 0⟩] scope pos) (eLc t p tt te (own.map (·.2))) :=
  PE.imp (pe_lc hc hN hi ok hg (fun s H Ca cl fp => PTs.ex fun C' => ht s H Ca cl fp C') (fun s H Ca cl fp => pe_go (PE.ex fun C' => he s H Ca cl fp C')) hs) fun σ H Q hq => low_lc hp hq
theorem ps3_setLc {i : Nat} {y : Str} {py : Pos} {elt tg iter : Expr} {ifs : List Expr} {scope : Scope} {own : List (Str × Nat)} {pos spos : Pos} {t : TI3} {p : Pat} {tt : TT3} {te : TE3} (hc : X.calm = true) (hN : X.N.Nodup) (hy : X.N[i]? = some y) (hyl : X.env.scope.names.lookup y = some .local)
    (hsw : swapsWith (.ListComp elt [⟨tg, iter, ifs, 0⟩] scope pos) (some (.Name y py)) spos.line X.env = pure true) (hi : PI3 X C p tg iter t) (ok : BlkOk X.N X.env.scope scope own) (hp : ∀ i ∈ p.ix, i ∈ own.map (·.2))
    (hg : ∀ (s : Shared) (H : Hp) (Ca : Addr) (cl : List (Str × Addr)) (fp : List Addr), PG (X.blk s H scope (compEnvC scope cl Ca X.env) fp) tg (gPat X.K p))
    (ht : ∀ (s : Shared) (H : Hp) (Ca : Addr) (cl : List (Str × Addr)) (fp : List Addr) (C' : Ct), PTs3 (X.blk s H scope (compEnvC scope cl Ca X.env) fp) C' ifs tt)
    (he : ∀ (s : Shared) (H : Hp) (Ca : Addr) (cl : List (Str × Addr)) (fp : List Addr) (C' : Ct), PE3 (X.blk s H scope (compEnvC scope cl Ca X.env) fp) C' elt te) (hs : ∀ x, foldedSetIterable iter X.env x = pure x := by intro _; rfl) :
    PS3 X C (.Assign [.Name y py] (.ListComp elt [⟨tg, iter, ifs, 0⟩] scope pos) spos) (sSet i (eLc t p tt te (own.map (·.2)))) :=
  PS.imp (ps_setLc hc hN hy hyl hsw hi ok hg (fun s H Ca cl fp => PTs.ex fun C' => ht s H Ca cl fp C') (fun s H Ca cl fp => pe_go (PE.ex fun C' => he s H Ca cl fp C')) hs) fun D σ H hq => low_lc hp (low_set hq)
/-! ### what is walked: a list, a tuple, a text -/
def signs (x : Str) : List D := x.cps.toList.map fun c => D.str ⟨#[c]⟩
def itemsOf : D → Option (List D)
  | .lst xs => some xs | .tup xs => some xs | .str x => some (signs x) | _ => none
def iAny (X : Cx) (tl : TE) : TI := fun σ H R => tl σ H fun x H1 => (∃ a, x = .ref a ∧ (∃ xs, SqL X.K H1 a xs) ∧ R (Itl X.K a) H1) ∨ (∃ a, x = .ref a ∧ (∃ xs, SqT X.K H1 a xs) ∧ R (Itt X.K a) H1) ∨ ∃ y, x = .str y ∧ R (Its y) H1
theorem pi_any {tg l : Expr} {tl : TE} (hl : PE X l tl) : PI X tg l (iAny X tl) := by
  refine ⟨fun pins s σ H R I h => ?_⟩
  refine thn (hl.run pins s σ H _ I h) fun v s1 ⟨x, H1, I1, r1, q1⟩ => ?_
  rcases q1 with ⟨a, e, ⟨xs, hq⟩, q⟩ | ⟨a, e, ⟨xs, hq⟩, q⟩ | ⟨y, e, q⟩
  · subst e
    cases r1
    obtain ⟨its, rv, p, hz⟩ := I1.list hq
    exact wpAny_pyIter_list p.isList (pi_one (tk := s1.toks) I1 _ (turn_list a _) ⟨_, Heap.get?_push_size _ rfl, rfl, rfl⟩ q)
  · subst e
    cases r1
    obtain ⟨its, rv, p, hz⟩ := I1.tuple hq
    exact wpAny_pyIter_tuple (show s1.heap.IsTuple a its.toArray from p) (pi_one (tk := s1.toks) I1 _ (turn_tuple a _) ⟨_, Heap.get?_push_size _ rfl, rfl, rfl⟩ q)
  · subst e
    obtain ⟨t, rfl⟩ := r1
    cases ha : y.cps.all (· < 128)
    · exact wpAny_pyIter_wide ha (pi_one (tk := s1.toks) I1 _ (turn_str _ y t "str_iterator" (.inr rfl)) ⟨_, Heap.get?_push_size _ rfl, rfl, rfl⟩ q)
    · exact wpAny_pyIter_ascii ha (pi_one (tk := s1.toks) I1 _ (turn_str _ y t "str_ascii_iterator" (.inl rfl)) ⟨_, Heap.get?_push_size _ rfl, rfl, rfl⟩ q)
def itemsW (A : AH) : D → Option (List D × Ws)
  | .ref a => match A a with
    | some (.lst xs) => some (xs, [(a, xs)])
    | _ => none
  | d => (itemsOf d).map fun xs => (xs, [])
def withItems : Option (List D × Ws) → (List D → Ws → Prop) → Prop
  | some (xs, ws), k => k xs ws
  | none, _ => False
theorem withItems_ex {o : Option (List D × Ws)} {k : List D → Ws → Prop} (h : withItems o k) : ∃ r, o = some r ∧ k r.1 r.2 := by
  cases o with
  | none => exact h.elim
  | some r => exact ⟨r, rfl, h⟩
def iS (t : TE3) : TI3 := fun z A Q => t z A fun d A' => withItems (itemsW A' (frz d)) fun xs ws => Q xs ws A'
/-- a list that stays, or is seen to stay -/
def LW (K : PySem.W.Frag) (w : World) (ws : Ws) (a : Addr) (ds : List D) (H : Hp) : Prop := ∀ H2, Pers H H2 → Seen K w ws H2 → ∃ vs, SqL K H2 a vs ∧ Rps K w H2 ds vs
theorem LW.frozen {K : PySem.W.Frag} {w : World} {ws : Ws} {H : Hp} {a : Addr} {xs : List V} {ds : List D} (h : SqF K H a xs) (r : Rps K w H ds xs) : LW K w ws a ds H := fun H2 p _ => ⟨xs, (SqF.pers p h).sql, r.pers p⟩
theorem Rps.nmd {K : PySem.W.Frag} {w : World} {H : Hp} {ds : List D} {vs : List V} (h : Rps K w H ds vs) (kvs : List (D × D)) : ds ≠ [.md kvs] := fun e => by
  subst e
  rw [Rps] at h
  obtain ⟨x, r, _, h3, _⟩ := h
  rw [Rp] at h3
  exact h3
theorem LW.held {K : PySem.W.Frag} {w : World} {ws : Ws} {H : Hp} {a : Addr} {ds : List D} (h : (a, ds) ∈ ws) (hn : ∀ kvs, ds ≠ [.md kvs]) : LW K w ws a ds H := fun H2 _ se => by
  obtain ⟨ob, eo, ro⟩ := se _ h
  have : ob = .lst ds := by
    cases ob with
    | lst xs => cases eo; rfl
    | dct kvs => cases eo; exact absurd rfl (hn kvs)
    | ins C fs => cases eo
  subst this
  obtain ⟨vs, h1, h2⟩ := ro
  exact ⟨vs, .of h1, h2⟩
theorem steady_list {pt : Pat} {K : PySem.W.Frag} {w : World} {ws : Ws} {H : Hp} {a : Addr} {ds : List D} (h : LW K w ws a ds H) : Steady K w pt ws (Itl K a) ds H :=
  ⟨fun H2 p se => by
    obtain ⟨xs, h1, r⟩ := h H2 p se
    exact ⟨xs, h1, by rw [r.length]; exact Nat.le_refl _⟩, fun i d H2 p se hi => by
    obtain ⟨xs, h1, r⟩ := h H2 p se
    obtain ⟨v, hv, rv⟩ := r.get hi
    refine ⟨⟨xs, v, h1, hv⟩, fun x H3 ⟨e, y⟩ => ?_⟩
    subst e
    have q := y xs h1
    rw [hv] at q; cases q
    exact ⟨fun _ _ h => h, .of rv⟩⟩
theorem steady_tup {pt : Pat} {K : PySem.W.Frag} {w : World} {ws : Ws} {H : Hp} {a : Addr} {xs : List V} {ds : List D} (h : SqT K H a xs) (r : Rps K w H ds xs) : Steady K w pt ws (Itt K a) ds H :=
  ⟨fun H2 p _ => ⟨xs, SqT.pers p h, by rw [r.length]; exact Nat.le_refl _⟩, fun i d H2 p _ hi => by
    obtain ⟨v, hv, _⟩ := r.get hi
    refine ⟨⟨xs, v, SqT.pers p h, hv⟩, fun x H3 ⟨e, y⟩ => ?_⟩
    subst e
    have q := y xs (SqT.pers p h)
    obtain ⟨v', hv', rv'⟩ := (r.pers p).get hi
    rw [q] at hv'; cases hv'
    exact ⟨fun _ _ h => h, .of rv'⟩⟩
theorem signs_length (x : Str) : (signs x).length = x.cps.size := by simp [signs]
theorem steady_str {pt : Pat} {K : PySem.W.Frag} {w : World} {ws : Ws} {H : Hp} (x : Str) : Steady K w pt ws (Its x) (signs x) H :=
  ⟨fun H2 p _ => by rw [signs_length]; exact Nat.le_refl _, fun i d H2 p _ hi => by
    have hl : i < x.cps.size := by
      have := (List.getElem?_eq_some_iff.mp hi).1
      rwa [signs_length] at this
    refine ⟨hl, fun v H3 ⟨e, c, hc, ev⟩ => ?_⟩
    subst e ev
    refine ⟨fun _ _ h => h, .of ?_⟩
    have : (signs x)[i]? = some (.str ⟨#[c]⟩) := by
      unfold signs
      rw [List.getElem?_map, Array.getElem?_toList, hc]; rfl
    rw [this] at hi
    cases hi
    rw [Rp]⟩
theorem pi3_s {pt : Pat} {tg e : Expr} {t : TE3} (h : PE3 X C e t) : PI3 X C pt tg e (iS t) := PI.imp (pi_any (pe_fz h)) fun σ H R hq => by
  obtain ⟨z, A, Q3, r, s, q, f⟩ := hq
  refine ⟨z, A, _, r, s, q, fun d A' v H' q' r' s' p' t' => ?_⟩
  obtain ⟨res, ei, q2⟩ := withItems_ex q'
  generalize frz d = fd at ei t'
  cases fd with
  | lst xs =>
    cases ei
    rw [Rp] at t'
    obtain ⟨a, vs, rfl, hs, hr⟩ := t'
    exact .inl ⟨a, rfl, ⟨vs, hs.sql⟩, f _ _ A' _ H' q2 r' s' p' (steady_list (.frozen hs hr))⟩
  | tup xs =>
    cases ei
    rw [Rp] at t'
    obtain ⟨a, vs, rfl, hs, hr⟩ := t'
    exact .inr (.inl ⟨a, rfl, ⟨vs, hs.sqt⟩, f _ _ A' _ H' q2 r' s' p' (steady_tup hs.sqt hr)⟩)
  | str x =>
    cases ei
    rw [Rp] at t'
    subst t'
    exact .inr (.inr ⟨x, rfl, f _ _ A' _ H' q2 r' s' p' (steady_str x)⟩)
  | ref a =>
    rw [Rp] at t'
    subst t'
    unfold itemsW at ei
    simp only at ei
    split at ei
    · rename_i xs ea
      cases ei
      obtain ⟨vs, h1, h2⟩ := r'.heap a _ ea
      exact .inl ⟨a, rfl, ⟨vs, .of h1⟩, f _ _ A' _ H' q2 r' s' p' (steady_list (.held (by simp) h2.nmd))⟩
    · cases ei
  | _ => cases ei

/-! ### ranges -/
def rng (lo : Int) (n : Nat) : List D := (List.range n).map fun (k : Nat) => D.int (lo + (k : Int))
def small62 (i : Int) : Prop := -(2 ^ 62) ≤ i ∧ i < 2 ^ 62
theorem rng_length (lo : Int) (n : Nat) : (rng lo n).length = n := by simp [rng]
theorem rng_get {lo : Int} {n i : Nat} {d : D} (h : (rng lo n)[i]? = some d) : i < n ∧ d = .int (lo + (i : Int)) := by
  have hl : i < n := by
    have := (List.getElem?_eq_some_iff.mp h).1
    rwa [rng_length] at this
  refine ⟨hl, ?_⟩
  unfold rng at h
  rw [List.getElem?_map, List.getElem?_range hl] at h
  cases h; rfl
theorem steady_range {pt : Pat} {K : PySem.W.Frag} {w : World} {ws : Ws} {H : Hp} (lo : Int) (n : Nat) : Steady K w pt ws (Itr lo n) (rng lo n) H :=
  ⟨fun H2 p _ => by rw [rng_length]; exact Nat.le_refl _, fun i d H2 p _ hi => by
    obtain ⟨hl, rfl⟩ := rng_get hi
    refine ⟨hl, fun v H3 ⟨e, ev⟩ => ?_⟩
    subst e ev
    exact ⟨fun _ _ h => h, .of (by rw [Rp])⟩⟩
def iR1 (t : TA3) : TI3 := fun z A Q => t z A fun ds A' => ∃ j, ds = [.int j] ∧ small62 j ∧ Q (rng 0 j.toNat) [] A'
def iR2 (t : TA3) : TI3 := fun z A Q => t z A fun ds A' => ∃ i j, ds = [.int i, .int j] ∧ small62 i ∧ small62 j ∧ Q (rng i (j - i).toNat) [] A'
theorem Rps.i1 {K : PySem.W.Frag} {w : World} {H : Hp} {i : Int} {vs : List V} (h : Rps K w H [.int i] vs) : vs = [.int i] := by
  rw [Rps] at h
  obtain ⟨x, r, rfl, h1, h2⟩ := h
  rw [Rp] at h1; rw [Rps] at h2
  rw [h1, h2]
theorem Rps.i2 {K : PySem.W.Frag} {w : World} {H : Hp} {i j : Int} {vs : List V} (h : Rps K w H [.int i, .int j] vs) : vs = [.int i, .int j] := by
  rw [Rps] at h
  obtain ⟨x, r, rfl, h1, h2⟩ := h
  rw [Rp] at h1
  rw [h1, Rps.i1 h2]
theorem pi3_range1 {pt : Pat} {tg a : Expr} {t : TA3} {p pos : Pos} (hg : Gl X "range") (hm : X.mg "range" = none) (ha : PA3 X C [a] t) (hs : starEach [a] X.env = [(false, eval a X.env)] := by rfl) : PI3 X C pt tg (.Call (.Name "range" p) [a] [] pos) (iR1 t) :=
  PI.imp (pi_range1 hg hm ha hs) fun σ H R hq => by
    obtain ⟨z, A, Q3, r, s, q, f⟩ := hq
    refine ⟨z, A, _, r, s, q, fun ds A' vs H' q' r' s' p' t' => ?_⟩
    obtain ⟨j, rfl, ⟨h1, h2⟩, q2⟩ := q'
    exact ⟨j, t'.i1, h1, h2, f _ _ A' _ H' q2 r' s' p' (steady_range 0 _)⟩
/-! ### calls of defs -/
abbrev Sp3 := List D → AH → (D → AH → Prop) → X3 → Prop
def AbsA (K : PySem.W.Frag) (w : World) (A : AH) (H : Hp) : Prop := ∀ a ob, A a = some ob → RpO K w H a ob
/-- a promise in the hand layer's words; no exception -/
def lsp (K : PySem.W.Frag) (w : World) (sp : Sp3) : Sp := fun vs H Q _ => ∃ ds A Q3, Rps K w H ds vs ∧ AbsA K w A H ∧ sp ds A Q3 (fun _ _ _ => False) ∧
  ∀ d A' v H', Q3 d A' → Rel K w ⟨H, A⟩ A' H' → RpV K w H' d v → (own d = true → ∀ a, v = V.ref a → A' a = none ∧ H a = none) → Q v H'
section
variable {K : PySem.W.Frag} {w : World} {z : S3} {A A' : AH} {σ : L2.St} {H H' : Hp} {d : D} {v : V}
/-- behind a call that was given all of A -/
theorem call_back (r : Rel K w C A H) (s : Slots K w C z A σ H) (r' : Rel K w ⟨H, A⟩ A' H') : Rel K w C A' H' ∧ Slots K w C z A' σ H' ∧ Pers H H' := by
  have notA : ∀ b o, C.H0 b = some o → C.A0 b = none → A b = none := fun b o e1 e2 => by
    cases q : A b with
    | none => rfl
    | some ob =>
      rcases r.dom b (by rw [q]; simp) with n | n
      · exact absurd e2 n
      · rw [e1] at n; cases n
  have pe : Pers H H' := by
    refine ⟨fun b xs e => r'.prot b _ e ?_ (fun _ h => nomatch h), fun b o u e => r'.prot b _ e ?_ (fun _ h => nomatch h)⟩
    · cases q : A b with
      | none => exact q
      | some ob =>
        obtain ⟨u, hu, c⟩ := (r.heap b ob q).there
        have e' : H b = some (.tup xs) := e
        rw [e'] at hu; cases hu; exact absurd rfl (c.1 xs)
    · cases q : A b with
      | none => exact q
      | some ob =>
        obtain ⟨u', hu, c⟩ := (r.heap b ob q).there
        have e' : H b = some (.frz o u) := e
        rw [e'] at hu; cases hu; exact absurd rfl (c.2.1 o u)
  refine ⟨⟨r'.heap, fun b o e1 e2 e3 => r'.prot b o (r.prot b o e1 e2 e3) (notA b o e1 e2) e3, fun b e => ?_, fun b e => r.mono b (r'.mono b e), r.tbl.trans r'.tbl⟩, ⟨fun i e hi => ?_, fun i e a hi oe hs => ?_, s.uniq, s.len⟩, pe⟩
  · rcases r'.dom b e with n | n
    · exact r.dom b n
    · exact .inr (r.mono b n)
  · obtain ⟨x, h1, h2⟩ := s.val i e hi
    refine ⟨x, h1, h2.keep pe fun oe a ea => ?_⟩
    obtain ⟨b, ob, eb, _, rb⟩ := h2.ob oe
    rw [ea] at eb; cases eb
    obtain ⟨u, hu, cu⟩ := rb.there
    have hA := (s.sep i e a hi oe (by rw [h1, ea])).1
    rw [hu]
    exact r'.prot a u hu hA cu.2.2
  · obtain ⟨hA, h0⟩ := s.sep i e a hi oe hs
    refine ⟨?_, h0⟩
    cases q : A' a with
    | none => rfl
    | some ob =>
      rcases r'.dom a (by rw [q]; simp) with n | n
      · exact absurd hA n
      · obtain ⟨x, h1, h2⟩ := s.val i e hi
        rw [hs] at h1; cases h1
        obtain ⟨b, ob', eb, _, rb⟩ := h2.ob oe
        cases eb
        obtain ⟨u, hu, _⟩ := rb.there
        have n' : H a = none := n
        rw [n'] at hu; cases hu
theorem call_tmp (r : Rel K w C A H) (s : Slots K w C z A σ H) (rv : RpV K w H' d v) (al : own d = true → ∀ a, v = V.ref a → A' a = none ∧ H a = none) : Tmp K w C z A' σ H' d v := by
  refine ⟨rv, fun o a ea => ?_⟩
  obtain ⟨h1, h2⟩ := al o a ea
  refine ⟨h1, r.mono a h2, fun i e hi oe hs => ?_⟩
  obtain ⟨x, h3, h4⟩ := s.val i e hi
  rw [hs] at h3; cases h3
  obtain ⟨b, ob', eb, _, rb⟩ := h4.ob oe
  cases eb
  obtain ⟨u, hu, _⟩ := rb.there
  rw [h2] at hu; cases hu
end
def eCall (sp : Sp3) (dfl : List D) (t : TA3) : TE3 := fun z A Q => t z A fun ds A' => sp (ds ++ dfl) A' Q (fun _ _ _ => False)
theorem low_call {sp : Sp3} {dfl : List D} {dvs : List V} {t : TA3} (hd : ∀ H, Rps X.K X.w H dfl dvs) {E : XK} {σ : L2.St} {H : Hp} {Q : VK} (hq : low X.K X.w C (eCall sp dfl t) σ H Q) : tCall (lsp X.K X.w sp) dvs E (lowA X.K X.w C t) σ H Q := by
  obtain ⟨z, A, Q3, r, s, q, f⟩ := hq
  refine ⟨z, A, _, r, s, q, fun ds A1 vs H1 q1 r1 s1 p1 t1 => ⟨ds ++ dfl, A1, Q3, t1.append (hd H1), r1.heap, q1, fun d A2 v H2 q2 r2 rv al => ?_⟩⟩
  obtain ⟨r3, s3, p3⟩ := call_back r1 s1 r2
  exact f d A2 v H2 q2 r3 s3 (p1.trans p3) (call_tmp r1 s1 rv al)
theorem pe3_call {k : Nat} {f : Addr} {fd : FuncData} {ps : List Str} {sp : Sp3} {x : Str} {p pos : Pos} {e : Expr} {es : List Expr} {t : TA3} {ds : List Value} {dfl : List D} {dvs : List V} (F : FnOk X.prog X.w X.K X.mg X.base CX0 k f fd ps (lsp X.K X.w sp)) (hr : Room k X.A) (hg : Gl X x) (hm : X.mg x = some (.ref f)) (hk : PySem.W.keepIn X.K (.ref f) = true) (hb : Binds X.K fd ps ds) (hd : Vals dvs ds) (hd3 : ∀ H, Rps X.K X.w H dfl dvs)
    (ha : PA3 X C (e :: es) t) (hdb : (x == ("__debug__" : Str)) = false := by decide) (he : starEach (e :: es) X.env = (false, eval e X.env) :: starEach es X.env := by rfl) (hpl : (backTo pos (starEach es X.env)).any (·.1) = false := by rfl) :
    PE3 X C (.Call (.Name x p) (e :: es) [] pos) (eCall sp dfl t) := PE.imp (pe_call F hr hg hm hk hb hd pass0 ha hdb he hpl) fun _ _ _ hq => low_call hd3 hq
theorem pe3_call0 {k : Nat} {f : Addr} {fd : FuncData} {ps : List Str} {sp : Sp3} {x : Str} {p pos : Pos} (F : FnOk X.prog X.w X.K X.mg X.base CX0 k f fd ps (lsp X.K X.w sp)) (hr : Room k X.A) (hg : Gl X x) (hm : X.mg x = some (.ref f)) (hk : PySem.W.keepIn X.K (.ref f) = true) (hb : Binds X.K fd ps [])
    (hdb : (x == ("__debug__" : Str)) = false := by decide) : PE3 X C (.Call (.Name x p) [] [] pos) (eCall sp [] aNil) := PE.imp (pe_call0 F hr hg hm hk hb .nil pass0 hdb) fun σ H Q hq => by
  obtain ⟨z, A, Q3, r, s, q, f⟩ := hq
  refine ⟨[], A, Q3, Rps.nil, r.heap, q, fun d A2 v H2 q2 r2 rv al => ?_⟩
  obtain ⟨r3, s3, p3⟩ := call_back r s r2
  exact f d A2 v H2 q2 r3 s3 p3 (call_tmp r s rv al)

/-! ### a def keeps its promise -/
def start3 (N : List Str) (ds : List D) : S3 := ds.map some ++ List.replicate (N.length - ds.length) none
end
section
variable {P : Program} {w : World} {K : PySem.W.Frag} {mg : Str → Option Value} {base : Heap}
theorem slots_start {C : Ct} {A : AH} {H : Hp} {N : List Str} {ds : List D} {vs : List V} (h : Rps K w H ds vs) : Slots K w C (start3 N ds) A (L2.start N vs) H := by
  have hl := h.length
  have at_ : ∀ (i : Nat) (d : D), (start3 N ds)[i]? = some (some d) → ds[i]? = some d := fun i d e => by
    unfold start3 at e
    by_cases hi : i < ds.length
    · rw [List.getElem?_append_left (by simpa using hi), List.getElem?_map] at e
      cases q : ds[i]? with
      | none => rw [q] at e; cases e
      | some x => rw [q] at e; cases e; rfl
    · rw [List.getElem?_append_right (by simpa using hi), List.getElem?_replicate] at e
      split at e <;> cases e
  have no : ∀ (i : Nat) (d : D), (start3 N ds)[i]? = some (some d) → own d = false := fun i d e => by
    obtain ⟨v, _, rv⟩ := h.get (at_ i d e)
    exact rv.notOwn
  refine ⟨fun i d e => ?_, fun i d a e o => absurd o (by rw [no i d e]; simp), fun i j d e a h1 o1 => absurd o1 (by rw [no i d h1]; simp), ?_⟩
  · obtain ⟨v, hv, rv⟩ := h.get (at_ i d e)
    refine ⟨v, ?_, .of rv⟩
    unfold L2.start
    have hi := (List.getElem?_eq_some_iff.mp hv).1
    rw [List.getElem?_append_left (by simpa using hi), List.getElem?_map, hv]; rfl
  · unfold start3 L2.start
    simp [hl]
theorem Rel.start {A : AH} {H : Hp} (h : AbsA K w A H) : Rel K w ⟨H, A⟩ A H := ⟨h, fun _ _ e _ _ => e, fun _ e => .inl e, fun _ e => e, .refl _⟩
/-- THE RULE for a def that lets nothing out -/
theorem fn3 {x qual : Str} {st : Stmt} {f : Addr} {fd : FuncData} {N ps : List Str} {k : Nat} {sp : Sp3} {t : TS3} (F : Fun K x qual st f fd) (S : FnScope N ps (defScope st)) (len : ∀ ds A Q E, sp ds A Q E → ds.length = ps.length)
    (hbody : ∀ (cdv : Value) (A : Around) (outer : List Env) (s : Shared) (H : Hp) (E : XK) (C : Ct), Room k (A.deeper (envOfC qual (defScope st) s.heap.objs.size f cdv)) → PSs3 (cxOf CX0 P w K mg base N qual (defScope st) f cdv A outer s H E).nox C (defBody st) t)
    (m : ∀ ds A Q, sp ds A Q (fun _ _ _ => False) → t { nx := fun _ A' => Q .non A', rt := Q } (start3 N ds) A) : FnOk P w K mg base CX0 (k + 1) f fd ps (lsp K w sp) := by
  refine F.ok S (fun vs H Q E h => ?_) fun cdv A outer s H vs Q E hr h => ?_
  · obtain ⟨ds, A, Q3, h1, _, h3, _⟩ := h
    rw [h1.length]; exact len _ _ _ _ h3
  · obtain ⟨ds, A3, Q3, h1, h2, h3, h4⟩ := h
    refine ⟨_, hbody cdv A outer s H E ⟨H, A3⟩ hr, start3 N ds, A3, _, Rel.start h2, slots_start h1, m ds A3 Q3 h3, ?_⟩
    exact ⟨fun z A' σ H' q r _ _ => h4 .non A' .non H' q r (.of (by rw [Rp])) (fun o => by simp [own] at o), fun d A' v H' q r rv al _ => h4 d A' v H' q r rv al, fun _ _ _ _ q => q.elim, fun _ _ _ _ q => q.elim⟩
end
end T3
set_option autoImplicit false
namespace T3
open PySem PySem.Spec PyProof.Rows L2

/-! ### data of the library -/
mutual
def pd : D → PyData
  | .non => .none | .bl b => .bool b | .int i => .int i | .str x => .str x | .tup xs => .tuple (pds xs) | .lst xs => .list (pds xs) | _ => .none
def pds : List D → List PyData
  | [] => []
  | x :: xs => pd x :: pds xs
end
mutual
/-- data all through -/
def pok : D → Bool
  | .non => true | .bl _ => true | .int _ => true | .str _ => true | .tup xs => poks xs | .lst xs => poks xs | _ => false
def poks : List D → Bool
  | [] => true
  | x :: xs => pok x && poks xs
end
mutual
def dep : D → Nat
  | .tup xs => deps xs + 1 | .lst xs => deps xs + 1 | _ => 0
def deps : List D → Nat
  | [] => 0
  | x :: xs => max (dep x) (deps xs)
end
mutual
theorem pd_depth : ∀ d : D, (pd d).depth = dep d
  | .non => by simp [pd, PyData.depth, dep]
  | .bl _ => by simp [pd, PyData.depth, dep]
  | .int _ => by simp [pd, PyData.depth, dep]
  | .str _ => by simp [pd, PyData.depth, dep]
  | .tup xs => by simp [pd, PyData.depth, dep, pds_depth xs]
  | .lst xs => by simp [pd, PyData.depth, dep, pds_depth xs]
  | .dct _ => by simp [pd, PyData.depth, dep]
  | .ref _ => by simp [pd, PyData.depth, dep]
  | .ml _ => by simp [pd, PyData.depth, dep]
  | .md _ => by simp [pd, PyData.depth, dep]
theorem pds_depth : ∀ ds : List D, PyData.depthAll (pds ds) = deps ds
  | [] => by simp [pds, PyData.depthAll, deps]
  | x :: xs => by simp [pds, PyData.depthAll, deps, pd_depth x, pds_depth xs]
end
mutual
theorem pd_plain : ∀ d : D, pok d = true → (pd d).plain = true
  | .non, _ => rfl
  | .bl _, _ => rfl
  | .int _, _ => rfl
  | .str _, _ => rfl
  | .tup xs, h => by rw [pd, PyData.plain]; exact pds_plain xs (by rwa [pok] at h)
  | .lst xs, h => by rw [pd, PyData.plain]; exact pds_plain xs (by rwa [pok] at h)
  | .dct _, h => by simp [pok] at h
  | .ref _, h => by simp [pok] at h
  | .ml _, h => by simp [pok] at h
  | .md _, h => by simp [pok] at h
theorem pds_plain : ∀ ds : List D, poks ds = true → PyData.plainAll (pds ds) = true
  | [], _ => rfl
  | x :: xs, h => by
    simp only [poks, Bool.and_eq_true] at h
    rw [pds, PyData.plainAll, pd_plain x h.1, pds_plain xs h.2]; rfl
end
section
variable {K : PySem.W.Frag} {w : World} {H : Hp}
mutual
theorem Rp.dp : ∀ {d : D} {v : V}, pok d = true → Rp K w H d v → Dp K H v (pd d)
  | .non, _, _, h => by rw [Rp] at h; subst h; exact .non
  | .bl b, _, _, h => by rw [Rp] at h; subst h; exact .bl b
  | .int i, _, _, h => by rw [Rp] at h; subst h; exact .int i
  | .str x, _, _, h => by rw [Rp] at h; subst h; exact .str x
  | .tup ds, _, o, h => by
    rw [Rp] at h
    obtain ⟨a, xs, rfl, s, r⟩ := h
    rw [pd]
    exact .tup s.sqt (Rps.dp (by rwa [pok] at o) r)
  | .lst ds, _, o, h => by
    rw [Rp] at h
    obtain ⟨a, xs, rfl, s, r⟩ := h
    rw [pd]
    exact .lst (SqF.sql s) (Rps.dp (by rwa [pok] at o) r)
  | .dct _, _, o, _ => by simp [pok] at o
  | .ref _, _, o, _ => by simp [pok] at o
  | .ml _, _, o, _ => by simp [pok] at o
  | .md _, _, o, _ => by simp [pok] at o
theorem Rps.dp : ∀ {ds : List D} {xs : List V}, poks ds = true → Rps K w H ds xs → DpAll K H xs (pds ds)
  | [], _, _, h => by rw [Rps] at h; subst h; exact .nil
  | d :: ds, _, o, h => by
    rw [Rps] at h
    obtain ⟨x, r, rfl, h1, h2⟩ := h
    simp only [poks, Bool.and_eq_true] at o
    rw [pds]
    exact .cons (Rp.dp o.1 h1) (Rps.dp o.2 h2)
end
end

/-! ### what stands behind a reference -/
/-- a value looked through: a list that several hold as its items now -/
def vw (A : AH) : D → D
  | .ref a => match A a with
    | some (.lst xs) => .lst xs
    | some (.dct kvs) => .dct kvs
    | _ => .ref a
  | d => d
section
variable {K : PySem.W.Frag} {w : World} {C : Ct} {z : S3} {A : AH} {σ : L2.St} {H : Hp} {d : D} {v : V}
/-- a list to be read -/
theorem RpB.list (r : Rel K w C A H) (s : Slots K w C z A σ H) (h : RpB K w z σ H d v) {ds : List D} (e : vw A d = .lst ds) : ∃ a xs, v = .ref a ∧ SqL K H a xs ∧ Rps K w H ds xs := by
  rcases h with h | ⟨i, f, hi, o, rfl, hs⟩
  · cases d with
    | lst xs =>
      cases e
      rw [Rp] at h
      obtain ⟨a, xs, rfl, s, q⟩ := h
      exact ⟨a, xs, rfl, SqF.sql s, q⟩
    | ref a =>
      rw [Rp] at h
      subst h
      cases q : A a with
      | none => simp [vw, q] at e
      | some ob =>
        cases ob with
        | lst xs =>
          simp only [vw, q, D.lst.injEq] at e
          subst e
          obtain ⟨vs, h1, h2⟩ := r.heap a _ q
          exact ⟨a, vs, rfl, .of h1, h2⟩
        | dct kvs => simp [vw, q] at e
        | ins C fs => simp [vw, q] at e
    | _ => simp [vw] at e
  · obtain ⟨x, h1, h2⟩ := s.val i f hi
    rw [hs] at h1; cases h1
    cases f with
    | ml xs =>
      cases e
      obtain ⟨a, rfl, vs, h3, h4⟩ := h2
      exact ⟨a, vs, rfl, .of h3, h4⟩
    | md kvs => simp [frz, vw] at e
    | _ => simp [own] at o
theorem RpB.tup (h : RpB K w z σ H d v) {ds : List D} (e : vw A d = .tup ds) : ∃ a xs, v = .ref a ∧ SqS K H a xs ∧ Rps K w H ds xs := by
  rcases h with h | ⟨i, f, hi, o, rfl, hs⟩
  · cases d with
    | tup xs =>
      cases e
      rw [Rp] at h
      exact h
    | ref a =>
      cases q : A a with
      | none => simp [vw, q] at e
      | some ob => cases ob <;> simp [vw, q] at e
    | _ => simp [vw] at e
  · cases f <;> simp [own] at o <;> simp [frz, vw] at e
theorem RpB.flat (h : RpB K w z σ H d v) : (∀ b, d = .bl b → v = .bl b) ∧ (∀ i, d = .int i → v = .int i) ∧ (∀ x, d = .str x → v = .str x) ∧ (d = .non → v = .non) := by
  rcases h with h | ⟨i, f, hi, o, rfl, hs⟩
  · refine ⟨fun b e => ?_, fun b e => ?_, fun b e => ?_, fun e => ?_⟩ <;> (subst e; rw [Rp] at h; exact h)
  · refine ⟨fun b e => ?_, fun b e => ?_, fun b e => ?_, fun e => ?_⟩ <;> (cases f <;> simp [own] at o <;> simp [frz] at e)
theorem RpB.int {i : Int} (h : RpB K w z σ H (.int i) v) : v = .int i := h.flat.2.1 i rfl
theorem RpB.str {x : Str} (h : RpB K w z σ H (.str x) v) : v = .str x := h.flat.2.2.1 x rfl
theorem RpB.bl {b : Bool} (h : RpB K w z σ H (.bl b) v) : v = .bl b := h.flat.1 b rfl
theorem RpB.dp (r : Rel K w C A H) (s : Slots K w C z A σ H) (h : RpB K w z σ H d v) (o : pok (vw A d) = true) : Dp K H v (pd (vw A d)) := by
  cases e : vw A d with
  | lst ds =>
    obtain ⟨a, xs, rfl, h1, h2⟩ := h.list r s e
    rw [e, pok] at o
    rw [pd]
    exact .lst h1 (Rps.dp o h2)
  | tup ds =>
    obtain ⟨a, xs, rfl, h1, h2⟩ := h.tup (A := A) e
    rw [e, pok] at o
    rw [pd]
    exact .tup h1.sqt (Rps.dp o h2)
  | dct kvs => rw [e] at o; simp [pok] at o
  | ref a => rw [e] at o; simp [pok] at o
  | ml xs => rw [e] at o; simp [pok] at o
  | md xs => rw [e] at o; simp [pok] at o
  | _ =>
    have ed : d = vw A d := by
      cases d with
      | ref a =>
        exfalso
        cases q : A a with
        | none => simp [vw, q] at e
        | some ob => cases ob <;> simp [vw, q] at e
      | _ => rfl
    rw [ed, e] at h
    rcases h with h | ⟨i, f, hi, oo, ee, hs⟩
    · exact Rp.dp (by simp [pok]) h
    · cases f <;> simp [own] at oo <;> simp [frz] at ee
end
section
variable {K : PySem.W.Frag} {w : World} {z : S3} {σ : L2.St} {H : Hp}
theorem RpBs.one {d : D} {xs : List V} (h : RpBs K w z σ H [d] xs) : ∃ v, xs = [v] ∧ RpB K w z σ H d v := by
  cases h with | cons a b => cases b; exact ⟨_, rfl, a⟩
theorem RpBs.two {d e : D} {xs : List V} (h : RpBs K w z σ H [d, e] xs) : ∃ v u, xs = [v, u] ∧ RpB K w z σ H d v ∧ RpB K w z σ H e u := by
  cases h with | cons a b => cases b with | cons c d => cases d; exact ⟨_, _, rfl, a, c⟩
end

/-! ### == and != -/
/-- a == b, for data -/
def eqD (a b : D) : Bool := PyData.eqv (pd a) (pd b)
def okEq (a b : D) : Bool := pok a && pok b && (decide (dep a ≤ 60) || decide (dep b ≤ 60))
def fEq (A : AH) (a b : D) : Option D := if okEq (vw A a) (vw A b) = true then some (.bl (eqD (vw A a) (vw A b))) else none
def fNe (A : AH) (a b : D) : Option D := if okEq (vw A a) (vw A b) = true then some (.bl (!eqD (vw A a) (vw A b))) else none
section
variable {X : Cx} {C : Ct}
def rEqP (K : PySem.W.Frag) : R2 := fun x y H Q => ∃ d e, Dp K H x d ∧ Dp K H y e ∧ d.plain = true ∧ e.plain = true ∧ min d.depth e.depth ≤ 60 ∧ Q (.bl (PyData.eqv d e)) H
def rNeP (K : PySem.W.Frag) : R2 := fun x y H Q => ∃ d e, Dp K H x d ∧ Dp K H y e ∧ d.plain = true ∧ e.plain = true ∧ min d.depth e.depth ≤ 60 ∧ Q (.bl (!PyData.eqv d e)) H
theorem op_eqP (hu : X.A.units + 64 < cLine) : OpR X (compareOp .Eq) (rEqP X.K) := by
  intro pins s σ H x y v u Q I rx ry h
  obtain ⟨d, e, hd, he, sd, se, hm, q⟩ := h
  obtain ⟨as, r1⟩ := Dp.reads I d x v hd rx
  obtain ⟨bs, r2⟩ := Dp.reads I e y u he ry
  exact SeqAt.rcAt_plain r1 r2 sd se (by omega) _ _ _ _ ⟨.bl _, H, I, rfl, q⟩
theorem op_neP (hu : X.A.units + 64 < cLine) : OpR X (compareOp .NotEq) (rNeP X.K) := by
  intro pins s σ H x y v u Q I rx ry h
  obtain ⟨d, e, hd, he, sd, se, hm, q⟩ := h
  obtain ⟨as, r1⟩ := Dp.reads I d x v hd rx
  obtain ⟨bs, r2⟩ := Dp.reads I e y u he ry
  exact SeqAt.rcNe_plain r1 r2 sd se (by omega) _ _ _ _ ⟨.bl _, H, I, rfl, q⟩
theorem okEq_min {a b : D} (h : okEq a b = true) : pok a = true ∧ pok b = true ∧ min (pd a).depth (pd b).depth ≤ 60 := by
  simp only [okEq, Bool.and_eq_true, Bool.or_eq_true, decide_eq_true_eq] at h
  obtain ⟨⟨h1, h2⟩, h3⟩ := h
  rw [pd_depth, pd_depth]
  exact ⟨h1, h2, by omega⟩
theorem o_eq : Op2 X C (rEqP X.K) fEq := fun z A σ H d1 d2 d x y Q r s h1 h2 e q => by
  unfold fEq at e
  split at e
  · rename_i ho
    cases e
    obtain ⟨o1, o2, hm⟩ := okEq_min ho
    exact ⟨_, _, h1.dp r s o1, h2.dp r s o2, pd_plain _ o1, pd_plain _ o2, hm, q _ H (.same (by rw [Rp]; rfl))⟩
  · cases e
theorem o_ne : Op2 X C (rNeP X.K) fNe := fun z A σ H d1 d2 d x y Q r s h1 h2 e q => by
  unfold fNe at e
  split at e
  · rename_i ho
    cases e
    obtain ⟨o1, o2, hm⟩ := okEq_min ho
    exact ⟨_, _, h1.dp r s o1, h2.dp r s o2, pd_plain _ o1, pd_plain _ o2, hm, q _ H (.same (by rw [Rp]; rfl))⟩
  · cases e
end

/-! ### the order -/
def ltD (a b : D) : Bool := PySem.W.dataLt (pd a) (pd b)
def okLt (a b : D) : Bool := pok a && pok b && PySem.W.alike (pd a) (pd b) && (match a with | .non => false | _ => true) && (decide (dep a ≤ 60) || decide (dep b ≤ 60))
def fLt (_ : AH) (a b : D) : Option D := if okLt a b = true then some (.bl (ltD a b)) else none
def fGt (_ : AH) (a b : D) : Option D := if okLt a b = true then some (.bl (ltD b a)) else none
def fLe (_ : AH) (a b : D) : Option D := if okLt a b = true then some (.bl (!ltD b a)) else none
def fGe (_ : AH) (a b : D) : Option D := if okLt a b = true then some (.bl (!ltD a b)) else none
section
variable {X : Cx} {C : Ct}
def rOrd (K : PySem.W.Frag) (g : PyData → PyData → Bool) : R2 := fun x y H Q => ∃ d e, Dp K H x d ∧ Dp K H y e ∧ PySem.W.alike d e = true ∧ d ≠ .none ∧ min d.depth e.depth ≤ 60 ∧ Q (.bl (g d e)) H
theorem op_ltP (hu : X.A.units + 64 < cLine) : OpR X (compareOp .Lt) (rOrd X.K fun d e => PySem.W.dataLt d e) := by
  intro pins s σ H x y v u Q I rx ry h
  obtain ⟨d, e, hd, he, sd, se, hm, q⟩ := h
  obtain ⟨as, r1⟩ := Dp.reads I d x v hd rx
  obtain ⟨bs, r2⟩ := Dp.reads I e y u he ry
  exact PySem.W.lt_data r1 r2 sd se (by omega) ⟨.bl _, H, I, rfl, q⟩
theorem op_gtP (hu : X.A.units + 64 < cLine) : OpR X (compareOp .Gt) (rOrd X.K fun d e => PySem.W.dataLt e d) := by
  intro pins s σ H x y v u Q I rx ry h
  obtain ⟨d, e, hd, he, sd, se, hm, q⟩ := h
  obtain ⟨as, r1⟩ := Dp.reads I d x v hd rx
  obtain ⟨bs, r2⟩ := Dp.reads I e y u he ry
  exact PySem.W.gt_data r1 r2 sd se (by omega) ⟨.bl _, H, I, rfl, q⟩
theorem okLt_min {a b : D} (h : okLt a b = true) : pok a = true ∧ pok b = true ∧ PySem.W.alike (pd a) (pd b) = true ∧ pd a ≠ .none ∧ min (pd a).depth (pd b).depth ≤ 60 := by
  simp only [okLt, Bool.and_eq_true, Bool.or_eq_true, decide_eq_true_eq] at h
  obtain ⟨⟨⟨⟨h1, h2⟩, h3⟩, h4⟩, h5⟩ := h
  rw [pd_depth, pd_depth]
  refine ⟨h1, h2, h3, ?_, by omega⟩
  cases a <;> simp [pd] <;> simp [pok] at h1 <;> simp at h4
theorem vw_pok {A : AH} {a : D} (h : pok a = true) : vw A a = a := by cases a <;> first | rfl | simp [pok] at h
theorem o_ord {g : PyData → PyData → Bool} {f : AH → D → D → Option D} (hf : ∀ A a b, f A a b = if okLt a b = true then some (.bl (g (pd a) (pd b))) else none) : Op2 X C (rOrd X.K g) f := fun z A σ H d1 d2 d x y Q r s h1 h2 e q => by
  rw [hf] at e
  split at e
  · rename_i ho
    cases e
    obtain ⟨o1, o2, ha, hn, hm⟩ := okLt_min ho
    have q1 := h1.dp r s (by rw [vw_pok o1]; exact o1)
    have q2 := h2.dp r s (by rw [vw_pok o2]; exact o2)
    rw [vw_pok o1] at q1
    rw [vw_pok o2] at q2
    exact ⟨_, _, q1, q2, ha, hn, hm, q _ H (.same (by rw [Rp]))⟩
  · cases e
theorem o_lt : Op2 X C (rOrd X.K fun d e => PySem.W.dataLt d e) fLt := o_ord fun _ _ _ => rfl
theorem o_gt : Op2 X C (rOrd X.K fun d e => PySem.W.dataLt e d) fGt := o_ord fun _ _ _ => rfl
end

/-! ### is None -/
def fIsN (_ : AH) (a b : D) : Option D := match b with
  | .non => some (.bl (decide (a = .non)))
  | _ => none
def fNotN (_ : AH) (a b : D) : Option D := match b with
  | .non => some (.bl (!decide (a = .non)))
  | _ => none
section
variable {X : Cx} {C : Ct}
theorem RpB.isNon {K : PySem.W.Frag} {w : World} {z : S3} {σ : L2.St} {H : Hp} {d : D} {v : V} {C : Ct} {A : AH} (s : Slots K w C z A σ H) (h : RpB K w z σ H d v) : decide (v = .non) = decide (d = .non) := by
  rcases h with h | ⟨i, f, hi, o, rfl, hs⟩
  · cases d with
    | non => rw [Rp] at h; subst h; rfl
    | bl b => rw [Rp] at h; subst h; rfl
    | int b => rw [Rp] at h; subst h; rfl
    | str b => rw [Rp] at h; subst h; rfl
    | ref b => rw [Rp] at h; subst h; rfl
    | tup b => rw [Rp] at h; obtain ⟨a, xs, rfl, _⟩ := h; rfl
    | lst b => rw [Rp] at h; obtain ⟨a, xs, rfl, _⟩ := h; rfl
    | dct b => rw [Rp] at h; obtain ⟨a, xs, rfl, _⟩ := h; rfl
    | ml b => rw [Rp] at h; exact h.elim
    | md b => rw [Rp] at h; exact h.elim
  · obtain ⟨x, h1, h2⟩ := s.val i f hi
    rw [hs] at h1; cases h1
    obtain ⟨a, ob, rfl, _, _⟩ := h2.ob o
    cases f <;> simp [own] at o <;> rfl
theorem o_isN : Op2 X C (fun x y H Q => y = .non ∧ Q (.bl (decide (x = .non))) H) fIsN := fun z A σ H d1 d2 d x y Q r s h1 h2 e q => by
  cases d2 <;> simp [fIsN] at e
  subst e
  refine ⟨h2.flat.2.2.2 rfl, ?_⟩
  rw [h1.isNon s]
  exact q _ H (.same (by rw [Rp]))
theorem o_notN : Op2 X C (fun x y H Q => y = .non ∧ Q (.bl (!decide (x = .non))) H) fNotN := fun z A σ H d1 d2 d x y Q r s h1 h2 e q => by
  cases d2 <;> simp [fNotN] at e
  subst e
  refine ⟨h2.flat.2.2.2 rfl, ?_⟩
  rw [h1.isNon s]
  exact q _ H (.same (by rw [Rp]))
end

/-! ### numbers -/
def big64 (i : Int) : Bool := decide (-(2 ^ 64) < i) && decide (i < 2 ^ 64)
def fSub (_ : AH) : D → D → Option D
  | .int i, .int j => some (.int (i - j))
  | _, _ => none
def fFdiv (_ : AH) : D → D → Option D
  | .int i, .int j => if 0 < j ∧ j < 2 ^ 128 then some (.int (i / j)) else none
  | _, _ => none
def fMod (_ : AH) : D → D → Option D
  | .int i, .int j => if 0 < j then some (.int (i % j)) else none
  | _, _ => none
def fShl (_ : AH) : D → D → Option D
  | .int i, .int j => if 0 ≤ j ∧ j ≤ 1000 ∧ i.natAbs < 2 ^ 64 then some (.int (i * 2 ^ j.toNat)) else none
  | _, _ => none
def fNeg (_ : AH) : D → Option D
  | .int i => some (.int (-i))
  | _ => none
section
variable {X : Cx} {C : Ct}
theorem o_int {Cn : Int → Int → Prop} {g : Int → Int → Int} {f : AH → D → D → Option D} (hf : ∀ A a b d, f A a b = some d → ∃ i j, a = .int i ∧ b = .int j ∧ Cn i j ∧ d = .int (g i j)) : Op2 X C (rI Cn fun i j => .int (g i j)) f := fun z A σ H d1 d2 d x y Q r s h1 h2 e q => by
  obtain ⟨i, j, rfl, rfl, hc, rfl⟩ := hf A d1 d2 d e
  exact ⟨i, j, h1.int, h2.int, hc, q _ H (.same (by rw [Rp]))⟩
theorem o_sub : Op2 X C (rI0 fun i j => .int (i - j)) fSub := fun z A σ H d1 d2 d x y Q r s h1 h2 e q => by
  cases d1 <;> simp [fSub] at e
  cases d2 <;> simp [fSub] at e
  subst e
  exact ⟨_, _, h1.int, h2.int, q _ H (.same (by rw [Rp]))⟩
theorem o_fdiv : Op2 X C (rI CDivW fun i j => .int (i / j)) fFdiv := o_int fun A a b d e => by
  cases a <;> simp [fFdiv] at e
  cases b <;> simp [fFdiv] at e
  rename_i i j
  obtain ⟨⟨h1, h2⟩, rfl⟩ := e
  refine ⟨i, j, rfl, rfl, ⟨h1, ?_⟩, rfl⟩
  have : j.natAbs < 2 ^ 128 := by omega
  exact Nat.lt_of_lt_of_le (PySem.Flt.log2_lt_of (by decide) this) (by decide)
theorem o_mod : Op2 X C (rI (fun _ j => 0 < j) fun i j => .int (i % j)) fMod := o_int fun A a b d e => by
  cases a <;> simp [fMod] at e
  cases b <;> simp [fMod] at e
  rename_i i j
  obtain ⟨h1, rfl⟩ := e
  exact ⟨i, j, rfl, rfl, h1, rfl⟩
theorem o_neg : Op1 X C (rU fun i => .int (-i)) fNeg := fun z A σ H d1 d x Q r s h1 e q => by
  cases d1 <;> simp [fNeg] at e
  subst e
  exact ⟨_, h1.int, q _ H (.same (by rw [Rp]))⟩
end
end T3
set_option autoImplicit false
namespace T3
open PySem PySem.Spec PyProof.Rows L2

/-! ### rules by values that the hand layer has for tracked lists alone -/
section
variable {X : Cx}
def rCatL (K : PySem.W.Frag) : R2 := fun x y H Q => ∃ l b xs zs, x = .ref l ∧ y = .ref b ∧ SqL K H l xs ∧ SqL K H b zs ∧ xs.length + zs.length ≤ sizeLine ∧ ∀ p, H p = none → Q (.ref p) (upd H p (.lst (xs ++ zs)))
theorem op_catL : OpR X (binaryOp .Add) (rCatL X.K) := by
  intro pins s σ H x y v u Q I rx ry h
  obtain ⟨l, b, xs, zs, rfl, rfl, hH, hB, hz, q⟩ := h
  cases rx
  cases ry
  obtain ⟨its, r, ⟨⟨c1, d1, t1, s1⟩, n, e, ec, ed, et⟩, hl⟩ := I.list hH
  obtain ⟨its2, r2, ⟨⟨c2, d2, t2, s2⟩, n2, e2, ec2, ed2, et2⟩, hl2⟩ := I.list hB
  simp only at ec ed et ec2 ed2 et2
  subst ec ed et ec2 ed2 et2
  have l1 := r.length
  have l2 := r2.length
  refine concat_meets ⟨_, e, rfl⟩ ⟨_, e2, rfl⟩ noFill_list_add seq_list_add PySem.F.slot_list_add PySem.F.entry_list_add (PySem.F.args_list_add_2 _ _) (list_addW l b its.toArray its2.toArray n n2 none none s1 s2 (by rw [List.size_toArray, List.size_toArray]; omega)) ⟨e, e2, ?_⟩
  have ea : its.toArray ++ its2.toArray = (its ++ its2).toArray := by simp
  rw [ea]
  exact ⟨.ref _, _, I.lnew (t' := s.toks) (r.append r2) (by rw [List.length_append]; omega), rfl, q _ I.fresh⟩
section
open PySem.AutoSeq1
end
/-- a text times a number -/
def repS (x : Str) (k : Int) : Str := ⟨(List.replicate k.toNat x.cps).foldl (· ++ ·) #[]⟩
def rRepS : R2 := fun x y H Q => ∃ z k, x = .str z ∧ y = .int k ∧ k < 2 ^ 40 ∧ -(2 ^ 40) < k ∧ z.length * k.toNat ≤ 100000 ∧ Q (.str (repS z k)) H
theorem op_repS : OpR X (binaryOp .Mult) rRepS := by
  intro pins s σ H x y v u Q I rx ry h
  obtain ⟨z, k, rfl, rfl, h1, h2, h3, q⟩ := h
  obtain ⟨t, rfl⟩ := rx
  obtain ⟨t', rfl⟩ := ry
  refine PySem.P.mul_str (by rw [decide_eq_false (by omega), decide_eq_false (by omega)]; rfl) (fun hk _ => ?_) (fun hk _ => ?_) ?_
  · have hk' : 1 ≤ k := by omega
    have e1 : (z.length : Int) * k ≤ 100000 := by
      have : ((z.length * k.toNat : Nat) : Int) ≤ 100000 := by omega
      rw [Int.natCast_mul, Int.toNat_of_nonneg (by omega)] at this
      exact this
    intro hc
    have e2 : (2 ^ 63 - 1) / k * k ≤ 2 ^ 63 - 1 := Int.ediv_mul_le _ (by omega)
    have e3 : ((2 ^ 63 - 1) / k + 1) * k ≤ (z.length : Int) * k := Int.mul_le_mul_of_nonneg_right (by omega) (by omega)
    have e4 : 2 ^ 63 - 1 < ((2 ^ 63 - 1) / k + 1) * k := by
      have := Int.emod_lt_of_pos (2 ^ 63 - 1) (show 0 < k by omega)
      have e5 := Int.emod_add_mul_ediv (2 ^ 63 - 1) k
      rw [Int.add_mul, Int.one_mul, Int.mul_comm]
      omega
    omega
  · have hs := sizeLine_eq
    unfold Builtin.Str.tooLong
    first
      | exact decide_eq_false (by omega)
      | (simp; omega)
  · by_cases hk : k < 1
    · rw [if_pos hk]
      have e : repS z k = Str.empty := by
        have : k.toNat = 0 := by omega
        unfold repS; rw [this]; rfl
      rw [e] at q
      exact ⟨by decide, .str _, H, I.tok _, ⟨_, rfl⟩, q⟩
    · rw [if_neg hk]
      by_cases hc : (k == 1 || z.length == 0) = true
      · rw [if_pos hc]
        have e : repS z k = z := by
          rw [Bool.or_eq_true] at hc
          rcases hc with hc | hc
          · have : k.toNat = 1 := by have := eq_of_beq hc; omega
            unfold repS; rw [this]
            simp
          · have hz0 : z.cps = #[] := Array.eq_empty_of_size_eq_zero (by have := eq_of_beq hc; exact this)
            unfold repS
            have : ∀ n : Nat, (List.replicate n z.cps).foldl (· ++ ·) #[] = #[] := by
              intro n
              induction n with
              | zero => rfl
              | succ n ih => rw [List.replicate_succ, List.foldl_cons]; rw [hz0] at ih ⊢; exact ih
            rw [this]
            cases z; simp only at hz0; rw [hz0]
        rw [e] at q
        exact ⟨.str z, H, I, ⟨t, rfl⟩, q⟩
      · rw [if_neg hc]
        refine ⟨?_, .str _, H, I.tok _, ⟨_, rfl⟩, q⟩
        show ((List.replicate k.toNat z.cps).foldl (· ++ ·) #[]).size ≤ sizeLine
        have : ∀ (n : Nat) (acc : Array Nat), ((List.replicate n z.cps).foldl (· ++ ·) acc).size = acc.size + z.cps.size * n := by
          intro n
          induction n with
          | zero => intro acc; simp
          | succ n ih => intro acc; rw [List.replicate_succ, List.foldl_cons, ih, Array.size_append, Nat.mul_succ]; omega
        rw [this]
        have hs := sizeLine_eq
        have hz : z.length = z.cps.size := rfl
        rw [hz] at h3
        simp only [Array.size_empty]
        omega
end

/-! ### + -/
def lim (n : Nat) : Bool := decide (n ≤ sizeLine)
def fAdd (A : AH) (a b : D) : Option D := match vw A a, vw A b with
  | .int i, .int j => some (.int (i + j))
  | .str x, .str y => if lim (x.length + y.length) then some (.str (x ++ y)) else none
  | .lst xs, .lst ys => if lim (xs.length + ys.length) then some (.ml (xs ++ ys)) else none
  | .tup xs, .tup ys => if lim (xs.length + ys.length) then some (.tup (xs ++ ys)) else none
  | _, _ => none
section
variable {X : Cx} {C : Ct}
theorem vw_int {A : AH} {a : D} {i : Int} (h : vw A a = .int i) : a = .int i := by
  cases a with
  | ref a => cases q : A a with
    | none => simp [vw, q] at h
    | some ob => cases ob <;> simp [vw, q] at h
  | _ => first | exact h | simp [vw] at h
theorem vw_str {A : AH} {a : D} {i : Str} (h : vw A a = .str i) : a = .str i := by
  cases a with
  | ref a => cases q : A a with
    | none => simp [vw, q] at h
    | some ob => cases ob <;> simp [vw, q] at h
  | _ => first | exact h | simp [vw] at h
abbrev rAddA (K : PySem.W.Frag) : R2 := fun x y H Q => (rI0 (fun i j => V.int (i + j)) x y H Q ∨ ∃ i j, x = .str i ∧ y = .str j ∧ i.length + j.length ≤ sizeLine ∧ Q (.str (i ++ j)) H) ∨ (rCatL K x y H Q ∨ rCatS K x y H Q)
theorem op_addA : OpR X (binaryOp .Add) (rAddA X.K) := (OpR.or op_add op_add_str).or (op_catL.or op_catS)
theorem o_add : Op2 X C (rAddA X.K) fAdd := fun z A σ H d1 d2 d x y Q r s h1 h2 e q => by
  unfold fAdd at e
  split at e
  · rename_i i j e1 e2
    cases e
    rw [vw_int e1] at h1
    rw [vw_int e2] at h2
    exact .inl (.inl ⟨i, j, h1.int, h2.int, q _ H (.same (by rw [Rp]))⟩)
  · rename_i i j e1 e2
    split at e
    · rename_i hl
      cases e
      rw [vw_str e1] at h1
      rw [vw_str e2] at h2
      exact .inl (.inr ⟨i, j, h1.str, h2.str, of_decide_eq_true hl, q _ H (.same (by rw [Rp]))⟩)
    · cases e
  · rename_i xs ys e1 e2
    split at e
    · rename_i hl
      cases e
      obtain ⟨a, vs, rfl, q1, r1⟩ := h1.list r s e1
      obtain ⟨b, ws, rfl, q2, r2⟩ := h2.list r s e2
      refine .inr (.inl ⟨a, b, vs, ws, rfl, rfl, q1, q2, by rw [r1.length, r2.length]; exact of_decide_eq_true hl, fun p hp => q _ _ (.lst hp (r1.append r2))⟩)
    · cases e
  · rename_i xs ys e1 e2
    split at e
    · rename_i hl
      cases e
      obtain ⟨a, vs, rfl, q1, r1⟩ := h1.tup (A := A) e1
      obtain ⟨b, ws, rfl, q2, r2⟩ := h2.tup (A := A) e2
      have l1 := r1.length
      have l2 := r2.length
      refine .inr (.inr ⟨a, b, vs, ws, rfl, rfl, q1.sqt, q2.sqt, by rw [l1, l2]; exact of_decide_eq_true hl, fun hx => ?_, fun hx hy => ?_, fun hx hy p o hp ho => q _ _ (.tup hp ho (r1.append r2))⟩)
      · subst hx
        have : xs = [] := List.eq_nil_of_length_eq_zero (by simpa using l1.symm)
        subst this
        exact q _ H (.same (by rw [Rp]; exact ⟨b, ws, rfl, q2, r2⟩))
      · subst hy
        have : ys = [] := List.eq_nil_of_length_eq_zero (by simpa using l2.symm)
        subst this
        exact q _ H (.same (by rw [List.append_nil, Rp]; exact ⟨a, vs, rfl, q1, r1⟩))
    · cases e
  · cases e
end
/-! ### * -/
def fMul (_ : AH) : D → D → Option D
  | .int i, .int j => if big64 i || big64 j then some (.int (i * j)) else none
  | .str x, .int k => if decide (-(2 ^ 40) < k) && decide (k < 2 ^ 40) && decide (x.length * k.toNat ≤ 100000) then some (.str (repS x k)) else none
  | _, _ => none
section
variable {X : Cx} {C : Ct}
abbrev rMulA : R2 := fun x y H Q => rI CMul (fun i j => .int (i * j)) x y H Q ∨ rRepS x y H Q
theorem op_mulA : OpR X (binaryOp .Mult) rMulA := op_mul.or op_repS
theorem o_mul : Op2 X C rMulA fMul := fun z A σ H d1 d2 d x y Q r s h1 h2 e q => by
  unfold fMul at e
  split at e
  · rename_i i j
    split at e
    · rename_i hc
      cases e
      refine .inl ⟨i, j, h1.int, h2.int, ?_, q _ H (.same (by rw [Rp]))⟩
      simp only [big64, Bool.or_eq_true, Bool.and_eq_true, decide_eq_true_eq] at hc
      exact hc
    · cases e
  · rename_i x' k
    split at e
    · rename_i hc
      cases e
      simp only [Bool.and_eq_true, decide_eq_true_eq] at hc
      exact .inr ⟨x', k, h1.str, h2.int, hc.1.2, hc.1.1, hc.2, q _ H (.same (by rw [Rp]))⟩
    · cases e
  · cases e
end

/-! ### x[i] of what stands in a row -/
def fIx (A : AH) (a b : D) : Option D := match vw A a, b with
  | .lst xs, .int i => atI xs i
  | .tup xs, .int i => atI xs i
  | .str x, .int i => if lim x.length then (atI x.cps.toList i).map fun c => .str ⟨#[c]⟩ else none
  | _, _ => none
section
variable {X : Cx} {C : Ct}
theorem Rps.atI {K : PySem.W.Frag} {w : World} {H : Hp} {ds : List D} {vs : List V} {i : Int} {d : D} (r : Rps K w H ds vs) (h : L2.atI ds i = some d) : ∃ v, L2.atI vs i = some v ∧ Rp K w H d v := by
  unfold L2.atI at h ⊢
  rw [r.length]
  cases e : ixN ds.length i with
  | none => rw [e] at h; cases h
  | some j =>
    rw [e] at h
    exact r.get (show ds[j]? = some d from h)
theorem o_ix : Op2 X C (rIx X.K) fIx := fun z A σ H d1 d2 d x y Q r s h1 h2 e q => by
  unfold fIx at e
  split at e
  · rename_i xs i e1
    obtain ⟨a, vs, rfl, q1, r1⟩ := h1.list r s e1
    obtain ⟨v, hv, rv⟩ := Rps.atI r1 e
    exact .inl ⟨a, vs, i, v, rfl, h2.int, q1, hv, q _ H (.same rv)⟩
  · rename_i xs i e1
    obtain ⟨a, vs, rfl, q1, r1⟩ := h1.tup (A := A) e1
    obtain ⟨v, hv, rv⟩ := Rps.atI r1 e
    exact .inr (.inl ⟨a, vs, i, v, rfl, h2.int, q1.sqt, hv, q _ H (.same rv)⟩)
  · rename_i x' i e1
    split at e
    · rename_i hl
      rw [vw_str e1] at h1
      cases hc : L2.atI x'.cps.toList i with
      | none => rw [hc] at e; cases e
      | some c =>
        rw [hc] at e; cases e
        exact .inr (.inr ⟨x', i, c, h1.str, h2.int, of_decide_eq_true hl, hc, q _ H (.same (by rw [Rp]))⟩)
    · cases e
  · cases e
end

/-! ### x[a:b] -/
def cutD (xs : List D) (lo hi : Option Int) : List D := (xs.drop (HT.sIx xs.length 0 lo)).take (HT.sIx xs.length xs.length hi - HT.sIx xs.length 0 lo)
def fSl (A : AH) (a : D) (lo hi : Option Int) : Option D := match vw A a with
  | .lst xs => some (.ml (cutD xs lo hi))
  | .tup xs => some (.tup (cutD xs lo hi))
  | .str x => if lim x.length then some (.str (cutS x lo hi)) else none
  | _ => none
abbrev TO3 := S3 → AH → (Option Int → AH → Prop) → Prop
def lowO (K : PySem.W.Frag) (w : World) (C : Ct) (t : TO3) : TO := fun σ H Q => ∃ z A Q3, Rel K w C A H ∧ Slots K w C z A σ H ∧ t z A Q3 ∧
  ∀ o A' H', Q3 o A' → Rel K w C A' H' → Slots K w C z A' σ H' → Pers H H' → Q o H'
abbrev PO3 (X : Cx) (C : Ct) (e : Option Expr) (t : TO3) : Prop := PO X e (lowO X.K X.w C t)
def oNo : TO3 := fun _ A Q => Q none A
def oAt (t : TE3) : TO3 := fun z A Q => t z A fun d A' => ∃ i, d = .int i ∧ Q (some i) A'
def eSl (te : TE3) (tl th : TO3) : TE3 := fun z A Q => te z A fun d A1 => tl z A1 fun lo A2 => th z A2 fun hi A3 => ∃ r, fSl A3 d lo hi = some r ∧ Q r A3
section
variable {X : Cx} {C : Ct}
theorem PO.imp {e : Option Expr} {t t' : TO} (h : PO X e t) (i : ∀ σ H Q, t' σ H Q → t σ H Q) : PO X e t' := ⟨fun pins s σ H Q I q => h.run pins s σ H Q I (i σ H Q q)⟩
theorem po3_none : PO3 X C none oNo := PO.imp po_none fun σ H Q hq => by
  obtain ⟨z, A, Q3, r, s, q, f⟩ := hq
  exact f none A H q r s (.refl H)
theorem po3_some {e : Expr} {t : TE3} (h : PE3 X C e t) : PO3 X C (some e) (oAt t) := PO.imp (po_some h) fun σ H Q hq => by
  obtain ⟨z, A, Q3, r, s, q, f⟩ := hq
  refine ⟨z, A, _, r, s, q, fun d A' v H' q' r' s' p' t' => ?_⟩
  obtain ⟨i, rfl, q2⟩ := q'
  exact ⟨i, by have := t'.val; exact this, f _ A' H' q2 r' s' p'⟩
theorem Rps.cut {K : PySem.W.Frag} {w : World} {H : Hp} {ds : List D} {vs : List V} (r : Rps K w H ds vs) (lo hi : Option Int) : Rps K w H (cutD ds lo hi) (cutV vs lo hi) := by
  unfold cutD cutV
  rw [r.length]
  exact (r.drop _).take _
theorem pe3_slice {e : Expr} {lo hi : Option Expr} {te : TE3} {tl th : TO3} {p2 pos : Pos} (he : PB3 X C e te) (hl : PO3 X C lo tl) (hu : PO3 X C hi th) : PE3 X C (.Subscript e (.Slice lo hi none p2) pos) (eSl te tl th) :=
  PE.imp (pe_slice (sl_list.or (sl_tupS.or sl_str)) he hl hu) fun σ H Q hq => by
    obtain ⟨z, A, Q3, r, s, q, f⟩ := hq
    refine ⟨z, A, _, r, s, q, fun d A1 v H1 q1 r1 s1 p1 t1 => ⟨z, A1, _, r1, s1, q1, fun o A2 H2 q2 r2 s2 p2 => ⟨z, A2, _, r2, s2, q2, fun o' A3 H3 q3 r3 s3 p3 => ?_⟩⟩⟩
    obtain ⟨res, he, q4⟩ := q3
    have hb := (t1.later p2).later p3
    have pp := (p1.trans p2).trans p3
    have fin : ∀ v H', Gv X.K X.w H3 H' res v → Q v H' := fun v H' g => low.gv r3 s3 f pp q4 g
    unfold fSl at he
    split at he
    · rename_i xs e1
      cases he
      obtain ⟨a, vs, rfl, h1, hr⟩ := hb.list r3 s3 e1
      exact .inl ⟨a, vs, rfl, h1, fun p hp => fin _ _ (.lst hp (hr.cut _ _))⟩
    · rename_i xs e1
      cases he
      obtain ⟨a, vs, rfl, h1, hr⟩ := hb.tup (A := A3) e1
      refine .inr (.inl ⟨a, vs, rfl, h1.sqt, fun hw => ?_, fun _ p o hp ho => fin _ _ (.tup hp ho (hr.cut _ _))⟩)
      refine fin _ _ (.same ?_)
      have e : cutD xs o o' = xs := by
        unfold cutD
        rw [hr.length] at hw
        rw [hw.1, hw.2]; simp
      rw [e, Rp]
      exact ⟨a, vs, rfl, h1, hr⟩
    · rename_i x e1
      split at he
      · rename_i hl
        cases he
        rw [vw_str e1] at hb
        exact .inr (.inr ⟨x, hb.str, of_decide_eq_true hl, fin _ _ (.same (by rw [Rp]))⟩)
      · cases he
    · cases he
end

/-! ### in -/
def oneSign (x : Str) : Option Nat := match x.cps.toList with
  | [c] => some c | _ => none
/-- x in c: rows of data; a text of one sign in a text -/
def fIn (A : AH) (a b : D) : Option Bool := match vw A b with
  | .lst ys => if pok (vw A a) && poks ys && (decide (deps ys ≤ 60) || decide (dep (vw A a) ≤ 60)) then some (ys.any fun y => eqD y (vw A a)) else none
  | .tup ys => if pok (vw A a) && poks ys && (decide (deps ys ≤ 60) || decide (dep (vw A a) ≤ 60)) then some (ys.any fun y => eqD y (vw A a)) else none
  | .str y => match a with
    | .str x => (oneSign x).map fun c => decide (c ∈ y.cps.toList)
    | _ => none
  | _ => none
section
variable {X : Cx} {C : Ct}
def rInD2 (K : PySem.W.Frag) (g : Bool → Bool) : R2 := fun x y H Q => ∃ (d : PyData) (es : List PyData), Dp K H x d ∧ (Dp K H y (.list es) ∨ Dp K H y (.tuple es)) ∧ d.plain = true ∧ PyData.plainAll es = true ∧ min (PyData.depthAll es) d.depth ≤ 60 ∧ Q (.bl (g (es.any fun y => PyData.eqv y d))) H
theorem op_inD2 (hu : X.A.units + 64 < cLine) : OpR X (compareOp .In) (rInD2 X.K id) := by
  intro pins s σ H x y v u Q I rx ry h
  obtain ⟨d, es, hd, he, sd, se, hm, q⟩ := h
  obtain ⟨as, r1⟩ := Dp.reads I d x v hd rx
  rcases he with he | he
  · obtain ⟨bs, r2⟩ := Dp.reads I (.list es) y u he ry
    exact SeqAt.in_list_data r2 r1 se sd (by omega) ⟨.bl _, H, I, rfl, q⟩
  · obtain ⟨bs, r2⟩ := Dp.reads I (.tuple es) y u he ry
    exact SeqAt.in_tuple_data r2 r1 se sd (by omega) ⟨.bl _, H, I, rfl, q⟩
theorem op_notInD2 (hu : X.A.units + 64 < cLine) : OpR X (compareOp .NotIn) (rInD2 X.K not) := by
  intro pins s σ H x y v u Q I rx ry h
  obtain ⟨d, es, hd, he, sd, se, hm, q⟩ := h
  obtain ⟨as, r1⟩ := Dp.reads I d x v hd rx
  rcases he with he | he
  · obtain ⟨bs, r2⟩ := Dp.reads I (.list es) y u he ry
    exact SeqAt.notIn_list_data r2 r1 se sd (by omega) ⟨.bl _, H, I, rfl, q⟩
  · obtain ⟨bs, r2⟩ := Dp.reads I (.tuple es) y u he ry
    exact SeqAt.notIn_tuple_data r2 r1 se sd (by omega) ⟨.bl _, H, I, rfl, q⟩
theorem any_pds (d : D) : ∀ ys : List D, (pds ys).any (fun y => PyData.eqv y (pd d)) = ys.any fun y => eqD y d
  | [] => by simp [pds]
  | y :: ys => by simp [pds, any_pds d ys, eqD]
abbrev rInAll (K : PySem.W.Frag) (g : Bool → Bool) : R2 := fun x y H Q => rInD2 K g x y H Q ∨ ∃ (c : Nat) (z : Str), x = .str ⟨#[c]⟩ ∧ y = .str z ∧ Q (.bl (g (decide (c ∈ z.cps.toList)))) H
theorem op_inAll (hu : X.A.units + 64 < cLine) : OpR X (compareOp .In) (rInAll X.K id) := (op_inD2 hu).or op_in_sign
theorem op_notInAll (hu : X.A.units + 64 < cLine) : OpR X (compareOp .NotIn) (rInAll X.K not) := (op_notInD2 hu).or op_notIn_sign
def fInB (g : Bool → Bool) (A : AH) (a b : D) : Option D := (fIn A a b).map fun k => .bl (g k)
theorem o_inAll (g : Bool → Bool) : Op2 X C (rInAll X.K g) (fInB g) := fun z A σ H d1 d2 d x y Q r s h1 h2 e q => by
  unfold fInB at e
  cases hb : fIn A d1 d2 with
  | none => rw [hb] at e; cases e
  | some b =>
    rw [hb] at e; cases e
    unfold fIn at hb
    split at hb
    · rename_i ys e2
      split at hb
      · rename_i hc
        cases hb
        simp only [Bool.and_eq_true, Bool.or_eq_true, decide_eq_true_eq] at hc
        obtain ⟨⟨c1, c2⟩, c3⟩ := hc
        have q2 := h2.dp r s (by rw [e2, pok]; exact c2)
        rw [e2, pd] at q2
        refine .inl ⟨pd (vw A d1), pds ys, h1.dp r s c1, .inl q2, pd_plain _ c1, pds_plain _ c2, by rw [pd_depth, pds_depth]; omega, ?_⟩
        rw [any_pds]
        exact q _ H (.same (by rw [Rp]))
      · cases hb
    · rename_i ys e2
      split at hb
      · rename_i hc
        cases hb
        simp only [Bool.and_eq_true, Bool.or_eq_true, decide_eq_true_eq] at hc
        obtain ⟨⟨c1, c2⟩, c3⟩ := hc
        have q2 := h2.dp r s (by rw [e2, pok]; exact c2)
        rw [e2, pd] at q2
        refine .inl ⟨pd (vw A d1), pds ys, h1.dp r s c1, .inr q2, pd_plain _ c1, pds_plain _ c2, by rw [pd_depth, pds_depth]; omega, ?_⟩
        rw [any_pds]
        exact q _ H (.same (by rw [Rp]))
      · cases hb
    · rename_i y' e2
      split at hb
      · rename_i x'
        rw [vw_str e2] at h2
        cases ho : oneSign x' with
        | none => rw [ho] at hb; cases hb
        | some c =>
          rw [ho] at hb; cases hb
          have ex : x' = ⟨#[c]⟩ := by
            unfold oneSign at ho
            split at ho
            · rename_i c' hc
              cases ho
              cases x' with
              | mk cps => simp only at hc; rw [show cps = #[c] from by apply Array.toList_inj.mp; rw [hc]]
            · cases ho
          subst ex
          exact .inr ⟨c, y', h1.str, h2.str, q _ H (.same (by rw [Rp]))⟩
      · cases hb
    · cases hb
end

/-! ### len, list(), tuple(), all, any, ord -/
def fLen (A : AH) : List D → Option D
  | [a] => match vw A a with
    | .lst xs => some (.int xs.length)
    | .tup xs => some (.int xs.length)
    | .str x => if lim x.length then some (.int x.length) else none
    | _ => none
  | _ => none
def fList (A : AH) : List D → Option D
  | [a] => match vw A a with
    | .lst xs => some (.ml xs)
    | .tup xs => some (.ml xs)
    | _ => none
  | _ => none
def fTuple (A : AH) : List D → Option D
  | [a] => match vw A a with
    | .lst xs => some (.tup xs)
    | .tup xs => some (.tup xs)
    | _ => none
  | _ => none
def bls : List D → Option (List Bool)
  | [] => some []
  | .bl b :: xs => (bls xs).map (b :: ·)
  | _ :: _ => none
def fAll (A : AH) : List D → Option D
  | [a] => match vw A a with
    | .lst xs => (bls xs).map fun bs => .bl (bs.all id)
    | _ => none
  | _ => none
def fAny (A : AH) : List D → Option D
  | [a] => match vw A a with
    | .lst xs => (bls xs).map fun bs => .bl (bs.any id)
    | _ => none
  | _ => none
def fMax2 (_ : AH) : List D → Option D
  | [.int i, .int j] => some (.int (if j > i then j else i))
  | _ => none
section
variable {X : Cx} {C : Ct}
abbrev rLenA (K : PySem.W.Frag) : List V → Hp → VK → Prop := fun xs H Q => (∃ p ys, xs = [.ref p] ∧ (SqL K H p ys ∨ SqT K H p ys) ∧ Q (.int ys.length) H) ∨ ∃ z, xs = [.str z] ∧ z.length ≤ sizeLine ∧ Q (.int z.length) H
theorem call_lenA : CallR X (.builtin "len") (rLenA X.K) := CallR.or call_len_seq call_len_str
theorem o_len : OpN X C (rLenA X.K) fLen := fun z A σ H ds d xs Q r s h e q => by
  unfold fLen at e
  split at e
  · obtain ⟨v, rfl, hb⟩ := h.one
    split at e
    · rename_i ys e1
      cases e
      obtain ⟨a, vs, rfl, h1, hr⟩ := hb.list r s e1
      refine .inl ⟨a, vs, rfl, .inl h1, ?_⟩
      rw [hr.length]
      exact q _ H (.same (by rw [Rp]))
    · rename_i ys e1
      cases e
      obtain ⟨a, vs, rfl, h1, hr⟩ := hb.tup (A := A) e1
      refine .inl ⟨a, vs, rfl, .inr h1.sqt, ?_⟩
      rw [hr.length]
      exact q _ H (.same (by rw [Rp]))
    · rename_i x e1
      split at e
      · rename_i hl
        cases e
        rw [vw_str e1] at hb
        exact .inr ⟨x, by rw [hb.str], of_decide_eq_true hl, q _ H (.same (by rw [Rp]))⟩
      · cases e
    · cases e
  · cases e
theorem o_tuple : OpN X C (rTupleS X.K) fTuple := fun z A σ H ds d xs Q r s h e q => by
  unfold fTuple at e
  split at e
  · obtain ⟨v, rfl, hb⟩ := h.one
    split at e
    · rename_i ys e1
      cases e
      obtain ⟨a, vs, rfl, h1, hr⟩ := hb.list r s e1
      exact ⟨a, vs, rfl, .inl ⟨h1, fun l o hl ho => q _ _ (.tup hl ho hr)⟩⟩
    · rename_i ys e1
      cases e
      obtain ⟨a, vs, rfl, h1, hr⟩ := hb.tup (A := A) e1
      exact ⟨a, vs, rfl, .inr ⟨h1.sqt, q _ H (.same (by rw [Rp]; exact ⟨a, vs, rfl, h1, hr⟩))⟩⟩
    · cases e
  · cases e
theorem o_max2 : OpN X C (fun xs H Q => ∃ i j, xs = [.int i, .int j] ∧ Q (.int (if j > i then j else i)) H) fMax2 := fun z A σ H ds d xs Q r s h e q => by
  unfold fMax2 at e
  split at e
  · cases e
    obtain ⟨v, u, rfl, h1, h2⟩ := h.two
    exact ⟨_, _, by rw [h1.int, h2.int], q _ H (.same (by rw [Rp]))⟩
  · cases e
end

/-! ### isinstance(x, T) -/
def tyD (A : AH) : D → Option String
  | .non => some "NoneType" | .bl _ => some "bool" | .int _ => some "int" | .str _ => some "str" | .tup _ => some "tuple" | .lst _ => some "list"
  | .ref a => match A a with
    | some (.lst _) => some "list"
    | _ => none
  | _ => none
def isT (t T : String) : Bool := t == T || (t == "bool" && T == "int")
theorem kit_ok : ∀ t ∈ ["NoneType", "bool", "int", "str", "tuple", "list"], ∀ T ∈ ["bool", "int", "str", "tuple", "list"], kitB t T = some (isT t T) := by decide +kernel
def fIsi (T : String) (A : AH) (a : D) : Option D := (tyD A a).map fun t => .bl (isT t T)
section
variable {X : Cx} {C : Ct}
theorem tyD_mem {A : AH} {d : D} {t : String} (h : tyD A d = some t) : t ∈ ["NoneType", "bool", "int", "str", "tuple", "list"] := by
  cases d with
  | ref a =>
    unfold tyD at h
    simp only at h
    split at h <;> cases h
    simp
  | _ => first | (cases h; simp) | cases h
theorem tyD_ok {K : PySem.W.Frag} {w : World} {z : S3} {A : AH} {σ : L2.St} {H : Hp} {d : D} {v : V} {t : String} (r : Rel K w C A H) (s : Slots K w C z A σ H) (h : RpB K w z σ H d v) (e : tyD A d = some t) : TyX K H v (.type t) := by
  have lst : ∀ {a : Addr} {xs : List V}, SqL K H a xs → TyX K H (.ref a) (.type "list") := fun {a xs} q => by
    rcases q with (q | ⟨o, q⟩) | ⟨o, its, n, h1, h2, _⟩
    · exact .base (.lst q)
    · exact .base (.frz q)
    · exact .kList h1 h2
  have tup : ∀ {a : Addr} {xs : List V}, SqT K H a xs → TyX K H (.ref a) (.type "tuple") := fun {a xs} q => by
    rcases q with (q | ⟨o, q⟩) | ⟨o, its, n, h1, h2, _⟩
    · exact .base (.tup q)
    · exact .fTuple q
    · exact .kTuple h1 h2
  rcases h with h | ⟨i, f, hi, o, rfl, hs⟩
  · cases d with
    | non => cases e; rw [Rp] at h; subst h; exact .base .non
    | bl b => cases e; rw [Rp] at h; subst h; exact .base (.bl b)
    | int b => cases e; rw [Rp] at h; subst h; exact .base (.int b)
    | str b => cases e; rw [Rp] at h; subst h; exact .base (.str b)
    | tup ds => cases e; rw [Rp] at h; obtain ⟨a, xs, rfl, q, _⟩ := h; exact tup q.sqt
    | lst ds => cases e; rw [Rp] at h; obtain ⟨a, xs, rfl, q, _⟩ := h; exact lst (SqF.sql q)
    | ref a =>
      rw [Rp] at h; subst h
      unfold tyD at e
      simp only at e
      split at e
      · rename_i xs ea
        cases e
        obtain ⟨vs, h1, _⟩ := r.heap a _ ea
        exact lst (.of h1)
      · cases e
    | _ => cases e
  · obtain ⟨x, h1, h2⟩ := s.val i f hi
    rw [hs] at h1; cases h1
    cases f with
    | ml xs =>
      cases e
      obtain ⟨a, rfl, vs, h3, _⟩ := h2
      exact lst (.of h3)
    | md kvs => cases e
    | _ => simp [own] at o
theorem pe3_isi {T : Str} {n : String} {p pos p2 : Pos} {e : Expr} {t : TE3} (hg : Gl X "isinstance") (hm : X.mg "isinstance" = none) (hgT : Gl X T) (hmT : X.mg T = none) (hvT : bootBuiltins T = some (.type n)) (hn : n ∈ ["bool", "int", "str", "tuple", "list"]) (he : PB3 X C e t)
    (hnT : T ≠ "__name__" := by decide) (hdT : (T == ("__debug__" : Str)) = false := by decide)
    (hv : bootBuiltins "isinstance" = some (.builtin "isinstance") := by decide +kernel)
    (hs : starEach [e, .Name T p2] X.env = (false, eval e X.env) :: starEach [.Name T p2] X.env := by rfl) (hs2 : starEach [.Name T p2] X.env = (false, eval (.Name T p2) X.env) :: starEach [] X.env := by rfl) (hpl : (backTo pos (starEach [.Name T p2] X.env)).any (·.1) = false := by rfl) :
    PE3 X C (.Call (.Name "isinstance" p) [e, .Name T p2] [] pos) (e1 (fIsi n) t) :=
  PE.imp (pe_callB call_isi hg hm hv (pa_cons he (pa_cons (pe_bltn (v := .ty n) hgT hmT hvT rfl hnT hdT) pa_nil hs2) hs) (by decide) (by decide) hs hpl) fun σ H Q hq => by
    obtain ⟨z, A, Q3, r, s, q, f⟩ := hq
    refine ⟨z, A, _, r, s, q, fun d A1 v H1 q1 r1 s1 p1 t1 => ?_⟩
    obtain ⟨d', hd, q3⟩ := q1
    unfold fIsi at hd
    cases ht : tyD A1 d with
    | none => rw [ht] at hd; cases hd
    | some t' =>
      rw [ht] at hd; cases hd
      show rIsi X.K [v, .ty n] H1 Q
      exact ⟨v, .ty n, .type t', .type n, _, rfl, .ty n, tyD_ok r1 s1 t1 ht, kit_ty (kit_ok t' (tyD_mem ht) n hn), low.gv r1 s1 f p1 q3 (.same (by rw [Rp]))⟩
end
end T3
set_option autoImplicit false
namespace T3
open PySem PySem.Spec PyProof.Rows L2

section
variable {X : Cx} {C : Ct}
/-! ### a < b < c -/
end

/-! ### methods of texts -/
def okS (_ : AH) (d : D) : Bool := match d with
  | .str _ => true | _ => false
section
variable {X : Cx} {C : Ct}
def fFind (_ : AH) : D → List D → Option D
  | .str a, [.str b] => some (.int (Txt.find a b))
  | _, _ => none
def fStarts (_ : AH) : D → List D → Option D
  | .str a, [.str b] => some (.bl (Txt.startswith a b))
  | _, _ => none
end

/-! ### methods of lists that change them -/
def okL : Ob → Bool
  | .lst _ => true | _ => false
def gAppend : Ob → List D → Option (Ob × D)
  | .lst xs, [d] => if xs.length < sizeLine then some (.lst (xs ++ [d]), .non) else none
  | _, _ => none
def gExtend : Ob → List D → Option (Ob × D)
  | .lst xs, [.lst ys] => if xs.length + ys.length ≤ sizeLine then some (.lst (xs ++ ys), .non) else none
  | _, _ => none
def gReverse : Ob → List D → Option (Ob × D)
  | .lst xs, [] => some (.lst xs.reverse, .non)
  | _, _ => none
section
variable {X : Cx} {C : Ct}
theorem tyOk_list {a : Addr} {xs : List V} {H : Hp} (h : SqL X.K H a xs) : TyOk X "list" (.ref a) H := fun pins σ s v I r => by
  cases r
  obtain ⟨its, _, pl, _⟩ := I.list h
  refine ⟨pl.isList.typeIs, fun a e => ?_⟩
  cases e
  obtain ⟨o, n, e, c, hd, _⟩ := pl
  exact ⟨o, e, hd⟩
theorem Rps.dropLast {K : PySem.W.Frag} {w : World} {H : Hp} {ds : List D} {vs : List V} (h : Rps K w H ds vs) : Rps K w H ds.dropLast vs.dropLast := by
  rw [List.dropLast_eq_take, List.dropLast_eq_take, h.length]
  exact h.take _
theorem mtc_ty {H : Hp} {a : Addr} {ob : Ob} (h : RpO X.K X.w H a ob) (o : okL ob = true) : TyOk X "list" (.ref a) H := by
  cases ob with
  | lst ds => obtain ⟨xs, h1, _⟩ := h; exact tyOk_list (.of h1)
  | _ => simp [okL] at o
theorem m_append : MtC X "list" rAppend okL gAppend where
  ty := fun H a ob h o => mtc_ty h o
  act := fun H a ob ob' ds d xs Q h hs e q => by
    unfold gAppend at e
    split at e
    · split at e
      · rename_i hl
        cases e
        obtain ⟨vs, h1, h2⟩ := h
        rw [Rps] at hs
        obtain ⟨x, r, rfl, hx, hr⟩ := hs
        rw [Rps] at hr
        subst hr
        have pe := pers_upd (u := .lst (vs ++ [x])) h1 chg_lst
        exact ⟨a, vs, x, rfl, rfl, h1, by rw [h2.length]; exact hl, q _ _ ⟨_, upd_same, (h2.pers pe).append (Rps.one (hx.pers pe))⟩ (by rw [Rp])⟩
      · cases e
    · cases e
/-- xs[i] = v -/
def gSet : Ob → D → D → Option Ob
  | .lst xs, .int i, d => (ixN xs.length i).map fun k => .lst (xs.set k d)
  | _, _, _ => none
theorem s_set : SetC X rSetL gSet := fun H a ob ob' k v x y Q h hk hv e q => by
  unfold gSet at e
  split at e
  · rename_i xs i
    obtain ⟨vs, h1, h2⟩ := h
    cases hj : ixN xs.length i with
    | none => rw [hj] at e; cases e
    | some j =>
      rw [hj] at e; cases e
      rw [Rp] at hk
      have pe := pers_upd (u := .lst (vs.set j y)) h1 chg_lst
      exact ⟨a, vs, i, j, rfl, hk, h1, by rw [h2.length]; exact hj, q _ ⟨_, upd_same, (h2.pers pe).set j (hv.pers pe)⟩⟩
  · cases e
end
end T3
set_option autoImplicit false
namespace T3
open PySem PySem.Spec PyProof.Rows L2

/-! ### a def that the module holds -/
def Def3 (P : Program) (w : World) (K : PySem.W.Frag) (mg : Str → Option Value) (base : Heap) (x : Str) (k : Nat) (ps : List Str) (sp : Sp3) : Prop :=
  ∃ (f : Addr) (fd : FuncData), FnOk P w K mg base CX0 k f fd ps (lsp K w sp) ∧ mg x = some (.ref f) ∧ PySem.W.keepIn K (.ref f) = true ∧ L2.Binds K fd ps []
section
variable {X : Cx} {C : Ct} {k : Nat} {ps : List Str} {sp : Sp3} {x : Str} {p pos : Pos} {e : Expr} {es : List Expr} {t : TA3}
theorem pe3_def (G : Def3 X.prog X.w X.K X.mg X.base x k ps sp) (hr : Room k X.A) (hg : Gl X x) (ha : PA3 X C (e :: es) t) (hdb : (x == ("__debug__" : Str)) = false := by decide)
    (he : starEach (e :: es) X.env = (false, eval e X.env) :: starEach es X.env := by rfl) (hpl : (backTo pos (starEach es X.env)).any (·.1) = false := by rfl) : PE3 X C (.Call (.Name x p) (e :: es) [] pos) (eCall sp [] t) := by
  obtain ⟨f, fd, F, hm, hk, hb⟩ := G
  exact pe3_call (dvs := []) F hr hg hm hk hb .nil (fun _ => Rps.nil) ha hdb he hpl
theorem pe3_def0 (G : Def3 X.prog X.w X.K X.mg X.base x k ps sp) (hr : Room k X.A) (hg : Gl X x) (hdb : (x == ("__debug__" : Str)) = false := by decide) : PE3 X C (.Call (.Name x p) [] [] pos) (eCall sp [] aNil) := by
  obtain ⟨f, fd, F, hm, hk, hb⟩ := G
  exact pe3_call0 F hr hg hm hk hb hdb
end

/-! ### the law's own call -/
def script (ns : List Int) : D := .lst (ns.map .int)
theorem Rps.ints {K : PySem.W.Frag} {w : World} {H : Hp} : ∀ ns : List Int, Rps K w H (ns.map .int) (ns.map V.int)
  | [] => Rps.nil
  | n :: ns => Rps.cons (by rw [Rp]) (Rps.ints ns)
/-! ### is True, is False -/
def fIsB (_ : AH) : D → D → Option D
  | .bl a, .bl b => some (.bl (decide (a = b)))
  | _, _ => none
def fNotB (_ : AH) : D → D → Option D
  | .bl a, .bl b => some (.bl (!decide (a = b)))
  | _, _ => none
section
variable {X : Cx} {C : Ct}
end
end T3
set_option autoImplicit false
namespace T3
open PySem PySem.Spec PyProof.Rows L2

/-! ### the readings, to be worked out by simp -/
section
variable (z : S3) (A : AH) (Q : D → AH → Prop) (E : Ends3)
@[simp] theorem ap_eV (i : Nat) : eV i z A Q = ∃ d, z[i]? = some (some d) ∧ own d = false ∧ Q d A := (rfl)
@[simp] theorem ap_eB (i : Nat) : eB i z A Q = ∃ d, z[i]? = some (some d) ∧ Q (frz d) A := (rfl)
@[simp] theorem ap_eC (d : D) : eC d z A Q = Q d A := (rfl)
@[simp] theorem ap_fz (t : TE3) : fz t z A Q = t z A (fun d A' => Q (frz d) A') := (rfl)
@[simp] theorem ap_aNil (Q : List D → AH → Prop) : aNil z A Q = Q [] A := (rfl)
@[simp] theorem ap_aCons (t : TE3) (u : TA3) (Q : List D → AH → Prop) : aCons t u z A Q = t z A (fun d A1 => u z A1 fun ds A2 => Q (d :: ds) A2) := (rfl)
@[simp] theorem ap_eTup (t : TA3) : eTup t z A Q = t z A (fun ds A' => ds.length ≤ sizeLine ∧ Q (.tup ds) A') := (rfl)
@[simp] theorem ap_eLst (t : TA3) : eLst t z A Q = t z A (fun ds A' => ds.length ≤ sizeLine ∧ Q (.ml ds) A') := (rfl)
@[simp] theorem ap_e2 (f : AH → D → D → Option D) (ta tb : TE3) : e2 f ta tb z A Q = ta z A (fun d1 A1 => tb z A1 fun d2 A2 => ∃ d, f A2 d1 d2 = some d ∧ Q d A2) := (rfl)
@[simp] theorem ap_e1 (f : AH → D → Option D) (ta : TE3) : e1 f ta z A Q = ta z A (fun d1 A1 => ∃ d, f A1 d1 = some d ∧ Q d A1) := (rfl)
@[simp] theorem ap_eN (f : AH → List D → Option D) (ta : TA3) : eN f ta z A Q = ta z A (fun ds A1 => ∃ d, f A1 ds = some d ∧ Q d A1) := (rfl)
@[simp] theorem ap_e3 (f g : AH → D → D → Option D) (ta tb tc : TE3) : e3 f g ta tb tc z A Q = ta z A (fun d1 A1 => tb z A1 fun d2 A2 => ∃ b, f A2 d1 d2 = some (.bl b) ∧ if b = true then tc z A2 fun d3 A3 => ∃ d, g A3 d2 d3 = some d ∧ Q d A3 else Q (.bl false) A2) := (rfl)
@[simp] theorem ap_eM (ok : AH → D → Bool) (f : AH → D → List D → Option D) (to : TE3) (ta : TA3) : eM ok f to ta z A Q = to z A (fun d0 A1 => ok A1 d0 = true ∧ ta z A1 fun ds A2 => ∃ d, f A2 d0 ds = some d ∧ Q d A2) := (rfl)
@[simp] theorem ap_eSl (te : TE3) (tl th : TO3) : eSl te tl th z A Q = te z A (fun d A1 => tl z A1 fun lo A2 => th z A2 fun hi A3 => ∃ r, fSl A3 d lo hi = some r ∧ Q r A3) := (rfl)
@[simp] theorem ap_oNo (Q : Option Int → AH → Prop) : oNo z A Q = Q none A := (rfl)
@[simp] theorem ap_oAt (t : TE3) (Q : Option Int → AH → Prop) : oAt t z A Q = t z A (fun d A' => ∃ i, d = .int i ∧ Q (some i) A') := (rfl)
@[simp] theorem ap_tV (t : TE3) (Q : Bool → AH → Prop) : tV t z A Q = t z A (fun d A' => ∃ b, d = .bl b ∧ Q b A') := (rfl)
@[simp] theorem ap_tNot (t : TT3) (Q : Bool → AH → Prop) : tNot3 t z A Q = t z A (fun b A' => Q (!b) A') := (rfl)
@[simp] theorem ap_tAnd (t u : TT3) (Q : Bool → AH → Prop) : tAnd3 t u z A Q = t z A (fun b A' => if b = true then u z A' Q else Q false A') := (rfl)
@[simp] theorem ap_tOr (t u : TT3) (Q : Bool → AH → Prop) : tOr3 t u z A Q = t z A (fun b A' => if b = true then Q true A' else u z A' Q) := (rfl)
@[simp] theorem ap_tYes (Q : Bool → AH → Prop) : tYes3 z A Q = Q true A := (rfl)
@[simp] theorem ap_eAnd (t u : TE3) : eAnd t u z A Q = t z A (fun d A' => ∃ b, d = .bl b ∧ if b = true then u z A' Q else Q (.bl false) A') := (rfl)
@[simp] theorem ap_eOr (t u : TE3) : eOr t u z A Q = t z A (fun d A' => ∃ b, d = .bl b ∧ if b = true then Q (.bl true) A' else u z A' Q) := (rfl)
@[simp] theorem ap_eNot (t : TE3) : eNot t z A Q = t z A (fun d A' => ∃ b, d = .bl b ∧ Q (.bl (!b)) A') := (rfl)
@[simp] theorem ap_eCall (sp : Sp3) (dfl : List D) (t : TA3) : eCall sp dfl t z A Q = t z A (fun ds A' => sp (ds ++ dfl) A' Q (fun _ _ _ => False)) := (rfl)
@[simp] theorem ap_eSh (t : TE3) : eSh t z A Q = t z A (fun d A' => ∃ ob, obOf d = some ob ∧ ∀ a, A' a = none → Q (.ref a) (put A' a ob)) := (rfl)
@[simp] theorem ap_sNil : sNil E z A = E.nx z A := (rfl)
@[simp] theorem ap_sSeq (t u : TS3) : sSeq t u E z A = t { E with nx := u E } z A := (rfl)
@[simp] theorem ap_sBreak : sBreak E z A = E.bk z A := (rfl)
@[simp] theorem ap_sCont : sCont E z A = E.ct z A := (rfl)
@[simp] theorem ap_sDrop (t : TE3) : sDrop t E z A = t z A (fun _ A' => E.nx z A') := (rfl)
@[simp] theorem ap_sRet (t : TE3) : sRet t E z A = t z A E.rt := (rfl)
@[simp] theorem ap_sRetV (i : Nat) : sRetV i E z A = ∃ d, z[i]? = some (some d) ∧ E.rt d A := (rfl)
@[simp] theorem ap_sRetN : sRetN E z A = E.rt .non A := (rfl)
@[simp] theorem ap_sIf (c : TT3) (t u : TS3) : sIf c t u E z A = c z A (fun b A' => if b = true then t E z A' else u E z A') := (rfl)
@[simp] theorem ap_sSet (i : Nat) (t : TE3) : sSet i t E z A = t z A (fun d A' => E.nx (z.set i (some d)) A') := (rfl)
@[simp] theorem ap_sSetR (i : Nat) (t : TE3) : sSetR i t E z A = t z A (fun d A' => shareD z i d A' E.nx) := (rfl)
@[simp] theorem share_ml (i : Nat) (xs : List D) (k : S3 → AH → Prop) : shareD z i (.ml xs) A k = ∀ a, A a = none → k (z.set i (some (.ref a))) (put A a (.lst xs)) := (rfl)
@[simp] theorem share_md (i : Nat) (xs : List (D × D)) (k : S3 → AH → Prop) : shareD z i (.md xs) A k = ∀ a, A a = none → k (z.set i (some (.ref a))) (put A a (.dct xs)) := (rfl)
@[simp] theorem share_bl (i : Nat) (b : Bool) (k : S3 → AH → Prop) : shareD z i (.bl b) A k = k (z.set i (some (.bl b))) A := (rfl)
@[simp] theorem held_nil : Held A [] = True := eq_true fun _ h => nomatch h
@[simp] theorem held_one (a : Addr) (xs : List D) : Held A [(a, xs)] = ((A a).bind hvO = some xs) := by simp [Held]
@[simp] theorem ap_sFz (i : Nat) (t : TS3) : sFz i t E z A = ∃ d, z[i]? = some (some d) ∧ t E (z.set i (some (frz d))) A := (rfl)
@[simp] theorem ap_sFor (t : TI3) (p : Pat) (tb : TS3) : sFor t p tb E z A = t z A (fun items ws A' => forW p tb E ws items z A') := (rfl)
@[simp] theorem ap_forNil (p : Pat) (tb : TS3) (ws : Ws) : forW p tb E ws [] z A = (Held A ws ∧ E.nx z A) := (rfl)
@[simp] theorem ap_iS (t : TE3) (Q : List D → Ws → AH → Prop) : iS t z A Q = t z A (fun d A' => withItems (itemsW A' (frz d)) fun xs ws => Q xs ws A') := (rfl)
@[simp] theorem with_some (xs : List D) (ws : Ws) (k : List D → Ws → Prop) : withItems (some (xs, ws)) k = k xs ws := (rfl)
@[simp] theorem ap_iR1 (t : TA3) (Q : List D → Ws → AH → Prop) : iR1 t z A Q = t z A (fun ds A' => ∃ j, ds = [.int j] ∧ small62 j ∧ Q (rng 0 j.toNat) [] A') := (rfl)
@[simp] theorem ap_iR2 (t : TA3) (Q : List D → Ws → AH → Prop) : iR2 t z A Q = t z A (fun ds A' => ∃ i j, ds = [.int i, .int j] ∧ small62 i ∧ small62 j ∧ Q (rng i (j - i).toNat) [] A') := (rfl)
@[simp] theorem ap_sAsgP (p : Pat) (t : TE3) : sAsgP p t E z A = t z A (fun d A' => ∃ z', setP p (frz d) z = some z' ∧ E.nx z' A') := (rfl)
@[simp] theorem ap_sM (i : Nat) (ok : Ob → Bool) (g : Ob → List D → Option (Ob × D)) (ta : TA3) (k : D → TS3) : sM i ok g ta k E z A = ∃ d0 ob, z[i]? = some (some d0) ∧ obOf d0 = some ob ∧ ok ob = true ∧ ta z A fun ds A2 => ∃ ob' d, g ob ds = some (ob', d) ∧ obOf (dOf ob') = some ob' ∧ k d E (z.set i (some (dOf ob'))) A2 := (rfl)
@[simp] theorem ap_kDrop (d : D) : kDrop d E z A = E.nx z A := (rfl)
@[simp] theorem ap_eMR (ok : Ob → Bool) (g : Ob → List D → Option (Ob × D)) (to : TE3) (ta : TA3) : eMR ok g to ta z A Q = to z A (fun d0 A1 => ∃ a ob, d0 = .ref a ∧ A1 a = some ob ∧ ok ob = true ∧ ta z A1 fun ds A2 => ∃ ob1 ob' d, A2 a = some ob1 ∧ g ob1 ds = some (ob', d) ∧ Q d (put A2 a ob')) := (rfl)
@[simp] theorem ap_sPut (i : Nat) (g : Ob → D → D → Option Ob) (tk tv : TE3) : sPut i g tk tv E z A = ((∃ d, z[i]? = some (some d)) ∧ tv z A fun v A1 => tk z A1 fun k A2 => ∃ d0 ob ob', z[i]? = some (some d0) ∧ obOf d0 = some ob ∧ g ob (frz k) (frz v) = some ob' ∧ obOf (dOf ob') = some ob' ∧ E.nx (z.set i (some (dOf ob'))) A2) := (rfl)
@[simp] theorem ap_sPutR (g : Ob → D → D → Option Ob) (to tk tv : TE3) : sPutR g to tk tv E z A = tv z A (fun v A1 => to z A1 fun d0 A2 => tk z A2 fun k A3 => ∃ a ob ob', frz d0 = .ref a ∧ A3 a = some ob ∧ g ob (frz k) (frz v) = some ob' ∧ E.nx z (put A3 a ob')) := (rfl)
@[simp] theorem ap_eLc (t : TI3) (p : Pat) (tt : TT3) (te : TE3) (vs : List Nat) : eLc t p tt te vs z A Q = ((∀ i ∈ vs, ∀ d, z[i]? = some (some d) → own d = false) ∧ t z A fun items ws A' => lcW p tt te (wipe3 z vs) ws items [] A' Q) := (rfl)
@[simp] theorem ap_nm (i : Nat) (d : D) : setP (.nm i) d z = some (z.set i (some d)) := (rfl)
theorem ap_tp (is : List Nat) (ds : List D) : setP (.tp is) (.tup ds) z = if ds.length = is.length then some (setAll z is ds) else none := rfl
@[simp] theorem ap_set0 (ds : List D) : setAll z [] ds = z := by cases ds <;> rfl
@[simp] theorem ap_setS (i : Nat) (is : List Nat) (d : D) (ds : List D) : setAll z (i :: is) (d :: ds) = setAll (z.set i (some d)) is ds := (rfl)
@[simp] theorem ap_wipe0 : wipe3 z [] = z := (rfl)
@[simp] theorem ap_wipeS (v : Nat) (vs : List Nat) : wipe3 z (v :: vs) = (wipe3 z vs).set v none := (rfl)
end
@[simp] theorem frz_non : frz .non = .non := (rfl)
@[simp] theorem frz_bl (b : Bool) : frz (.bl b) = .bl b := (rfl)
@[simp] theorem frz_int (b : Int) : frz (.int b) = .int b := (rfl)
@[simp] theorem frz_str (b : Str) : frz (.str b) = .str b := (rfl)
@[simp] theorem frz_tup (b : List D) : frz (.tup b) = .tup b := (rfl)
@[simp] theorem frz_lst (b : List D) : frz (.lst b) = .lst b := (rfl)
@[simp] theorem frz_dct (b : List (D × D)) : frz (.dct b) = .dct b := (rfl)
@[simp] theorem frz_ref (b : Addr) : frz (.ref b) = .ref b := (rfl)
@[simp] theorem frz_ml (b : List D) : frz (.ml b) = .lst b := (rfl)
@[simp] theorem frz_md (b : List (D × D)) : frz (.md b) = .dct b := (rfl)
@[simp] theorem own_non : own .non = false := (rfl)
@[simp] theorem own_bl (b : Bool) : own (.bl b) = false := (rfl)
@[simp] theorem own_int (b : Int) : own (.int b) = false := (rfl)
@[simp] theorem own_str (b : Str) : own (.str b) = false := (rfl)
@[simp] theorem own_tup (b : List D) : own (.tup b) = false := (rfl)
@[simp] theorem own_lst (b : List D) : own (.lst b) = false := (rfl)
@[simp] theorem own_dct (b : List (D × D)) : own (.dct b) = false := (rfl)
@[simp] theorem own_ref (b : Addr) : own (.ref b) = false := (rfl)
@[simp] theorem own_ml (b : List D) : own (.ml b) = true := (rfl)
@[simp] theorem own_md (b : List (D × D)) : own (.md b) = true := (rfl)
@[simp] theorem ob_ml (b : List D) : obOf (.ml b) = some (.lst b) := (rfl)
@[simp] theorem ob_md (b : List (D × D)) : obOf (.md b) = some (.dct b) := (rfl)
@[simp] theorem d_lst (b : List D) : dOf (.lst b) = .ml b := (rfl)
@[simp] theorem d_dct (b : List (D × D)) : dOf (.dct b) = .md b := (rfl)
section
variable (A : AH)
@[simp] theorem vw_non : vw A .non = .non := (rfl)
@[simp] theorem vw_bl' (b : Bool) : vw A (.bl b) = .bl b := (rfl)
@[simp] theorem vw_int' (b : Int) : vw A (.int b) = .int b := (rfl)
@[simp] theorem vw_str' (b : Str) : vw A (.str b) = .str b := (rfl)
@[simp] theorem vw_tup (b : List D) : vw A (.tup b) = .tup b := (rfl)
@[simp] theorem vw_lst (b : List D) : vw A (.lst b) = .lst b := (rfl)
@[simp] theorem vw_dct (b : List (D × D)) : vw A (.dct b) = .dct b := (rfl)
@[simp] theorem items_lst (b : List D) : itemsOf (.lst b) = some b := (rfl)
@[simp] theorem items_tup (b : List D) : itemsOf (.tup b) = some b := (rfl)
@[simp] theorem items_str (b : Str) : itemsOf (.str b) = some (signs b) := (rfl)
@[simp] theorem itemsW_lst (b : List D) : itemsW A (.lst b) = some (b, []) := (rfl)
@[simp] theorem itemsW_tup (b : List D) : itemsW A (.tup b) = some (b, []) := (rfl)
@[simp] theorem itemsW_str (b : Str) : itemsW A (.str b) = some (signs b, []) := (rfl)
@[simp] theorem ok_str (b : Str) : okS A (.str b) = true := (rfl)
@[simp] theorem ok_lst (b : List D) : okL (.lst b) = true := (rfl)
/-! ### operations at known shapes -/
@[simp] theorem okLt_int (a b : Int) : okLt (.int a) (.int b) = true := by simp [okLt, pok, pd, PySem.W.alike, dep]
@[simp] theorem okLt_str (a b : Str) : okLt (.str a) (.str b) = true := by simp [okLt, pok, pd, PySem.W.alike, dep]
@[simp] theorem ltD_int (a b : Int) : ltD (.int a) (.int b) = decide (a < b) := by
  unfold ltD
  rw [pd, pd]
  exact PySem.W.dataLt_int a b
@[simp] theorem fLt_int (a b : Int) : fLt A (.int a) (.int b) = some (.bl (decide (a < b))) := by simp [fLt]
@[simp] theorem fGt_int (a b : Int) : fGt A (.int a) (.int b) = some (.bl (decide (b < a))) := by simp [fGt]
@[simp] theorem fLe_int (a b : Int) : fLe A (.int a) (.int b) = some (.bl (decide (a ≤ b))) := by
  have h : a ≤ b ↔ ¬ b < a := by omega
  simp only [fLe, okLt_int, ltD_int, if_true, h, decide_not]
@[simp] theorem fGe_int (a b : Int) : fGe A (.int a) (.int b) = some (.bl (decide (b ≤ a))) := by
  have h : b ≤ a ↔ ¬ a < b := by omega
  simp only [fGe, okLt_int, ltD_int, if_true, h, decide_not]
@[simp] theorem fSub_int (a b : Int) : fSub A (.int a) (.int b) = some (.int (a - b)) := (rfl)
@[simp] theorem fAdd_int (a b : Int) : fAdd A (.int a) (.int b) = some (.int (a + b)) := (rfl)
@[simp] theorem fNeg_int (a : Int) : fNeg A (.int a) = some (.int (-a)) := (rfl)
@[simp] theorem fAdd_str (a b : Str) : fAdd A (.str a) (.str b) = if lim (a.length + b.length) then some (.str (a ++ b)) else none := (rfl)
@[simp] theorem fAdd_lst (a b : List D) : fAdd A (.lst a) (.lst b) = if lim (a.length + b.length) then some (.ml (a ++ b)) else none := (rfl)
@[simp] theorem fAdd_tup (a b : List D) : fAdd A (.tup a) (.tup b) = if lim (a.length + b.length) then some (.tup (a ++ b)) else none := (rfl)
theorem fMul_int (a b : Int) : fMul A (.int a) (.int b) = if big64 a || big64 b then some (.int (a * b)) else none := rfl
@[simp] theorem fMod_int (a b : Int) : fMod A (.int a) (.int b) = if 0 < b then some (.int (a % b)) else none := (rfl)
@[simp] theorem fFdiv_int (a b : Int) : fFdiv A (.int a) (.int b) = if 0 < b ∧ b < 2 ^ 128 then some (.int (a / b)) else none := (rfl)
@[simp] theorem fLen_lst (a : List D) : fLen A [.lst a] = some (.int a.length) := (rfl)
@[simp] theorem fLen_tup (a : List D) : fLen A [.tup a] = some (.int a.length) := (rfl)
@[simp] theorem fLen_str (a : Str) : fLen A [.str a] = if lim a.length then some (.int a.length) else none := (rfl)
@[simp] theorem fList_lst (a : List D) : fList A [.lst a] = some (.ml a) := (rfl)
@[simp] theorem fList_tup (a : List D) : fList A [.tup a] = some (.ml a) := (rfl)
@[simp] theorem fTuple_lst (a : List D) : fTuple A [.lst a] = some (.tup a) := (rfl)
@[simp] theorem fTuple_tup (a : List D) : fTuple A [.tup a] = some (.tup a) := (rfl)
@[simp] theorem fAll_lst (a : List D) : fAll A [.lst a] = (bls a).map fun bs => .bl (bs.all id) := (rfl)
@[simp] theorem fAny_lst (a : List D) : fAny A [.lst a] = (bls a).map fun bs => .bl (bs.any id) := (rfl)
@[simp] theorem fIx_lst (a : List D) (i : Int) : fIx A (.lst a) (.int i) = L2.atI a i := (rfl)
@[simp] theorem fIx_tup (a : List D) (i : Int) : fIx A (.tup a) (.int i) = L2.atI a i := (rfl)
@[simp] theorem fIx_str (a : Str) (i : Int) : fIx A (.str a) (.int i) = if lim a.length then (L2.atI a.cps.toList i).map fun c => .str ⟨#[c]⟩ else none := (rfl)
@[simp] theorem fSl_lst (a : List D) (lo hi : Option Int) : fSl A (.lst a) lo hi = some (.ml (cutD a lo hi)) := (rfl)
@[simp] theorem fSl_tup (a : List D) (lo hi : Option Int) : fSl A (.tup a) lo hi = some (.tup (cutD a lo hi)) := (rfl)
@[simp] theorem fSl_str (a : Str) (lo hi : Option Int) : fSl A (.str a) lo hi = if lim a.length then some (.str (cutS a lo hi)) else none := (rfl)
@[simp] theorem fFind_str (a b : Str) : fFind A (.str a) [.str b] = some (.int (Txt.find a b)) := (rfl)
@[simp] theorem fStarts_str (a b : Str) : fStarts A (.str a) [.str b] = some (.bl (Txt.startswith a b)) := (rfl)
@[simp] theorem fIsN_non (a : D) : fIsN A a .non = some (.bl (decide (a = .non))) := (rfl)
@[simp] theorem fNotN_non (a : D) : fNotN A a .non = some (.bl (!decide (a = .non))) := (rfl)
@[simp] theorem bls_map {α : Type} (f : α → Bool) : ∀ xs : List α, bls (xs.map fun x => D.bl (f x)) = some (xs.map f)
  | [] => rfl
  | x :: xs => by simp [bls, bls_map f xs]
@[simp] theorem bls_comp {α : Type} (f : α → Bool) (xs : List α) : bls (xs.map (D.bl ∘ f)) = some (xs.map f) := bls_map f xs
@[simp] theorem fIsB_bl (a b : Bool) : fIsB A (.bl a) (.bl b) = some (.bl (decide (a = b))) := (rfl)
@[simp] theorem fNotB_bl (a b : Bool) : fNotB A (.bl a) (.bl b) = some (.bl (!decide (a = b))) := (rfl)
@[simp] theorem isT_self (t : String) : isT t t = true := by simp [isT]
end

/-! ### == at known shapes -/
mutual
theorem eqv_refl : ∀ a : D, pok a = true → PyData.eqv (pd a) (pd a) = true
  | .non, _ => by simp [pd, PyData.eqv]
  | .bl _, _ => by simp [pd, PyData.eqv]
  | .int _, _ => by simp [pd, PyData.eqv]
  | .str _, _ => by simp [pd, PyData.eqv]
  | .tup xs, h => by rw [pd, PyData.eqv]; exact eqvs_refl xs (by rwa [pok] at h)
  | .lst xs, h => by rw [pd, PyData.eqv]; exact eqvs_refl xs (by rwa [pok] at h)
  | .dct _, h => by simp [pok] at h
  | .ref _, h => by simp [pok] at h
  | .ml _, h => by simp [pok] at h
  | .md _, h => by simp [pok] at h
theorem eqvs_refl : ∀ a : List D, poks a = true → PyData.eqvAll (pds a) (pds a) = true
  | [], _ => by simp [pds, PyData.eqvAll]
  | x :: xs, h => by
    simp only [poks, Bool.and_eq_true] at h
    rw [pds, PyData.eqvAll, eqv_refl x h.1, eqvs_refl xs h.2]; rfl
end
mutual
/-- no truths within -/
def nb : D → Bool
  | .non => true | .int _ => true | .str _ => true | .tup xs => nbs xs | .lst xs => nbs xs | _ => false
def nbs : List D → Bool
  | [] => true
  | x :: xs => nb x && nbs xs
end
mutual
theorem nb_pok : ∀ a : D, nb a = true → pok a = true
  | .non, _ => rfl
  | .int _, _ => rfl
  | .str _, _ => rfl
  | .tup xs, h => by rw [pok]; exact nbs_poks xs (by rwa [nb] at h)
  | .lst xs, h => by rw [pok]; exact nbs_poks xs (by rwa [nb] at h)
  | .bl _, h => by simp [nb] at h
  | .dct _, h => by simp [nb] at h
  | .ref _, h => by simp [nb] at h
  | .ml _, h => by simp [nb] at h
  | .md _, h => by simp [nb] at h
theorem nbs_poks : ∀ a : List D, nbs a = true → poks a = true
  | [], _ => rfl
  | x :: xs, h => by
    simp only [nbs, Bool.and_eq_true] at h
    rw [poks, nb_pok x h.1, nbs_poks xs h.2]; rfl
end
mutual
theorem eqv_eq : ∀ a b : D, nb a = true → nb b = true → PyData.eqv (pd a) (pd b) = true → a = b
  | .non, b, _, hb, h => by cases b <;> simp_all [pd, PyData.eqv, nb]
  | .int _, b, _, hb, h => by cases b <;> simp_all [pd, PyData.eqv, nb]
  | .str _, b, _, hb, h => by cases b <;> simp_all [pd, PyData.eqv, nb]
  | .tup xs, b, ha, hb, h => by
    cases b with
    | tup ys =>
      rw [nb] at ha hb
      rw [pd, pd, PyData.eqv] at h
      rw [eqvs_eq xs ys ha hb h]
    | _ => simp_all [pd, PyData.eqv, nb]
  | .lst xs, b, ha, hb, h => by
    cases b with
    | lst ys =>
      rw [nb] at ha hb
      rw [pd, pd, PyData.eqv] at h
      rw [eqvs_eq xs ys ha hb h]
    | _ => simp_all [pd, PyData.eqv, nb]
  | .bl _, _, ha, _, _ => by simp [nb] at ha
  | .dct _, _, ha, _, _ => by simp [nb] at ha
  | .ref _, _, ha, _, _ => by simp [nb] at ha
  | .ml _, _, ha, _, _ => by simp [nb] at ha
  | .md _, _, ha, _, _ => by simp [nb] at ha
theorem eqvs_eq : ∀ a b : List D, nbs a = true → nbs b = true → PyData.eqvAll (pds a) (pds b) = true → a = b
  | [], [], _, _, _ => rfl
  | [], _ :: _, _, _, h => by simp [pds, PyData.eqvAll] at h
  | _ :: _, [], _, _, h => by simp [pds, PyData.eqvAll] at h
  | x :: xs, y :: ys, ha, hb, h => by
    simp only [nbs, Bool.and_eq_true] at ha hb
    simp only [pds, PyData.eqvAll, Bool.and_eq_true] at h
    rw [eqv_eq x y ha.1 hb.1 h.1, eqvs_eq xs ys ha.2 hb.2 h.2]
end
/-- data without truths: equal just when the same -/
theorem eqD_nb {a b : D} (ha : nb a = true) (hb : nb b = true) : eqD a b = decide (a = b) := by
  unfold eqD
  by_cases h : a = b
  · subst h; rw [eqv_refl a (nb_pok a ha)]; simp
  · cases e : PyData.eqv (pd a) (pd b) with
    | true => exact absurd (eqv_eq a b ha hb e) h
    | false => simp [h]
@[simp] theorem eqD_bl (a b : Bool) : eqD (.bl a) (.bl b) = (a == b) := by simp [eqD, pd, PyData.eqv]
@[simp] theorem eqD_int (a b : Int) : eqD (.int a) (.int b) = decide (a = b) := by rw [eqD_nb rfl rfl]; simp
@[simp] theorem eqD_str (a b : Str) : eqD (.str a) (.str b) = decide (a = b) := by rw [eqD_nb rfl rfl]; simp
section
variable (A : AH)
@[simp] theorem fEq_bl (a b : Bool) : fEq A (.bl a) (.bl b) = some (.bl (a == b)) := by simp [fEq, okEq, pok, dep]
@[simp] theorem fNe_bl (a b : Bool) : fNe A (.bl a) (.bl b) = some (.bl (a != b)) := by simp [fNe, okEq, pok, dep, bne]
@[simp] theorem fEq_int (a b : Int) : fEq A (.int a) (.int b) = some (.bl (decide (a = b))) := by simp [fEq, okEq, pok, dep]
@[simp] theorem fNe_int (a b : Int) : fNe A (.int a) (.int b) = some (.bl (!decide (a = b))) := by simp [fNe, okEq, pok, dep]
@[simp] theorem fEq_str (a b : Str) : fEq A (.str a) (.str b) = some (.bl (decide (a = b))) := by simp [fEq, okEq, pok, dep]
@[simp] theorem fNe_str (a b : Str) : fNe A (.str a) (.str b) = some (.bl (!decide (a = b))) := by simp [fNe, okEq, pok, dep]
theorem fEq_nb {a b : D} (ha : nb (vw A a) = true) (hb : nb (vw A b) = true) (hd : dep (vw A a) ≤ 60) : fEq A a b = some (.bl (decide (vw A a = vw A b))) := by
  simp [fEq, okEq, nb_pok _ ha, nb_pok _ hb, hd, eqD_nb ha hb]
theorem fNe_nb {a b : D} (ha : nb (vw A a) = true) (hb : nb (vw A b) = true) (hd : dep (vw A a) ≤ 60) : fNe A a b = some (.bl (!decide (vw A a = vw A b))) := by
  simp [fNe, okEq, nb_pok _ ha, nb_pok _ hb, hd, eqD_nb ha hb]
end

/-! ### loops and comprehensions by what they keep -/
theorem for_rule {p : Pat} {tb : TS3} {E : Ends3} {ws : Ws} (I : Nat → S3 → AH → Prop) (hw : ∀ n z A, I n z A → Held A ws) : ∀ (items : List D) (k : Nat) (z : S3) (A : AH), I k z A →
    (∀ (i : Nat) (x : D), items[i]? = some x → ∀ (z : S3) (A : AH), I (k + i) z A → ∃ z', setP p x z = some z' ∧ ∀ E' : Ends3, (∀ d A, E.rt d A → E'.rt d A) → (∀ z A, E.nx z A → E'.bk z A) → (∀ z A, I (k + i + 1) z A → E'.nx z A) → (∀ z A, I (k + i + 1) z A → E'.ct z A) → tb E' z' A) →
    (∀ (z : S3) (A : AH), I (k + items.length) z A → E.nx z A) → forW p tb E ws items z A
  | [], k, z, A, h, _, q => ⟨hw _ _ _ h, q z A h⟩
  | x :: xs, k, z, A, h, step, q => by
    obtain ⟨z', e, hb⟩ := step 0 x rfl z A h
    have go : ∀ (z : S3) (A : AH), I (k + 0 + 1) z A → forW p tb E ws xs z A := fun z A hi => by
      refine for_rule I hw xs (k + 1) z A hi (fun i y hy z A hI => ?_) fun z A hI => q z A (by rw [List.length_cons, show k + (xs.length + 1) = k + 1 + xs.length by omega]; exact hI)
      have := step (i + 1) y hy z A (by rw [show k + (i + 1) = k + 1 + i by omega]; exact hI)
      rwa [show k + (i + 1) = k + 1 + i by omega] at this
    exact ⟨hw _ _ _ h, z', e, hb _ (fun _ _ h => h) (fun _ _ h => h) go go⟩
/-- a loop from its start; the lists that it walks are held by others -/
theorem for_invW {p : Pat} {tb : TS3} {E : Ends3} {ws : Ws} {items : List D} {z : S3} {A : AH} (I : Nat → S3 → AH → Prop) (hw : ∀ n z A, I n z A → Held A ws) (h0 : I 0 z A)
    (step : ∀ (i : Nat) (x : D), items[i]? = some x → ∀ (z : S3) (A : AH), I i z A → ∃ z', setP p x z = some z' ∧ ∀ E' : Ends3, (∀ d A, E.rt d A → E'.rt d A) → (∀ z A, E.nx z A → E'.bk z A) → (∀ z A, I (i + 1) z A → E'.nx z A) → (∀ z A, I (i + 1) z A → E'.ct z A) → tb E' z' A)
    (fin : ∀ (z : S3) (A : AH), I items.length z A → E.nx z A) : forW p tb E ws items z A := by
  refine for_rule I hw items 0 z A h0 (fun i x hx z A hI => ?_) fun z A hI => fin z A (by rwa [Nat.zero_add] at hI)
  rw [Nat.zero_add] at hI ⊢
  exact step i x hx z A hI
/-- a loop from its start -/
theorem for_inv {p : Pat} {tb : TS3} {E : Ends3} {items : List D} {z : S3} {A : AH} (I : Nat → S3 → AH → Prop) (h0 : I 0 z A)
    (step : ∀ (i : Nat) (x : D), items[i]? = some x → ∀ (z : S3) (A : AH), I i z A → ∃ z', setP p x z = some z' ∧ ∀ E' : Ends3, (∀ d A, E.rt d A → E'.rt d A) → (∀ z A, E.nx z A → E'.bk z A) → (∀ z A, I (i + 1) z A → E'.nx z A) → (∀ z A, I (i + 1) z A → E'.ct z A) → tb E' z' A)
    (fin : ∀ (z : S3) (A : AH), I items.length z A → E.nx z A) : forW p tb E [] items z A := for_invW I (fun _ _ A _ => by rw [held_nil]; trivial) h0 step fin
/-- a comprehension without if -/
theorem lc_mapW {p : Pat} {te : TE3} {z0 : S3} {A : AH} {Q : D → AH → Prop} {ws : Ws} (hw : Held A ws) (f : D → D) : ∀ (items acc : List D), acc.length + items.length ≤ sizeLine → (∀ x ∈ items, ∃ z', setP p x z0 = some z' ∧ ∀ R : D → AH → Prop, R (f x) A → te z' A R) →
    Q (.ml (acc ++ items.map fun x => frz (f x))) A → lcW p tYes3 te z0 ws items acc A Q
  | [], acc, _, _, q => ⟨hw, by simpa using q⟩
  | x :: xs, acc, hl, h, q => by
    obtain ⟨z', e, hx⟩ := h x List.mem_cons_self
    simp only [List.length_cons] at hl
    refine ⟨hw, z', e, hx _ ⟨by omega, ?_⟩⟩
    refine lc_mapW hw f xs _ (by rw [List.length_append, List.length_cons, List.length_nil]; omega) (fun y hy => h y (List.mem_cons_of_mem _ hy)) ?_
    simpa using q
theorem lc_map {p : Pat} {te : TE3} {z0 : S3} {A : AH} {Q : D → AH → Prop} (f : D → D) (items acc : List D) (hl : acc.length + items.length ≤ sizeLine) (h : ∀ x ∈ items, ∃ z', setP p x z0 = some z' ∧ ∀ R : D → AH → Prop, R (f x) A → te z' A R)
    (q : Q (.ml (acc ++ items.map fun x => frz (f x))) A) : lcW p tYes3 te z0 [] items acc A Q := lc_mapW (by rw [held_nil]; trivial) f items acc hl h q
/-- .. with an if -/
theorem lc_filterW {p : Pat} {tt : TT3} {te : TE3} {z0 : S3} {A : AH} {Q : D → AH → Prop} {ws : Ws} (hw : Held A ws) (g : D → Bool) (f : D → D) : ∀ (items acc : List D), acc.length + items.length ≤ sizeLine →
    (∀ x ∈ items, ∃ z', setP p x z0 = some z' ∧ (∀ R : Bool → AH → Prop, R (g x) A → tt z' A R) ∧ (g x = true → ∀ R : D → AH → Prop, R (f x) A → te z' A R)) →
    Q (.ml (acc ++ (items.filter g).map fun x => frz (f x))) A → lcW p tt te z0 ws items acc A Q
  | [], acc, _, _, q => ⟨hw, by simpa using q⟩
  | x :: xs, acc, hl, h, q => by
    obtain ⟨z', e, ht, hx⟩ := h x List.mem_cons_self
    simp only [List.length_cons] at hl
    refine ⟨hw, z', e, ht _ ?_⟩
    cases hg : g x with
    | true =>
      rw [if_pos rfl]
      refine hx hg _ ⟨by omega, ?_⟩
      refine lc_filterW hw g f xs _ (by rw [List.length_append, List.length_cons, List.length_nil]; omega) (fun y hy => h y (List.mem_cons_of_mem _ hy)) ?_
      simpa [List.filter_cons, hg] using q
    | false =>
      rw [if_neg (by simp)]
      refine lc_filterW hw g f xs _ (by omega) (fun y hy => h y (List.mem_cons_of_mem _ hy)) ?_
      simpa [List.filter_cons, hg] using q
theorem lc_filter {p : Pat} {tt : TT3} {te : TE3} {z0 : S3} {A : AH} {Q : D → AH → Prop} (g : D → Bool) (f : D → D) (items acc : List D) (hl : acc.length + items.length ≤ sizeLine)
    (h : ∀ x ∈ items, ∃ z', setP p x z0 = some z' ∧ (∀ R : Bool → AH → Prop, R (g x) A → tt z' A R) ∧ (g x = true → ∀ R : D → AH → Prop, R (f x) A → te z' A R))
    (q : Q (.ml (acc ++ (items.filter g).map fun x => frz (f x))) A) : lcW p tt te z0 [] items acc A Q := lc_filterW (by rw [held_nil]; trivial) g f items acc hl h q
end T3
set_option autoImplicit false
namespace T3
open PySem PySem.Spec PyProof.Rows L2

/-! ### dicts whose keys are numbers, texts, None and tuples of such, mixed -/
/-- the value is this key, shallow enough -/
def Nk (h : Heap) (k : NestedKey) (v : Value) : Prop := NestedIs h k v ∧ k.depth ≤ 8
/-- the entries hold these keys -/
def KeysAre (w : World) (h : Heap) (ks : List NestedKey) (es : Array DictEntry) : Prop :=
  es.size = ks.length ∧ ∀ (j : Nat) (k : NestedKey), ks[j]? = some k → ∃ e, es[j]? = some e ∧ Nk h k e.key ∧ e.hash = k.hash w
theorem Nk.isStr {h : Heap} {k : NestedKey} {v : Value} {x : Str} (i : Nk h k v) : v.isStr x = decide (k = .text x) := by
  rcases i with ⟨i, _⟩
  cases i <;> simp [Value.isStr]
  · rw [Bool.eq_iff_iff]; simp
section
variable {prog : Program} {w : World} {A : Around} {E : Value → Shared → Prop} {s : Shared} {d : Addr} {v : Value} {k : NestedKey} {ks : List NestedKey} {es : Array DictEntry} {ep : Nat} {o : Obj}
theorem eq_nk {k' : NestedKey} {u : Value} {Q : Bool → Shared → Prop} (hu : A.units + 8 < cLine) (h1 : Nk s.heap k' u) (h2 : Nk s.heap k v) (q : Q (decide (k' = k)) s) : wpAny (model prog w) A (eqBool u v) Q E s :=
  eqAt_key k' k A s u v h1.1 h2.1 (by have := h1.2; have := h2.2; omega) _ _ _ _ (by rw [← NestedKey.decide_eq]; exact q)
theorem quiet_nk {Q : Bool → Shared → Prop} (h : Nk s.heap k v) (q : Q true s) : wpAny (model prog w) A (eqIsQuiet 8 v) Q E s := quiet_key k v 8 s h.1 h.2 A E Q q
theorem KeysAre.key {i : Nat} {e : DictEntry} (hk : KeysAre w s.heap ks es) (he : es[i]? = some e) : ∃ k', ks[i]? = some k' ∧ Nk s.heap k' e.key ∧ e.hash = k'.hash w := by
  have hi : i < ks.length := by rw [← hk.1]; exact (Array.getElem?_eq_some_iff.mp he).1
  obtain ⟨e', h1, h2, h3⟩ := hk.2 i ks[i] (List.getElem?_eq_getElem hi)
  rw [he] at h1; cases h1
  exact ⟨_, List.getElem?_eq_getElem hi, h2, h3⟩
/-- where a hash stands -/
def spots (w : World) (es : Array DictEntry) (k : NestedKey) : List Nat := placesWithHash es.size (fun i => es[i]?.map (·.hash)) (k.hash w)
theorem spots_mem {i : Nat} : i ∈ spots w es k ↔ i < es.size ∧ es[i]?.map (·.hash) = some (k.hash w) := by
  unfold spots placesWithHash
  rw [List.mem_filter, List.mem_range, beq_iff_eq]
theorem spots_nodup : (spots w es k).Nodup := by
  unfold spots placesWithHash
  exact List.Pairwise.filter _ List.nodup_range
/-- a place of the key is such a place -/
theorem spots_key {j : Nat} (hk : KeysAre w s.heap ks es) (hj : ks[j]? = some k) : j ∈ spots w es k := by
  obtain ⟨e, he, _, hh⟩ := hk.2 j k hj
  refine spots_mem.mpr ⟨(Array.getElem?_eq_some_iff.mp he).1, ?_⟩
  rw [he, Option.map_some, hh]
theorem stored_nk (hk : KeysAre w s.heap ks es) : ∀ u ∈ (spots w es k).filterMap (fun i => es[i]?.map (·.key)), ∃ k', Nk s.heap k' u := by
  intro u hu
  obtain ⟨i, _, hi⟩ := List.mem_filterMap.mp hu
  cases he : es[i]? with
  | none => rw [he] at hi; cases hi
  | some e =>
    rw [he] at hi
    cases hi
    obtain ⟨k', _, h, _⟩ := hk.key he
    exact ⟨k', h⟩
theorem tells_nk {vs : List Value} {Q : Bool → Shared → Prop} (h : Nk s.heap k v) (hs : ∀ u ∈ vs, ∃ k', Nk s.heap k' u) (q : Q false s) : wpAny (model prog w) A (tableMayTell v vs) Q E s := by
  unfold tableMayTell
  split
  · exact wpAny_pure q
  · refine wpAny_bind (quiet_nk h ?_)
    rw [if_neg (by simp)]
    refine wpAny_bind (wpAny_forIn_list _ (fun rest r s' => s' = s ∧ r = (none, ()) ∧ ∀ u ∈ rest, ∃ k', Nk s.heap k' u) _ ?_ ?_ _ _ ⟨rfl, rfl, hs⟩)
    · rintro u rest r s' ⟨rfl, rfl, hr⟩
      obtain ⟨k', hu⟩ := hr u List.mem_cons_self
      refine wpAny_bind (quiet_nk hu ?_)
      rw [if_neg (by simp)]
      exact wpAny_pure ⟨rfl, rfl, fun x hx => hr x (List.mem_cons_of_mem _ hx)⟩
    · rintro r s' ⟨rfl, rfl, _⟩
      exact wpAny_pure q
/-- the walk over places, when all is carried by value -/
theorem plain_nk {Q : Option Nat → Shared → Prop} (hu : A.units + 8 < cLine) (hkey : Nk s.heap k v) (ho : s.heap.get? d = some o) (hd : o.data = .dict es ep) (hk : KeysAre w s.heap ks es) (hn : ks.Nodup)
    (q0 : k ∉ ks → Q none s) (q1 : ∀ j, ks[j]? = some k → Q (some j) s) : wpAny (model prog w) A (dictWalkPlain d v (k.hash w) es (spots w es k)) Q E s := by
  unfold dictWalkPlain
  refine wpAny_bind (wpAny_forIn_list _ (fun rest b s' => s' = s ∧ b = (none, ()) ∧ ∃ pre, spots w es k = pre ++ rest ∧ ∀ j ∈ pre, ks[j]? ≠ some k) _ ?_ ?_ _ _ ⟨rfl, rfl, [], rfl, fun _ h => (nomatch h)⟩)
  · rintro i rest b s' ⟨rfl, rfl, pre, hp, hno⟩
    have hi : i ∈ spots w es k := by rw [hp]; simp
    obtain ⟨hlt, hh⟩ := spots_mem.mp hi
    have he := Array.getElem?_eq_getElem hlt
    obtain ⟨k', hk1, hk2, hk3⟩ := hk.key he
    rw [he, Option.map_some, Option.some.injEq] at hh
    simp only [he]
    rw [if_pos (by rw [hh]; exact beq_self_eq_true _)]
    refine wpAny_bind (wpAny_dictEpoch ho hd (wpAny_bind (eq_nk hu hk2 hkey (wpAny_bind (wpAny_dictEpoch ho hd ?_)))))
    rw [if_neg (by simp)]
    by_cases e : k' = k
    · rw [decide_eq_true e]
      exact wpAny_bind (wpAny_rule (wpAny_pure (wpAny_pure (q1 i (by rw [hk1, e])))))
    · rw [decide_eq_false e]
      refine wpAny_bind (wpAny_rule (wpAny_pure ⟨rfl, rfl, pre ++ [i], by rw [hp]; simp, fun j hj => ?_⟩))
      rcases List.mem_append.mp hj with h | h
      · exact hno j h
      · rw [List.mem_singleton.mp h, hk1]
        exact fun z => e (Option.some.inj z)
  · rintro b s' ⟨rfl, rfl, pre, hp, hno⟩
    rw [List.append_nil] at hp
    refine wpAny_pure (q0 fun hm => ?_)
    obtain ⟨j, hj⟩ := List.mem_iff_getElem?.mp hm
    exact hno j (by rw [← hp]; exact spots_key hk hj) hj
theorem wp_ite {α : Type} {c : Prop} [Decidable c] {a b : Sem α} {Q : α → Shared → Prop} (h1 : c → wpAny (model prog w) A a Q E s) (h2 : ¬ c → wpAny (model prog w) A b Q E s) : wpAny (model prog w) A (if c then a else b) Q E s := by
  by_cases h : c
  · rw [if_pos h]; exact h1 h
  · rw [if_neg h]; exact h2 h
/-- THE SEARCH -/
theorem find_nk {Q : Option Nat → Shared → Prop} (hu : A.units + 8 < cLine) (hkey : Nk s.heap k v) (ho : s.heap.get? d = some o) (hd : o.data = .dict es ep) (hk : KeysAre w s.heap ks es) (hn : ks.Nodup)
    (q0 : k ∉ ks → Q none s) (q1 : ∀ j, ks[j]? = some k → Q (some j) s) : wpAny (model prog w) A (dictFind d v (k.hash w)) Q E s := by
  have one : ∀ i j : Nat, ks[i]? = some k → ks[j]? = some k → i = j := fun i j h1 h2 => by
    have l1 := (List.getElem?_eq_some_iff.mp h1).1
    exact (List.getElem?_inj l1 hn).mp (h1.trans h2.symm)
  unfold dictFind
  try with_reducible refine wpAny_holding ?_
  refine wpAny_bind (wpAny_dictEntries ho hd ?_)
  dsimp only
  have hany : ∀ a, v = .ref a → ¬ (es.any fun e => e.key == v && e.hash != k.hash w) = true := fun a ea h => by
    obtain ⟨i, hi, hb⟩ := Array.any_eq_true.mp h
    obtain ⟨k', _, h2, h3⟩ := hk.key (Array.getElem?_eq_getElem hi)
    simp only [Bool.and_eq_true, beq_iff_eq, bne_iff_ne, ne_eq] at hb
    rw [hb.1] at h2
    rw [NestedIs.inj _ _ _ h2.1 hkey.1] at h3
    exact hb.2 h3
  have hv : v = .none ∨ (∃ b, v = .bool b) ∨ (∃ i t, v = .int i t) ∨ (∃ x t, v = .str x t ∧ k = .text x) ∨ ∃ a, v = .ref a := by
    rcases hkey with ⟨i, _⟩
    cases i
    · exact .inl rfl
    · exact .inr (.inl ⟨_, rfl⟩)
    · exact .inr (.inr (.inl ⟨_, _, rfl⟩))
    · exact .inr (.inr (.inr (.inl ⟨_, _, rfl, rfl⟩)))
    · exact .inr (.inr (.inr (.inr ⟨_, rfl⟩)))
  rcases hv with rfl | ⟨b, rfl⟩ | ⟨i, t, rfl⟩ | ⟨x, t, rfl, hkx⟩ | ⟨a, rfl⟩
  case' inr.inr.inr.inl =>
    dsimp only
    refine wp_ite (fun hstr => ?_) fun hstr => ?_
    · skip
      unfold foundByValue
      cases hf : es.findIdx? (fun e => e.key.isStr x) with
      | none =>
        refine wpAny_pure (q0 fun hm => ?_)
        obtain ⟨j, hj⟩ := List.mem_iff_getElem?.mp hm
        obtain ⟨e, he, h1, _⟩ := hk.2 j _ hj
        have := Array.findIdx?_eq_none_iff.mp hf e (Array.mem_of_getElem? he)
        rw [h1.isStr, decide_eq_true hkx] at this
        cases this
      | some i =>
        obtain ⟨hlt, hi, _⟩ := Array.findIdx?_eq_some_iff_getElem.mp hf
        obtain ⟨k', hk1, hk2, hk3⟩ := hk.key (Array.getElem?_eq_getElem hlt)
        rw [hk2.isStr, decide_eq_true_iff, ← hkx] at hi
        simp only [Array.getElem?_eq_getElem hlt]
        refine wpAny_bind (wpAny_dictEpoch ho hd (wpAny_bind (eq_nk hu hk2 hkey (wpAny_bind (wpAny_dictEpoch ho hd ?_)))))
        rw [if_neg (by simp), decide_eq_true hi]
        exact wpAny_bind (wpAny_rule (wpAny_pure (q1 i (by rw [hk1, hi]))))
  all_goals (
    try dsimp only
    refine wp_ite (fun hall => ?_) fun hall => ?_
    · first
        | exact plain_nk hu hkey ho hd hk hn q0 q1
        | exact wpAny_bind (plain_nk hu hkey ho hd hk hn (fun h => wpAny_pure (q0 h)) fun j h => wpAny_pure (q1 j h))
    · try rw [if_neg (hany _ rfl)]
      refine wp_ite (fun hone => ?_) fun hone => ?_
      all_goals (
        first | refine wpAny_bind (wpAny_pure ?_) | refine wpAny_bind (tells_nk hkey (stored_nk hk) ?_)
        rw [if_neg (by simp)]
        refine wpAny_bind (wpAny_forIn_list _ (fun rest b s' => s' = s ∧ ∃ pre hit, b = (none, hit) ∧ spots w es k = pre ++ rest ∧ ((hit = none ∧ ∀ j ∈ pre, ks[j]? ≠ some k) ∨ ∃ j, hit = some j ∧ j ∈ pre ∧ ks[j]? = some k)) _ ?_ ?_ _ _ ⟨rfl, [], none, rfl, rfl, .inl ⟨rfl, fun _ h => (nomatch h)⟩⟩)
        · rintro i rest b s' ⟨rfl, pre, hit, rfl, hp, hh⟩
          have hi : i ∈ spots w es k := by rw [hp]; simp
          obtain ⟨hlt, hash⟩ := spots_mem.mp hi
          have he := Array.getElem?_eq_getElem hlt
          obtain ⟨k', hk1, hk2, hk3⟩ := hk.key he
          rw [he, Option.map_some, Option.some.injEq] at hash
          simp only [he]
          rw [if_pos (by rw [hash]; exact beq_self_eq_true _)]
          refine wpAny_bind (wpAny_dictEpoch ho hd (wpAny_bind (eq_nk hu hk2 hkey (wpAny_bind (wpAny_dictEpoch ho hd ?_)))))
          rw [if_neg (by simp)]
          refine wp_ite (fun hs => ?_) fun hs => ?_
          · have ek := of_decide_eq_true hs
            rw [ek] at hk1
            rcases hh with ⟨rfl, hno⟩ | ⟨j, rfl, hj1, hj2⟩
            · rw [if_neg (by simp)]
              refine wpAny_bind (wpAny_rule (wp_ite (fun _ => wpAny_pure (wpAny_pure (q1 i hk1))) fun _ => ?_))
              exact wpAny_pure ⟨rfl, pre ++ [i], some i, rfl, by rw [hp]; simp, .inr ⟨i, rfl, by simp, hk1⟩⟩
            · exfalso
              have hn2 := spots_nodup (w := w) (es := es) (k := k)
              rw [hp] at hn2
              rw [one _ _ hj2 hk1] at hj1
              exact (List.nodup_append.mp hn2).2.2 i hj1 i List.mem_cons_self rfl
          · have ek : ¬ k' = k := fun z => hs (decide_eq_true z)
            refine wpAny_bind (wpAny_rule ?_)
            rw [if_neg (by simp)]
            refine wpAny_pure ⟨rfl, pre ++ [i], hit, rfl, by rw [hp]; simp, ?_⟩
            rcases hh with ⟨rfl, hno⟩ | ⟨j, rfl, hj1, hj2⟩
            · refine .inl ⟨rfl, fun j hj => ?_⟩
              rcases List.mem_append.mp hj with h | h
              · exact hno j h
              · rw [List.mem_singleton.mp h, hk1]
                exact fun z => ek (Option.some.inj z)
            · exact .inr ⟨j, rfl, List.mem_append_left _ hj1, hj2⟩
        · rintro b s' ⟨rfl, pre, hit, rfl, hp, hh⟩
          rw [List.append_nil] at hp
          rcases hh with ⟨rfl, hno⟩ | ⟨j, rfl, _, hj⟩
          · refine wpAny_pure (q0 fun hm => ?_)
            obtain ⟨j, hj⟩ := List.mem_iff_getElem?.mp hm
            exact hno j (by rw [← hp]; exact spots_key hk hj) hj
          · exact wpAny_pure (q1 j hj)))
end
end T3
set_option autoImplicit false
namespace T3
open PySem PySem.Spec PyProof.Rows L2

/-! ### dicts as rows of pairs -/
def dget : List (D × D) → D → Option D
  | [], _ => none
  | (k', d) :: r, k => if k' = k then some d else dget r k
def dput : List (D × D) → D → D → List (D × D)
  | [], k, d => [(k, d)]
  | (k', d') :: r, k, d => if k' = k then (k, d) :: r else (k', d') :: dput r k d
theorem dget_none {k : D} : ∀ {kvs : List (D × D)}, k ∉ kvs.map (·.1) → dget kvs k = none
  | [], _ => rfl
  | (k', d) :: r, h => by
    simp only [List.map_cons, List.mem_cons, not_or] at h
    rw [dget, if_neg (fun e => h.1 e.symm), dget_none h.2]
theorem dget_at {k d : D} : ∀ {kvs : List (D × D)} {j : Nat}, (kvs.map (·.1)).Nodup → kvs[j]? = some (k, d) → dget kvs k = some d
  | [], _, _, e => by simp at e
  | (k', d') :: r, j, hn, e => by
    rw [List.map_cons, List.nodup_cons] at hn
    cases j with
    | zero => simp at e; rw [dget, if_pos e.1, e.2]
    | succ j =>
      have e' : r[j]? = some (k, d) := by simpa using e
      rw [dget, if_neg, dget_at hn.2 e']
      rintro rfl
      exact hn.1 (List.mem_map.mpr ⟨_, List.mem_of_getElem? e', rfl⟩)
theorem dput_new {k d : D} : ∀ {kvs : List (D × D)}, k ∉ kvs.map (·.1) → dput kvs k d = kvs ++ [(k, d)]
  | [], _ => rfl
  | (k', d') :: r, h => by
    simp only [List.map_cons, List.mem_cons, not_or] at h
    rw [dput, if_neg (fun e => h.1 e.symm), dput_new h.2]; rfl
theorem dput_old {k d d0 : D} : ∀ {kvs : List (D × D)} {j : Nat}, (kvs.map (·.1)).Nodup → kvs[j]? = some (k, d0) → dput kvs k d = kvs.set j (k, d)
  | [], _, _, e => by simp at e
  | (k', d') :: r, j, hn, e => by
    rw [List.map_cons, List.nodup_cons] at hn
    cases j with
    | zero => simp at e; rw [dput, if_pos e.1]; rfl
    | succ j =>
      have e' : r[j]? = some (k, d0) := by simpa using e
      rw [dput, if_neg, dput_old hn.2 e']; rfl
      rintro rfl
      exact hn.1 (List.mem_map.mpr ⟨_, List.mem_of_getElem? e', rfl⟩)
theorem dput_mem {k d : D} {p : D × D} : ∀ {kvs : List (D × D)}, p ∈ dput kvs k d → p = (k, d) ∨ p ∈ kvs
  | [], h => by simp [dput] at h; exact .inl h
  | (k', d') :: r, h => by
    rw [dput] at h
    split at h
    · rcases List.mem_cons.mp h with h | h
      · exact .inl h
      · exact .inr (List.mem_cons_of_mem _ h)
    · rcases List.mem_cons.mp h with h | h
      · rw [h]; exact .inr List.mem_cons_self
      · rcases dput_mem h with h | h
        · exact .inl h
        · exact .inr (List.mem_cons_of_mem _ h)
theorem dput_keys {k d x : D} : ∀ {kvs : List (D × D)}, x ∈ (dput kvs k d).map (·.1) ↔ x = k ∨ x ∈ kvs.map (·.1)
  | [] => by simp [dput]
  | (k', d') :: r => by
    rw [dput]
    split
    · rename_i e; subst e; simp
    · rw [List.map_cons, List.mem_cons, dput_keys (kvs := r), List.map_cons, List.mem_cons]
      constructor
      · rintro (h | h | h)
        · exact .inr (.inl h)
        · exact .inl h
        · exact .inr (.inr h)
      · rintro (h | h | h)
        · exact .inr (.inl h)
        · exact .inl h
        · exact .inr (.inr h)
theorem dput_nodup {k d : D} : ∀ {kvs : List (D × D)}, (kvs.map (·.1)).Nodup → ((dput kvs k d).map (·.1)).Nodup
  | [], _ => by simp [dput]
  | (k', d') :: r, h => by
    rw [List.map_cons, List.nodup_cons] at h
    rw [dput]
    split
    · rename_i e; subst e; rw [List.map_cons, List.nodup_cons]; exact h
    · rename_i e
      rw [List.map_cons, List.nodup_cons]
      refine ⟨fun hm => ?_, dput_nodup h.2⟩
      rcases dput_keys.mp hm with z | z
      · exact e z
      · exact h.1 z
theorem DOk.put {kvs : List (D × D)} {k d : D} (h : DOk kvs) (hk : kfit k = true) : DOk (dput kvs k d) := by
  refine ⟨fun p hp => ?_, dput_nodup h.2⟩
  rcases dput_mem hp with rfl | hp
  · exact hk
  · exact h.1 p hp
theorem dput_length {k d : D} : ∀ {kvs : List (D × D)}, (dput kvs k d).length ≤ kvs.length + 1
  | [] => by simp [dput]
  | (k', d') :: r => by
    rw [dput]
    split
    · simp
    · have := dput_length (k := k) (d := d) (kvs := r)
      simp only [List.length_cons]; omega
/-! ### the search's answers -/
section
variable {prog : Program} {w : World} {A : Around} {E : Value → Shared → Prop} {s : Shared} {a : Addr} {u v : Value} {k : NestedKey} {ks : List NestedKey} {es : Array DictEntry} {ep : Nat} {o : Obj}
theorem KeysAre.toks {n : Nat} (h : KeysAre w s.heap ks es) : KeysAre w ({ s with toks := n } : Shared).heap ks es := h
theorem get_nk {Q : Option Value → Shared → Prop} (hu : A.units + 8 < cLine) (hkey : Nk s.heap k u) (ho : s.heap.get? a = some o) (hd : o.data = .dict es ep) (hk : KeysAre w s.heap ks es) (hn : ks.Nodup)
    (q0 : k ∉ ks → ∀ n, Q none { s with toks := n }) (q1 : ∀ (j : Nat) (e : DictEntry), ks[j]? = some k → es[j]? = some e → ∀ n, Q (some e.val) { s with toks := n }) : wpAny (model prog w) A (dictGet a u) Q E s := by
  unfold dictGet
  try with_reducible refine wpAny_holding ?_
  refine wpAny_bind (pyHash_key k u A s _ hkey.1 (by have := hkey.2; omega) (wpAny_bind (find_nk (s := { s with toks := s.toks + k.draws }) hu hkey ho hd hk hn (fun h => ?_) fun j hj => ?_)))
  · exact wpAny_pure (q0 h _)
  · obtain ⟨e, he, _⟩ := hk.2 j k hj
    refine wpAny_bind (wpAny_dictEntries (s := { s with toks := s.toks + k.draws }) ho hd ?_)
    rw [he]
    exact wpAny_pure (q1 j e hj he _)
/-- what a store makes of the heap -/
def Wrote (s : Shared) (a : Addr) (es' : Array DictEntry) (h' : Heap) : Prop := ∃ o' ep', h'.get? a = some o' ∧ (o'.ExactDict ∧ ∀ o arr ep, s.heap.get? a = some o → o.data = .dict arr ep → ep = arr.size → ep' = es'.size) ∧ o'.data = .dict es' ep' ∧ Heap.SameBut a s.heap h'
theorem set_nk {Q : Unit → Shared → Prop} (hu : A.units + 8 < cLine) (hkey : Nk s.heap k u) (ho : s.heap.get? a = some o) (hc : o.ExactDict) (hd : o.data = .dict es ep) (hk : KeysAre w s.heap ks es) (hn : ks.Nodup) (hz : es.size ≤ sizeLine)
    (q0 : k ∉ ks → ∀ h' n, Wrote s a (es.push ⟨k.hash w, u, v⟩) h' → Q () { s with heap := h', toks := n })
    (q1 : ∀ j, ks[j]? = some k → ∀ h' n, Wrote s a (es.modify j fun e => { e with val := v }) h' → Q () { s with heap := h', toks := n }) : wpAny (model prog w) A (dictSet a u v) Q E s := by
  unfold dictSet
  try with_reducible refine wpAny_holding ?_
  refine wpAny_bind (pyHash_key k u A s _ hkey.1 (by have := hkey.2; omega) ?_)
  unfold dictSetHashed
  try with_reducible refine wpAny_holding ?_
  refine wpAny_bind (find_nk (s := { s with toks := s.toks + k.draws }) hu hkey ho hd hk hn (fun h => ?_) fun j hj => ?_)
  · exact wpAny_bind (wpAny_rule (wpAny_updateDictKeys (hz := hz) (s := { s with toks := s.toks + k.draws }) ho hd
      (q0 h _ _ ⟨_, _, Heap.get?_update_self _ ho (Obj.isFreed_of_dict (Obj.data_mapDictKeys hd _)), ⟨hc.mapDictKeys _, fun o2 arr2 ep2 g1 g2 g3 => by rw [show o2 = o from Option.some.inj (g1.symm.trans ho)] at g2; rw [hd] at g2; cases g2; rw [Array.size_push]; omega⟩, Obj.data_mapDictKeys hd _, Heap.SameBut.update ..⟩)))
  · exact wpAny_bind (wpAny_rule (wpAny_bind (wpAny_updateDict (s := { s with toks := s.toks + k.draws }) ho hd (wpAny_point
      (q1 j hj _ _ ⟨_, _, Heap.get?_update_self _ ho (Obj.isFreed_of_dict (Obj.data_mapDict hd _)), ⟨hc.mapDict _, fun o2 arr2 ep2 g1 g2 g3 => by rw [show o2 = o from Option.some.inj (g1.symm.trans ho)] at g2; rw [hd] at g2; cases g2; rw [Array.size_modify]; exact g3⟩, Obj.data_mapDict hd _, Heap.SameBut.update ..⟩)))))
end

/-! ### the dict at an address, in the abstract -/
/-- the dict at a, to be read -/
def DtR (K : PySem.W.Frag) (w : World) (H : Hp) (a : Addr) (kvs : List (D × D)) : Prop := ∃ es, (H a = some (dh a es) ∨ ∃ o, H a = some (.frz o (dh a es))) ∧ DOk kvs ∧ Rpk K w H kvs es
section
variable {X : Cx} {pins : List (Addr × Obj)} {σ : L2.St} {H : Hp} {s : Shared}
mutual
theorem nk_is (I : Inv X pins σ H s) : ∀ {d : D} {x : V} {u : Value}, kok d = true → Rp X.K X.w H d x → RelV x u → NestedIs s.heap (dk d) u
  | .non, _, _, _, h, r => by rw [Rp] at h; subst h; cases r; exact .none
  | .int i, _, _, _, h, r => by rw [Rp] at h; subst h; obtain ⟨t, rfl⟩ := r; exact .int i t
  | .str i, _, _, _, h, r => by rw [Rp] at h; subst h; obtain ⟨t, rfl⟩ := r; exact .text i t
  | .tup ds, _, _, o, h, r => by
    rw [Rp] at h
    obtain ⟨a, xs, rfl, hs, hr⟩ := h
    cases r
    obtain ⟨its, rv, ⟨ob, e1, e2, n, e3⟩, _⟩ := I.tuple hs.sqt
    rw [dk]
    exact .tup e1 e2 e3 (by simpa using nks_are I (by rwa [kok] at o) hr rv)
  | .bl _, _, _, o, _, _ => by simp [kok] at o
  | .lst _, _, _, o, _, _ => by simp [kok] at o
  | .dct _, _, _, o, _, _ => by simp [kok] at o
  | .ref _, _, _, o, _, _ => by simp [kok] at o
  | .ml _, _, _, o, _, _ => by simp [kok] at o
  | .md _, _, _, o, _, _ => by simp [kok] at o
theorem nks_are (I : Inv X pins σ H s) : ∀ {ds : List D} {xs : List V} {us : List Value}, koks ds = true → Rps X.K X.w H ds xs → Vals xs us → NestedAll s.heap (dks ds) us
  | [], _, _, _, h, r => by rw [Rps] at h; subst h; cases r; exact .nil
  | d :: ds, _, _, o, h, r => by
    rw [Rps] at h
    obtain ⟨x, q, rfl, h1, h2⟩ := h
    simp only [koks, Bool.and_eq_true] at o
    cases r with
    | cons a b => exact .cons (nk_is I o.1 h1 a) (nks_are I o.2 h2 b)
end
theorem kfit_of {d : D} (h : kfit d = true) : kok d = true ∧ (dk d).depth ≤ 8 := by
  simpa [kfit] using h
theorem nk_of (I : Inv X pins σ H s) {d : D} {x : V} {u : Value} (o : kfit d = true) (h : Rp X.K X.w H d x) (r : RelV x u) : Nk s.heap (dk d) u := ⟨nk_is I (kfit_of o).1 h r, (kfit_of o).2⟩
/-- entries and pairs -/
theorem ent_at : ∀ {kvs : List (D × D)} {es : List (Int × V × V)} {ens : List DictEntry} {j : Nat} {k d : D}, Rpk X.K X.w H kvs es → EntsAre es ens → kvs[j]? = some (k, d) →
    ∃ e x y, ens[j]? = some e ∧ e.hash = (dk k).hash X.w ∧ RelV x e.key ∧ Rp X.K X.w H k x ∧ RelV y e.val ∧ Rp X.K X.w H d y
  | [], _, _, _, _, _, _, _, e => by simp at e
  | (k', d') :: r, _, _, j, k, d, hr, he, e => by
    rw [Rpk] at hr
    obtain ⟨x, y, q, rfl, h1, h2, h3⟩ := hr
    cases he with
    | cons a b c t =>
      cases j with
      | zero =>
        simp only [List.getElem?_cons_zero, Option.some.injEq, Prod.mk.injEq] at e
        obtain ⟨rfl, rfl⟩ := e
        exact ⟨_, x, y, rfl, a, b, h1, c, h2⟩
      | succ j => exact ent_at (j := j) h3 t (by simpa using e)
theorem rpk_length : ∀ {kvs : List (D × D)} {es : List (Int × V × V)}, Rpk X.K X.w H kvs es → es.length = kvs.length
  | [], _, h => by rw [Rpk] at h; subst h; rfl
  | (k, d) :: r, _, h => by
    rw [Rpk] at h
    obtain ⟨x, y, q, rfl, _, _, h3⟩ := h
    rw [List.length_cons, List.length_cons, rpk_length h3]
theorem keys_nodup : ∀ {kvs : List (D × D)}, DOk kvs → (kvs.map fun p => dk p.1).Nodup
  | [], _ => by simp
  | (k, d) :: r, h => by
    have h2 := h.2
    rw [List.map_cons, List.nodup_cons] at h2
    rw [List.map_cons, List.nodup_cons]
    refine ⟨fun hm => ?_, keys_nodup ⟨fun p hp => h.1 p (List.mem_cons_of_mem _ hp), h2.2⟩⟩
    obtain ⟨p, hp, e⟩ := List.mem_map.mp hm
    have ek := dk_inj p.1 k (kfit_of (h.1 p (List.mem_cons_of_mem _ hp))).1 (kfit_of (h.1 (k, d) List.mem_cons_self)).1 e
    exact h2.1 (List.mem_map.mpr ⟨p, hp, ek⟩)
theorem key_place {kvs : List (D × D)} {k : D} {j : Nat} (h : DOk kvs) (hk : kfit k = true) (e : (kvs.map fun p => dk p.1)[j]? = some (dk k)) : ∃ d, kvs[j]? = some (k, d) := by
  rw [List.getElem?_map] at e
  cases q : kvs[j]? with
  | none => rw [q] at e; cases e
  | some p =>
    rw [q] at e
    simp only [Option.map_some, Option.some.injEq] at e
    have := dk_inj p.1 k (kfit_of (h.1 p (List.mem_of_getElem? q))).1 (kfit_of hk).1 e
    exact ⟨p.2, by rw [← this]⟩
theorem key_none {kvs : List (D × D)} {k : D} (e : dk k ∉ kvs.map fun p => dk p.1) : k ∉ kvs.map (·.1) := fun hm => by
  obtain ⟨p, hp, rfl⟩ := List.mem_map.mp hm
  exact e (List.mem_map.mpr ⟨p, hp, rfl⟩)
/-- the dict in the heap -/
theorem dict_at (I : Inv X pins σ H s) {a : Addr} {kvs : List (D × D)} (h : DtR X.K X.w H a kvs) : ∃ (o : Obj) (arr : Array DictEntry) (ep : Nat) (es : List (Int × V × V)), s.heap.get? a = some o ∧ o.ExactDict ∧ o.data = .dict arr ep ∧ (a == sysModules) = false ∧
    arr.size = kvs.length ∧ arr.size ≤ sizeLine ∧ EntsAre es arr.toList ∧ Rpk X.K X.w H kvs es ∧ KeysAre X.w s.heap (kvs.map fun p => dk p.1) arr ∧ (kvs.map fun p => dk p.1).Nodup := by
  obtain ⟨es, hH, hk, hr⟩ := h
  have de : DE a es s.heap := by
    rcases hH with hH | ⟨o, hH⟩
    · exact (show ObjOk X.prog X.w H s.heap a (.ext (DE a es)) from I.hok a _ hH).1
    · exact (show ObjOk X.prog X.w H s.heap a (.ext (DE a es)) from (I.hok a _ hH).2).1
  obtain ⟨hz, hm, o, arr, ep, ho, hc, hd, ea, _⟩ := de
  have l1 := rpk_length hr
  have l2 := ea.length
  simp only [Array.length_toList] at l2
  refine ⟨o, arr, ep, es, ho, hc, hd, hm, by omega, by omega, ea, hr, ⟨by simp; omega, fun j k' e => ?_⟩, keys_nodup hk⟩
  rw [List.getElem?_map] at e
  cases q : kvs[j]? with
  | none => rw [q] at e; cases e
  | some p =>
    rw [q] at e; cases e
    obtain ⟨en, x, y, h1, h2, h3, h4, _, _⟩ := ent_at (k := p.1) (d := p.2) hr ea q
    exact ⟨en, by simpa using h1, nk_of I (hk.1 p (List.mem_of_getElem? q)) h4 h3, h2⟩
theorem DtR.ok {K : PySem.W.Frag} {w : World} {a : Addr} {kvs : List (D × D)} (h : DtR K w H a kvs) : DOk kvs := h.choose_spec.2.1
/-- the dict's new content -/
theorem wrote_ok {P : Program} {w : World} {a : Addr} {arr : Array DictEntry} {es : List (Int × V × V)} {h' : Heap} (hw : Wrote s a arr h') {es0 : List (Int × V × V)} (de0 : DE a es0 s.heap) (hm : (a == sysModules) = false) (hz : es.length ≤ sizeLine) (ea : EntsAre es arr.toList) : ObjOk P w H h' a (dh a es) := by
  obtain ⟨o, ep, ho, hc, hd, _⟩ := hw
  obtain ⟨_, _, o0, arr0, ep0, g1, _, g2, _, g3⟩ := de0
  refine ⟨⟨hz, hm, o, arr, ep, ho, hc.1, hd, ea, hc.2 _ _ _ g1 g2 g3⟩, ⟨o, ho⟩, fun h1 h2 de k => ?_⟩
  obtain ⟨z, m, o1, arr1, ep1, e1, e2, e3, e4⟩ := de
  exact ⟨z, m, o1, arr1, ep1, k _ e1, e2, e3, e4⟩
theorem ents_push : ∀ {es : List (Int × V × V)} {ens : List DictEntry} {e : DictEntry} {n : Int} {x y : V}, EntsAre es ens → e.hash = n → RelV x e.key → RelV y e.val → EntsAre (es ++ [(n, x, y)]) (ens ++ [e])
  | _, _, _, _, _, _, .nil, h1, h2, h3 => .cons h1 h2 h3 .nil
  | _, _, _, _, _, _, .cons a b c t, h1, h2, h3 => .cons a b c (ents_push t h1 h2 h3)
theorem ents_set : ∀ {es : List (Int × V × V)} {ens : List DictEntry} {j : Nat} {n : Int} {x y0 y : V} {v : Value}, EntsAre es ens → es[j]? = some (n, x, y0) → RelV y v → EntsAre (es.set j (n, x, y)) (ens.modify j fun e => { e with val := v })
  | _, _, _, _, _, _, _, _, .nil, e, _ => by simp at e
  | _, _, 0, _, _, _, _, _, .cons a b c t, e, r => by
    simp only [List.getElem?_cons_zero, Option.some.injEq, Prod.mk.injEq] at e
    obtain ⟨rfl, rfl, rfl⟩ := e
    exact .cons a b r t
  | _, _, j + 1, _, _, _, _, _, .cons a b c t, e, r => .cons a b c (ents_set (j := j) t (by simpa using e) r)
theorem rpk_push {K : PySem.W.Frag} {w : World} {k d : D} {x y : V} : ∀ {kvs : List (D × D)} {es : List (Int × V × V)}, Rpk K w H kvs es → Rp K w H k x → Rp K w H d y → Rpk K w H (kvs ++ [(k, d)]) (es ++ [((dk k).hash w, x, y)])
  | [], _, h, h1, h2 => by
    rw [Rpk] at h; subst h
    show Rpk K w H [(k, d)] [_]
    rw [Rpk]; exact ⟨x, y, [], rfl, h1, h2, by rw [Rpk]⟩
  | (k', d') :: r, _, h, h1, h2 => by
    rw [Rpk] at h
    obtain ⟨x', y', q, rfl, a, b, c⟩ := h
    show Rpk K w H ((k', d') :: (r ++ [(k, d)])) (_ :: (q ++ [_]))
    rw [Rpk]
    exact ⟨x', y', _, rfl, a, b, rpk_push c h1 h2⟩
theorem rpk_set {K : PySem.W.Frag} {w : World} {k d d0 : D} {y : V} : ∀ {kvs : List (D × D)} {es : List (Int × V × V)} {j : Nat}, Rpk K w H kvs es → kvs[j]? = some (k, d0) → Rp K w H d y →
    ∃ x y0, es[j]? = some ((dk k).hash w, x, y0) ∧ Rpk K w H (kvs.set j (k, d)) (es.set j ((dk k).hash w, x, y))
  | [], _, _, _, e, _ => by simp at e
  | (k', d') :: r, _, 0, h, e, h2 => by
    rw [Rpk] at h
    obtain ⟨x', y', q, rfl, a, b, c⟩ := h
    simp only [List.getElem?_cons_zero, Option.some.injEq, Prod.mk.injEq] at e
    obtain ⟨rfl, rfl⟩ := e
    refine ⟨x', y', rfl, ?_⟩
    show Rpk K w H ((k', d) :: r) (_ :: q)
    rw [Rpk]
    exact ⟨x', y, q, rfl, a, h2, c⟩
  | (k', d') :: r, _, j + 1, h, e, h2 => by
    rw [Rpk] at h
    obtain ⟨x', y', q, rfl, a, b, c⟩ := h
    obtain ⟨x, y0, e1, e2⟩ := rpk_set (j := j) c (by simpa using e) h2
    refine ⟨x, y0, by simpa using e1, ?_⟩
    show Rpk K w H ((k', d') :: (r.set j (k, d))) (_ :: (q.set j _))
    rw [Rpk]
    exact ⟨x', y', _, rfl, a, b, e2⟩
end
end T3
set_option autoImplicit false
namespace T3
open PySem PySem.Spec PyProof.Rows L2

section
variable {X : Cx}
theorem in1_units {A : Around} (hu : A.units + 64 < cLine) : A.in1.units + 8 < cLine := by
  show A.units + 1 + 8 < _
  omega
/-! ### d[k], k in d -/
def rIxDk (K : PySem.W.Frag) (w : World) : R2 := fun x y H Q => ∃ a kvs k d, x = .ref a ∧ DtR K w H a kvs ∧ kfit k = true ∧ Rp K w H k y ∧ dget kvs k = some d ∧ ∀ v, Rp K w H d v → Q v H
theorem dt_typeIs {s : Shared} {a : Addr} {o : Obj} (ho : s.heap.get? a = some o) (hc : o.ExactDict) : s.TypeIs (.ref a) "dict" := ⟨o, ho, hc.1⟩
section
variable {pins : List (Addr × Obj)} {σ : L2.St} {H : Hp} {s : Shared} {a : Addr} {kvs : List (D × D)} {k : D} {y : V} {u : Value}
/-- the entry's value, in the abstract -/
theorem dget_place (hu : X.A.units + 64 < cLine) (I : Inv X pins σ H s) (hD : DtR X.K X.w H a kvs) (hf : kfit k = true) (hk : Rp X.K X.w H k y) (r : RelV y u) {A : Around} (hA : A.units + 8 < cLine) {E : Value → Shared → Prop} {Q : Option Value → Shared → Prop}
    (q0 : dget kvs k = none → ∀ n, Q none { s with toks := n }) (q1 : ∀ d v w, dget kvs k = some d → Rp X.K X.w H d v → RelV v w → ∀ n, Q (some w) { s with toks := n }) : wpAny (model X.prog X.w) A (dictGet a u) Q E s := by
  obtain ⟨o, arr, ep, es, ho, hc, hd, hm, hz, hz2, ea, er, ka, kn⟩ := dict_at I hD
  refine get_nk hA (nk_of I hf hk r) ho hd ka kn (fun h => q0 (dget_none (key_none h))) fun j e hj he => ?_
  obtain ⟨d, hj2⟩ := key_place hD.ok hf hj
  obtain ⟨e2, x, v, h1, _, _, _, h5, h6⟩ := ent_at (X := X) er ea hj2
  rw [Array.getElem?_toList, he] at h1
  cases h1
  exact q1 d v _ (dget_at hD.ok.2 hj2) h6 h5
end
theorem ix_dk (hu : X.A.units + 64 < cLine) : IxR X (rIxDk X.K X.w) := by
  intro value slice pins s σ H x y v u Q I rx ry h hs
  obtain ⟨a, kvs, k, d, rfl, hD, hf, hk, hg, q⟩ := h
  cases rx
  obtain ⟨o, arr, ep, es, ho, hc, hd, hm, hz, hz2, ea, er, ka, kn⟩ := dict_at I hD
  have ty := dt_typeIs ho hc
  refine tail_any ty slot_dict_getitem.lookup ?_ hs
  unfold getItem
  try with_reducible refine wpAny_holding ?_
  refine wpAny_bind (wpAny_sequenceKey ty (by decide) ?_)
  refine wpAny_bind (wpAny_callSpecial?_slot (name := Str.ofString "__getitem__") ty slot_dict_getitem (wpAny_call_entry slot_dict_getitem ty entry_dict_getitem ?_ (args_dict_getitem _ _)))
  show wpAny _ _ (dictGet a u >>= _) _ _ s
  refine wpAny_bind (dget_place hu I hD hf hk ry (in1_units hu) (fun h => ?_) fun d' v w h1 h2 h3 n => ?_)
  · rw [h] at hg; cases hg
  · rw [hg] at h1; cases h1
    exact wpAny_pure ⟨w, rfl, wpAny_pure ⟨v, H, I.tok _, h3, q v h2⟩⟩
def rInDk (K : PySem.W.Frag) (w : World) (g : Bool → Bool) : R2 := fun x y H Q => ∃ a kvs k, y = .ref a ∧ DtR K w H a kvs ∧ kfit k = true ∧ Rp K w H k x ∧ Q (.bl (g (dget kvs k).isSome)) H
theorem has_dk (hu : X.A.units + 64 < cLine) {pins : List (Addr × Obj)} {σ : L2.St} {H : Hp} {s : Shared} {a : Addr} {kvs : List (D × D)} {k : D} {x : V} {v : Value} {Q : Bool → Shared → Prop} (I : Inv X pins σ H s) (hD : DtR X.K X.w H a kvs) (hf : kfit k = true) (hk : Rp X.K X.w H k x) (r : RelV x v)
    (q : ∀ n, Q (dget kvs k).isSome { s with toks := n }) : wpAny (model X.prog X.w) X.A (contains (.ref a) v) Q X.xe s := by
  obtain ⟨o, arr, ep, es, ho, hc, hd, hm, hz, hz2, ea, er, ka, kn⟩ := dict_at I hD
  have ty := dt_typeIs ho hc
  refine wpAny_contains_slot ty PySem.F.slot_dict_contains ?_
  refine call_meetsIn PySem.F.slot_dict_contains ty PySem.F.entry_dict_contains (PySem.F.args_dict_contains_2 _ _) (S := fun A' R s' => A' = X.A ∧ s' = s ∧ ∀ n, R (.ok (.ret (.bool (dget kvs k).isSome))) { s with toks := n }) (fun A' R s' hS => ?_) ⟨rfl, rfl, fun n => wpAny_truthy_bool (q n)⟩
  obtain ⟨rfl, rfl, hq⟩ := hS
  show wpAny _ _ (dictGet a v >>= _) _ _ _
  refine wpAny_bind (dget_place hu I hD hf hk r (in1_units hu) (fun h n => ?_) fun d' v' w h1 h2 h3 n => ?_)
  · rw [h] at hq
    show wpAny _ _ (Builtin.Dict.pendingKey? a v >>= _) _ _ _
    exact wpAny_bind (wpAny_pendingKey_other hm (wpAny_pure (hq n)))
  · rw [h1] at hq
    show wpAny _ _ (ret (.bool true)) _ _ _
    exact wpAny_pure (hq n)
theorem op_in_dk (hu : X.A.units + 64 < cLine) : OpR X (compareOp .In) (rInDk X.K X.w id) := by
  intro pins s σ H x y v u Q I rx ry h
  obtain ⟨a, kvs, k, rfl, hD, hf, hk, q⟩ := h
  cases ry
  show wpAny _ _ (do return Value.bool (← contains (.ref a) v)) _ _ s
  exact wpAny_bind (has_dk hu I hD hf hk rx fun n => wpAny_pure ⟨.bl (id (dget kvs k).isSome), H, I.tok _, rfl, q⟩)
theorem op_notIn_dk (hu : X.A.units + 64 < cLine) : OpR X (compareOp .NotIn) (rInDk X.K X.w not) := by
  intro pins s σ H x y v u Q I rx ry h
  obtain ⟨a, kvs, k, rfl, hD, hf, hk, q⟩ := h
  cases ry
  show wpAny _ _ (do return Value.bool (!(← contains (.ref a) v))) _ _ s
  exact wpAny_bind (has_dk hu I hD hf hk rx fun n => wpAny_pure ⟨.bl (not (dget kvs k).isSome), H, I.tok _, rfl, q⟩)
/-- d.get(k), d.get(k, other) -/
def rGetDk (K : PySem.W.Frag) (w : World) : V → List V → Hp → VK → Prop := fun x xs H Q => ∃ a kvs k y d0 y0, x = .ref a ∧ (xs = [y, y0] ∨ (xs = [y] ∧ y0 = .non)) ∧ DtR K w H a kvs ∧ kfit k = true ∧ Rp K w H k y ∧ Rp K w H d0 y0 ∧ ∀ v, Rp K w H ((dget kvs k).getD d0) v → Q v H
theorem mt_get_dk (hu : X.A.units + 64 < cLine) : MtR X "dict.get" (rGetDk X.K X.w) := by
  intro pins s σ H x xs v us Q I rx rxs h
  obtain ⟨a, kvs, k, y, d0, y0, rfl, hxs, hD, hf, hk, h0, q⟩ := h
  cases rx
  obtain ⟨o, arr, ep, es, ho, hc, hd, hm, hz, hz2, ea, er, ka, kn⟩ := dict_at I hD
  have ty := dt_typeIs ho hc
  rcases hxs with rfl | ⟨rfl, rfl⟩
  · cases rxs with | cons r1 r2 =>
    cases r2 with | cons r2 r3 =>
    cases r3
    rename_i u u0
    refine call_meetsIn PySem.F.slot_dict_get ty PySem.F.entry_dict_get (PySem.F.args_dict_get_3 _ _ _) (S := fun A' R s' => A' = X.A ∧ s' = s ∧ ∀ n v w, Rp X.K X.w H ((dget kvs k).getD d0) v → RelV v w → R (.ok (.ret w)) { s with toks := n }) (fun A' R s' hS => ?_) ⟨rfl, rfl, fun n v w hv hw => ⟨v, H, I.tok _, hw, q v hv⟩⟩
    obtain ⟨rfl, rfl, hq⟩ := hS
    show wpAny _ _ (dictGet a u >>= _) _ _ _
    refine wpAny_bind (dget_place hu I hD hf hk r1 (in1_units hu) (fun h n => ?_) fun d' v' w h1 h2 h3 n => ?_)
    · rw [h] at hq
      show wpAny _ _ (Builtin.Dict.missed a u >>= _) _ _ _
      exact wpAny_bind (wpAny_missed_other hm (wpAny_pure (hq n _ _ h0 r2)))
    · rw [h1] at hq
      exact wpAny_pure (hq n _ _ h2 h3)
  · cases rxs with | cons r1 r2 =>
    cases r2
    rename_i u
    refine call_meetsIn PySem.F.slot_dict_get ty PySem.F.entry_dict_get (PySem.F.args_dict_get_2 _ _) (S := fun A' R s' => A' = X.A ∧ s' = s ∧ ∀ n v w, Rp X.K X.w H ((dget kvs k).getD d0) v → RelV v w → R (.ok (.ret w)) { s with toks := n }) (fun A' R s' hS => ?_) ⟨rfl, rfl, fun n v w hv hw => ⟨v, H, I.tok _, hw, q v hv⟩⟩
    obtain ⟨rfl, rfl, hq⟩ := hS
    show wpAny _ _ (dictGet a u >>= _) _ _ _
    refine wpAny_bind (dget_place hu I hD hf hk r1 (in1_units hu) (fun h n => ?_) fun d' v' w h1 h2 h3 n => ?_)
    · rw [h] at hq
      show wpAny _ _ (Builtin.Dict.missed a u >>= _) _ _ _
      exact wpAny_bind (wpAny_missed_other hm (wpAny_pure (hq n _ _ h0 rfl)))
    · rw [h1] at hq
      exact wpAny_pure (hq n _ _ h2 h3)

/-! ### d[k] = v, d.setdefault(k, v) -/
section
variable {pins : List (Addr × Obj)} {σ : L2.St} {H : Hp} {s : Shared} {a : Addr} {kvs : List (D × D)} {es : List (Int × V × V)} {k d : D} {y z : V} {u v : Value} {h' : Heap} {n : Nat}
/-- behind a store of a new key -/
theorem put_new (I : Inv X pins σ H s) (hH : H a = some (dh a es)) (hok : DOk kvs) (er : Rpk X.K X.w H kvs es) {arr : Array DictEntry} (ea : EntsAre es arr.toList) (hm : (a == sysModules) = false) (hz : arr.size < sizeLine) (hf : kfit k = true) (hk : Rp X.K X.w H k y) (rk : RelV y u) (hv : Rp X.K X.w H d z) (rv : RelV z v)
    (hw : Wrote s a (arr.push ⟨(dk k).hash X.w, u, v⟩) h') (hn : k ∉ kvs.map (·.1)) : ∃ es', Inv X pins σ (upd H a (dh a es')) { s with heap := h', toks := n } ∧ RpO X.K X.w (upd H a (dh a es')) a (.dct (dput kvs k d)) := by
  have l := ea.length
  simp only [Array.length_toList] at l
  refine ⟨es ++ [((dk k).hash X.w, y, z)], ?_, ?_⟩
  · refine I.write (x := a) (e := a) (by rw [hH]; exact True.intro) (.inl rfl) (fun b o hb e => (hw.choose_spec.choose_spec.2.2.2.2 b hb).trans e) ⟨_, hw.choose_spec.choose_spec.1⟩ ?_
    refine wrote_ok hw (show ObjOk X.prog X.w H s.heap a (.ext (DE a es)) from I.hok a _ hH).1 hm (by rw [List.length_append, List.length_cons, List.length_nil]; omega) ?_
    rw [Array.toList_push]
    exact ents_push ea rfl rk rv
  · have pe := pers_upd (u := dh a (es ++ [((dk k).hash X.w, y, z)])) hH chg_dh
    refine ⟨_, upd_same, hok.put hf, ?_⟩
    rw [dput_new hn]
    exact rpk_push (er.pers pe) (hk.pers pe) (hv.pers pe)
/-- behind a store at a key that is there -/
theorem put_old (I : Inv X pins σ H s) (hH : H a = some (dh a es)) (hok : DOk kvs) (er : Rpk X.K X.w H kvs es) {arr : Array DictEntry} (ea : EntsAre es arr.toList) (hm : (a == sysModules) = false) (hz : arr.size ≤ sizeLine) (hv : Rp X.K X.w H d z) (rv : RelV z v) (hf : kfit k = true) {j : Nat} {d0 : D}
    (hw : Wrote s a (arr.modify j fun e => { e with val := v }) h') (hj : kvs[j]? = some (k, d0)) : ∃ es', Inv X pins σ (upd H a (dh a es')) { s with heap := h', toks := n } ∧ RpO X.K X.w (upd H a (dh a es')) a (.dct (dput kvs k d)) := by
  have l := ea.length
  simp only [Array.length_toList] at l
  obtain ⟨x, y0, e1, _⟩ := rpk_set er hj hv
  refine ⟨es.set j ((dk k).hash X.w, x, z), ?_, ?_⟩
  · refine I.write (x := a) (e := a) (by rw [hH]; exact True.intro) (.inl rfl) (fun b o hb e => (hw.choose_spec.choose_spec.2.2.2.2 b hb).trans e) ⟨_, hw.choose_spec.choose_spec.1⟩ ?_
    refine wrote_ok hw (show ObjOk X.prog X.w H s.heap a (.ext (DE a es)) from I.hok a _ hH).1 hm (by rw [List.length_set]; omega) ?_
    rw [Array.toList_modify]
    exact ents_set ea e1 rv
  · have pe := pers_upd (u := dh a (es.set j ((dk k).hash X.w, x, z))) hH chg_dh
    refine ⟨_, upd_same, hok.put hf, ?_⟩
    rw [dput_old hok.2 hj]
    obtain ⟨x', y0', e1', r'⟩ := rpk_set (er.pers pe) hj (hv.pers pe)
    rw [e1] at e1'; cases e1'
    exact r'
end
/-- what a store asks: o = the dict at a -/
def rSetDk (K : PySem.W.Frag) (w : World) : TSet := fun o i v H Q => ∃ a kvs k d, o = .ref a ∧ RpO K w H a (.dct kvs) ∧ kvs.length < sizeLine ∧ kfit k = true ∧ Rp K w H k i ∧ Rp K w H d v ∧ ∀ u', RpO K w (upd H a u') a (.dct (dput kvs k d)) → Q (upd H a u')
theorem set_dk (hu : X.A.units + 64 < cLine) : PSet X (rSetDk X.K X.w) := by
  intro pins s σ H ov iv vv o i v Q I ro ri rv h
  obtain ⟨a, kvs, k, d, rfl, ⟨es, hH, hok, er0⟩, hl, hf, hk, hv, q⟩ := h
  cases ro
  obtain ⟨o, arr, ep, es2, ho, hc, hd, hm, hz, hz2, ea, er, ka, kn⟩ := dict_at I (a := a) (kvs := kvs) ⟨es, .inl hH, hok, er0⟩
  have ty := dt_typeIs ho hc
  have de : DE a es s.heap := (show ObjOk X.prog X.w H s.heap a (.ext (DE a es)) from I.hok a _ hH).1
  obtain ⟨_, _, o', arr', ep', ho', _, hd', ea', _⟩ := de
  rw [ho] at ho'; cases ho'
  rw [hd] at hd'; cases hd'
  unfold setItem
  try with_reducible refine wpAny_holding ?_
  refine wpAny_bind (wpAny_sequenceKey ty (by decide) ?_)
  refine wpAny_bind (wpAny_callSpecial?_slot (name := Str.ofString "__setitem__") ty slot_dict_setitem (wpAny_call_entry slot_dict_setitem ty entry_dict_setitem ?_ (args_dict_setitem _ _ _)))
  show wpAny _ _ (Builtin.Dict.notOrdered "__setitem__" ⟨[.ref a, i, v], []⟩ >>= _) _ _ s
  refine wpAny_bind (wpAny_notOrdered_dict ty ?_)
  show wpAny _ _ (dictSet a i v >>= _) _ _ s
  refine wpAny_bind (set_nk (in1_units hu) (nk_of I hf hk ri) ho hc hd ka kn hz2 (fun h h' n hw => ?_) fun j hj h' n hw => ?_)
  · obtain ⟨es', I', r'⟩ := put_new (n := n) I hH hok er0 ea' hm (by omega) hf hk ri hv rv hw (key_none h)
    exact wpAny_pure ⟨.none, rfl, wpAny_pure ⟨_, I', q _ r'⟩⟩
  · obtain ⟨d0, hj2⟩ := key_place hok hf hj
    obtain ⟨es', I', r'⟩ := put_old (n := n) I hH hok er0 ea' hm hz2 hv rv hf hw hj2
    exact wpAny_pure ⟨.none, rfl, wpAny_pure ⟨_, I', q _ r'⟩⟩
end
end T3
set_option autoImplicit false
namespace T3
open PySem PySem.Spec PyProof.Rows L2

/-! ### dicts, read by expressions -/
section
variable {K : PySem.W.Frag} {w : World} {C : Ct} {z : S3} {A : AH} {σ : L2.St} {H : Hp} {d : D} {v : V}
theorem RpB.dict (r : Rel K w C A H) (s : Slots K w C z A σ H) (h : RpB K w z σ H d v) {kvs : List (D × D)} (e : vw A d = .dct kvs) : ∃ a, v = .ref a ∧ DtR K w H a kvs := by
  rcases h with h | ⟨i, f, hi, o, rfl, hs⟩
  · cases d with
    | dct xs =>
      cases e
      rw [Rp] at h
      obtain ⟨a, es, rfl, ⟨o, q⟩, k, rr⟩ := h
      exact ⟨a, rfl, es, .inr ⟨o, q⟩, k, rr⟩
    | ref a =>
      rw [Rp] at h
      subst h
      cases q : A a with
      | none => simp [vw, q] at e
      | some ob =>
        cases ob with
        | dct xs =>
          simp only [vw, q, D.dct.injEq] at e
          subst e
          obtain ⟨es, h1, h2, h3⟩ := r.heap a _ q
          exact ⟨a, rfl, es, .inl h1, h2, h3⟩
        | lst kvs => simp [vw, q] at e
        | ins C fs => simp [vw, q] at e
    | _ => simp [vw] at e
  · obtain ⟨x, h1, h2⟩ := s.val i f hi
    rw [hs] at h1; cases h1
    cases f with
    | md xs =>
      cases e
      obtain ⟨a, rfl, es, h3, h4, h5⟩ := h2
      exact ⟨a, rfl, es, .inl h3, h4, h5⟩
    | ml kvs => simp [frz, vw] at e
    | _ => simp [own] at o
/-- a key is data -/
theorem RpB.key (h : RpB K w z σ H d v) (o : kfit d = true) : Rp K w H d v := by
  rcases h with h | ⟨i, f, hi, oo, rfl, hs⟩
  · exact h
  · cases f <;> simp [own] at oo <;> simp [frz, kfit, kok] at o
/-- what is no object of a slot is data -/
theorem RpB.data (h : RpB K w z σ H d v) (o : ∀ (i : Nat) (e : D), z[i]? = some (some e) → own e = true → d ≠ frz e) : Rp K w H d v := by
  rcases h with h | ⟨i, f, hi, oo, rfl, hs⟩
  · exact h
  · exact absurd rfl (o i f hi oo)
end
/-- d[k] of a row or a dict -/
def fIxA (A : AH) (a b : D) : Option D := match vw A a with
  | .dct kvs => if kfit b = true then dget kvs b else none
  | _ => fIx A a b
def fInA (g : Bool → Bool) (A : AH) (a b : D) : Option D := match vw A b with
  | .dct kvs => if kfit a = true then some (.bl (g (dget kvs a).isSome)) else none
  | _ => fInB g A a b
section
variable {X : Cx} {C : Ct}
abbrev rIxA (X : Cx) : R2 := fun x y H Q => rIx X.K x y H Q ∨ rIxDk X.K X.w x y H Q
theorem ix_all (hu : X.A.units + 64 < cLine) : IxR X (rIxA X) := ix_seq.or (ix_dk hu)
theorem o_ixA : Op2 X C (rIxA X) fIxA := fun z A σ H d1 d2 d x y Q r s h1 h2 e q => by
  unfold fIxA at e
  split at e
  · rename_i kvs e1
    split at e
    · rename_i hk
      obtain ⟨a, rfl, hD⟩ := h1.dict r s e1
      exact .inr ⟨a, kvs, d2, d, rfl, hD, hk, h2.key hk, e, fun v hv => q v H (.same hv)⟩
    · cases e
  · exact .inl (o_ix z A σ H d1 d2 d x y Q r s h1 h2 e q)
abbrev rInA (X : Cx) (g : Bool → Bool) : R2 := fun x y H Q => rInAll X.K g x y H Q ∨ rInDk X.K X.w g x y H Q
theorem op_inA (hu : X.A.units + 64 < cLine) : OpR X (compareOp .In) (rInA X id) := (op_inAll hu).or (op_in_dk hu)
theorem op_notInA (hu : X.A.units + 64 < cLine) : OpR X (compareOp .NotIn) (rInA X not) := (op_notInAll hu).or (op_notIn_dk hu)
theorem o_inA (g : Bool → Bool) : Op2 X C (rInA X g) (fInA g) := fun z A σ H d1 d2 d x y Q r s h1 h2 e q => by
  unfold fInA at e
  split at e
  · rename_i kvs e1
    split at e
    · rename_i hk
      cases e
      obtain ⟨a, rfl, hD⟩ := h2.dict r s e1
      exact .inr ⟨a, kvs, d1, rfl, hD, hk, h1.key hk, q _ H (.same (by rw [Rp]))⟩
    · cases e
  · exact .inl (o_inAll g z A σ H d1 d2 d x y Q r s h1 h2 e q)
/-- d.get(k[, other]) -/
def okDct (A : AH) (d : D) : Bool := match vw A d with
  | .dct _ => true | _ => false
def fGet (A : AH) (d : D) (xs : List D) : Option D := match vw A d, xs with
  | .dct kvs, [k] => if kfit k = true then some ((dget kvs k).getD .non) else none
  | .dct kvs, [k, d0] => if kfit k = true then some ((dget kvs k).getD d0) else none
  | _, _ => none
theorem tyOk_dict {a : Addr} {kvs : List (D × D)} {H : Hp} (h : DtR X.K X.w H a kvs) : TyOk X "dict" (.ref a) H := fun pins σ s v I r => by
  cases r
  obtain ⟨o, arr, ep, es, ho, hc, _⟩ := dict_at I h
  refine ⟨dt_typeIs ho hc, fun b e => ?_⟩
  cases e
  exact ⟨o, ho, hc.2.1⟩
/-- .. with arguments let go -/
structure MtF (X : Cx) (C : Ct) (T : String) (r : V → List V → Hp → VK → Prop) (ok : AH → D → Bool) (f : AH → D → List D → Option D) : Prop where
  ty : ∀ (z : S3) (A : AH) (σ : L2.St) (H : Hp) (d : D) (x : V), Rel X.K X.w C A H → Slots X.K X.w C z A σ H → RpB X.K X.w z σ H d x → ok A d = true → TyOk X T x H
  act : ∀ (z : S3) (A : AH) (σ : L2.St) (H : Hp) (d0 : D) (ds : List D) (d : D) (x : V) (xs : List V) (Q : VK), Rel X.K X.w C A H → Slots X.K X.w C z A σ H →
    RpB X.K X.w z σ H d0 x → Rps X.K X.w H ds xs → f A d0 ds = some d → (∀ v H', Gv X.K X.w H H' d v → Q v H') → r x xs H Q
theorem low_mF {T : String} {r : V → List V → Hp → VK → Prop} {ok : AH → D → Bool} {f : AH → D → List D → Option D} {to : TE3} {ta : TA3} (h : MtF X C T r ok f) {σ : L2.St} {H : Hp} {Q : VK} (hq : low X.K X.w C (eM ok f to ta) σ H Q) : tBW X T r (lowB X.K X.w C to) (lowA X.K X.w C ta) σ H Q := by
  obtain ⟨z, A, Q3, r0, s, q, g⟩ := hq
  refine ⟨z, A, _, r0, s, q, fun d0 A1 v1 H1 q1 r1 s1 p1 t1 => ⟨h.ty z A1 σ H1 d0 v1 r1 s1 t1 q1.1, z, A1, _, r1, s1, q1.2, fun ds A2 vs H2 q2 r2 s2 p2 t2 => ?_⟩⟩
  obtain ⟨d, hd, q3⟩ := q2
  exact h.act z A2 σ H2 d0 ds d v1 vs Q r2 s2 (t1.later p2) t2 hd fun v H' gv => low.gv r2 s2 g (p1.trans p2) q3 gv
theorem pe3_mF {T : String} {r : V → List V → Hp → VK → Prop} {name : Str} {id : String} {o e : Expr} {es : List Expr} {apos cpos : Pos} {ok : AH → D → Bool} {f : AH → D → List D → Option D} {to : TE3} {ta : TA3} (pa : PlainAttrs T) (slot : Slot T name id) (hty : typeOf (.builtin id) = pure (.type "method_descriptor")) (hm : MtR X id r) (h : MtF X C T r ok f) (ho : PB3 X C o to) (ha : PA3 X C (e :: es) ta)
    (hbase : attributeBase o name X.env (eval o X.env) = eval o X.env := by rfl)
    (hfew : ((backTo cpos (starEach (e :: es) X.env)).all (fun x => !x.1) && (backToKw cpos (keywordEach [] X.env)).all (fun x => x.1.isSome)
      && decide ((e :: es).length + ([] : List Keyword).length + (if ([] : List Keyword).isEmpty then 0 else 1) < 30)) = true := by rfl)
    (hline : (apos.endLine == cpos.line) = true := by rfl) (hs : starEach (e :: es) X.env = (false, eval e X.env) :: starEach es X.env := by rfl) (hplain : (backTo cpos (starEach es X.env)).any (·.1) = false := by rfl) :
    PE3 X C (.Call (.Attribute o name apos) (e :: es) [] cpos) (eM ok f to ta) :=
  PE.imp (pe_bw pa slot hty hm ho ha hbase hfew hline hs hplain) fun σ H Q hq => low_mF h hq
theorem m_get : MtF X C "dict" (rGetDk X.K X.w) okDct fGet where
  ty := fun z A σ H d x r s h o => by
    unfold okDct at o
    split at o
    · rename_i kvs e
      obtain ⟨a, rfl, hD⟩ := h.dict r s e
      exact tyOk_dict hD
    · cases o
  act := fun z A σ H d0 ds d x xs Q r s h0 hs e q => by
    unfold fGet at e
    split at e
    · rename_i kvs k e1
      split at e
      · rename_i hk
        cases e
        obtain ⟨a, rfl, hD⟩ := h0.dict r s e1
        rw [Rps] at hs
        obtain ⟨y, t, rfl, hy, ht⟩ := hs
        rw [Rps] at ht; subst ht
        exact ⟨a, kvs, k, y, .non, .non, rfl, .inr ⟨rfl, rfl⟩, hD, hk, hy, by rw [Rp], fun v hv => q v H (.same hv)⟩
      · cases e
    · rename_i kvs k d1 e1
      split at e
      · rename_i hk
        cases e
        obtain ⟨a, rfl, hD⟩ := h0.dict r s e1
        rw [Rps] at hs
        obtain ⟨y, t, rfl, hy, ht⟩ := hs
        rw [Rps] at ht
        obtain ⟨u, t2, rfl, hu, ht2⟩ := ht
        rw [Rps] at ht2; subst ht2
        exact ⟨a, kvs, k, y, d1, u, rfl, .inl rfl, hD, hk, hy, hu, fun v hv => q v H (.same hv)⟩
      · cases e
    · cases e
/-- d[k] = v -/
def gDSet : Ob → D → D → Option Ob
  | .dct kvs, k, d => if kfit k = true ∧ kvs.length < sizeLine then some (.dct (dput kvs k d)) else none
  | _, _, _ => none
theorem s_dset : SetC X (rSetDk X.K X.w) gDSet := fun H a ob ob' k v x y Q h hk hv e q => by
  unfold gDSet at e
  split at e
  · split at e
    · rename_i hc
      cases e
      exact ⟨a, _, _, _, rfl, h, hc.2, hc.1, hk, hv, q⟩
    · cases e
  · cases e
/-- {} -/
def eDNew : TE3 := fun _ A Q => Q (.md []) A
theorem pe3_dnew {pos : Pos} : PE3 X C (.Dict [] [] pos) eDNew := PE.imp (t := fun σ H Q => ∀ p, H p = none → Q (.ref p) (upd H p (dh p []))) ⟨fun pins s σ H Q I h => by
  refine wpAny_Dict_empty ⟨.ref s.heap.objs.size, _, I.laid (a := s.heap.objs.size) (o := dh s.heap.objs.size []) (t' := s.toks) (fun _ _ q => Heap.get?_push_of_some _ q) (Nat.le_refl _) ?_, rfl, h _ (I.hok.fresh (Nat.le_refl _))⟩
  have e : (s.heap.push { cls := .type "dict", data := .dict #[] }).get? s.heap.objs.size = some { cls := .type "dict", data := .dict #[] } := Heap.get?_push_size _ rfl
  exact ⟨⟨Nat.zero_le _, beq_eq_false_iff_ne.mpr (Ne.symm (Nat.ne_of_lt I.big)), _, #[], 0, e, ⟨rfl, rfl, rfl⟩, rfl, .nil, rfl⟩, ⟨_, e⟩, fun h1 h2 de k => by
    obtain ⟨z, m, o1, arr1, ep1, e1, e2, e3, e4⟩ := de
    exact ⟨z, m, o1, arr1, ep1, k _ e1, e2, e3, e4⟩⟩⟩ fun σ H Q hq => by
  obtain ⟨z, A, Q3, r, s, q, f⟩ := hq
  intro p hp
  exact low.gv r s f (.refl H) q ⟨ext_upd hp, .inr ⟨p, .dct [], hp, rfl, rfl, [], upd_same, ⟨(fun _ h => nomatch h), by simp⟩, by rw [Rpk]⟩⟩
end
end T3
set_option autoImplicit false
namespace T3
open PySem PySem.Spec PyProof.Rows L2

/-! ### sorted -/
def tupNE : D → Bool
  | .tup (_ :: _) => true | _ => false
def plainD : D → Bool
  | .non => false | .tup _ => false | _ => true
/-- rows that may be sorted -/
def okSort (ds : List D) : Bool := poks ds && ds.all (fun a => ds.all fun b => PySem.W.alike (pd a) (pd b)) && (ds.all tupNE || ds.all plainD) && ds.all (fun d => decide (dep d ≤ 50)) && decide (ds.length ≤ sizeLine)
/-- the sorted row -/
def sortD (ds : List D) : List D := ds.mergeSort (PySem.W.dataLe false pd)
theorem poks_mem : ∀ {ds : List D}, poks ds = true → ∀ d ∈ ds, pok d = true
  | [], _, _, hd => by cases hd
  | x :: xs, h, d, hd => by
    simp only [poks, Bool.and_eq_true] at h
    rcases List.mem_cons.mp hd with rfl | hd
    · exact h.1
    · exact poks_mem h.2 d hd
theorem okSort_of {ds : List D} (h : okSort ds = true) : poks ds = true ∧ PySem.W.AllAlike (ds.map pd) ∧ PySem.W.Sortable (ds.map pd) ∧ (∀ d ∈ ds, (pd d).depth ≤ 50) ∧ ds.length ≤ sizeLine := by
  simp only [okSort, Bool.and_eq_true, Bool.or_eq_true, decide_eq_true_eq, List.all_eq_true] at h
  obtain ⟨⟨⟨⟨h1, h2⟩, h3⟩, h4⟩, h5⟩ := h
  refine ⟨h1, fun d hd d' hd' => ?_, ?_, fun d hd => by rw [pd_depth]; exact h4 d hd, h5⟩
  · obtain ⟨a, ha, rfl⟩ := List.mem_map.mp hd
    obtain ⟨b, hb, rfl⟩ := List.mem_map.mp hd'
    exact h2 a ha b hb
  · rcases h3 with h | h
    · refine .inl fun d hd => ?_
      obtain ⟨a, ha, rfl⟩ := List.mem_map.mp hd
      have := h a ha
      cases a with
      | tup xs => cases xs with
        | nil => simp [tupNE] at this
        | cons y r => exact ⟨pd y, pds r, by rw [pd, pds]⟩
      | _ => simp [tupNE] at this
    · refine .inr fun d hd => ?_
      obtain ⟨a, ha, rfl⟩ := List.mem_map.mp hd
      have := h a ha
      have hp := poks_mem h1 a ha
      cases a <;> simp [plainD] at this <;> simp [pok] at hp <;> simp [pd]
section
variable {X : Cx} {pins : List (Addr × Obj)} {σ : L2.St} {H : Hp} {s : Shared}
/-- a value that stands for a datum -/
def Stands (K : PySem.W.Frag) (w : World) (H : Hp) (u : Value) (d : D) : Prop := ∃ x, RelV x u ∧ Rp K w H d x
theorem stands_of {K : PySem.W.Frag} {w : World} : ∀ {us : List Value} {zs : List V} {ds : List D}, Vals zs us → Rps K w H ds zs → PySem.W.EachIs (Stands K w H) us ds
  | _, _, [], .nil, _ => .nil
  | _, _, [], .cons _ _, h => by rw [Rps] at h; cases h
  | _, _, d :: ds, .nil, h => by rw [Rps] at h; obtain ⟨_, _, e, _⟩ := h; cases e
  | _, _, d :: ds, .cons a b, h => by
    rw [Rps] at h
    obtain ⟨x, r, e, h1, h2⟩ := h
    cases e
    exact .cons ⟨_, a, h1⟩ (stands_of b h2)
theorem of_stands {K : PySem.W.Frag} {w : World} : ∀ {us : List Value} {ds : List D}, PySem.W.EachIs (Stands K w H) us ds → ∃ zs, Vals zs us ∧ Rps K w H ds zs
  | _, _, .nil => ⟨[], .nil, Rps.nil⟩
  | _, _, .cons h t => by
    obtain ⟨x, a, b⟩ := h
    obtain ⟨zs, h1, h2⟩ := of_stands t
    exact ⟨_ :: zs, .cons a h1, Rps.cons b h2⟩
theorem reads_of (I : Inv X pins σ H s) {h' : Heap} (k : ∀ b o, s.heap.get? b = some o → h'.get? b = some o) : ∀ {us : List Value} {ds : List D}, poks ds = true → PySem.W.EachIs (Stands X.K X.w H) us ds → PySem.W.EachIs (fun v d => ∃ as, Reads h' v (pd d) as) us ds
  | _, _, _, .nil => .nil
  | _, _, hp, .cons h t => by
    obtain ⟨x, a, b⟩ := h
    simp only [poks, Bool.and_eq_true] at hp
    obtain ⟨as, r⟩ := Dp.reads I _ x _ (Rp.dp hp.1 b) a
    exact .cons ⟨as, PyProof.Rows.Reads.keeps k r⟩ (reads_of I k hp.2 t)
/-- list.sort on a new list of values: then it is the sorted row -/
theorem sort_new (I : Inv X pins σ H s) {A : Around} {E : Value → Shared → Prop} {Q : Value → Shared → Prop} (hu : A.units + 55 < cLine) {us : List Value} {ds : List D} (hs : PySem.W.EachIs (Stands X.K X.w H) us ds) (ok : okSort ds = true)
    (q : ∀ ys h2, Rps X.K X.w H (sortD ds) ys → Inv X pins σ (upd H s.heap.objs.size (.lst ys)) { s with heap := h2 } → Q .none { s with heap := h2 }) :
    wpAny (model X.prog X.w) A (call (.builtin "list.sort") [.ref s.heap.objs.size]) Q E { s with heap := s.heap.push { cls := .type "list", data := .seq us.toArray } } := by
  obtain ⟨hp, hal, hk, hd, hl⟩ := okSort_of ok
  have lus : us.length = ds.length := hs.length
  have ho : (s.heap.push { cls := .type "list", data := .seq us.toArray }).get? s.heap.objs.size = some (seqObj "list" us.toArray 0) := Heap.get?_push_size _ rfl
  have kp : ∀ b o, s.heap.get? b = some o → (PySem.W.sortingHeap (s.heap.push { cls := .type "list", data := .seq us.toArray }) s.heap.objs.size us).get? b = some o := fun b o e =>
    PySem.W.sortingHeap_old (Nat.ne_of_lt (Heap.lt_size e)) (Heap.get?_push_of_some _ e)
  have er := reads_of I kp hp hs
  refine wpAny_call_entry slot_list_sort ⟨_, ho, rfl⟩ entry_list_sort (PySem.W.list_sort_vals (s := { s with heap := s.heap.push { cls := .type "list", data := .seq us.toArray } }) (κ := PySem.W.dataKind (PySem.W.sortingHeap (s.heap.push { cls := .type "list", data := .seq us.toArray }) s.heap.objs.size us) (ds.map pd)) ho
    (PySem.W.SortsAt.data (s := { s with heap := PySem.W.sortingHeap (s.heap.push { cls := .type "list", data := .seq us.toArray }) s.heap.objs.size us }) (PySem.W.each_map (R := fun v d => ∃ as, Reads (PySem.W.sortingHeap (s.heap.push { cls := .type "list", data := .seq us.toArray }) s.heap.objs.size us) v d as) pd er) hal hk (PySem.W.bound_map fun b hb => ?_)) (by omega) ⟨.none, rfl, ?_⟩) (args_list_sort _)
  · have := hd b hb
    show A.units + 1 + _ < _
    omega
  · have es := PySem.W.sortVals_data false hs er hal
    obtain ⟨ys, r1, r2⟩ := of_stands es
    obtain ⟨ep, he⟩ := sortedHeap_at (vs := us) (out := (PySem.W.sortVals (PySem.W.dataKind (PySem.W.sortingHeap (s.heap.push { cls := .type "list", data := .seq us.toArray }) s.heap.objs.size us) (ds.map pd)) false us us).toArray) ho
    have ly : ys.length = ds.length := by rw [r2.length]; show (ds.mergeSort _).length = _; simp
    refine q ys _ r2 (I.laid (t' := s.toks) (fun b u e => ?_) (Nat.le_refl _) ⟨by omega, _, ep, r1, he⟩)
    rw [sortedHeap_old (Nat.ne_of_lt (Heap.lt_size e)) (by rw [Heap.size_push]; exact Nat.lt_succ_of_lt (Heap.lt_size e))]
    exact Heap.get?_push_of_some _ e
/-- sorted(x), once the items are in a row -/
theorem sorted_of {v : Value} {ds : List D} {Q : VK} (hu : X.A.units + 64 < cLine) (ok : okSort ds = true)
    (hc : ∀ (R : List Value → Shared → Prop) (E : Value → Shared → Prop), (∀ us s1, Inv X pins σ H s1 → PySem.W.EachIs (Stands X.K X.w H) us ds → R us s1) → wpAny (model X.prog X.w) X.A.in1 (collect v) R E s)
    (q : ∀ p ys, H p = none → Rps X.K X.w H (sortD ds) ys → Q (.ref p) (upd H p (.lst ys))) : wpAny (model X.prog X.w) X.A (call (.builtin "sorted") [v]) (EP X pins σ Q) X.xe s := by
  refine Calls.call_function_entry PyProof.Rows.kind_sorted PyProof.Rows.plain_sorted PyProof.Rows.entry_sorted (PyProof.Rows.args_sorted1 _) ?_
  unfold Builtin.«sorted»
  refine wpAny_bind (m := checkCount "sorted" 1 1 _) (wpAny_pure ?_)
  refine wpAny_bind (hc _ _ fun us s1 I1 hs => ?_)
  have hl := (okSort_of ok).2.2.2.2
  refine wpAny_bind (wpAny_newList ?_ (by have := hs.length; omega))
  refine wpAny_bind (wpAny_holding (wpAny_mono (sort_new (A := X.A.in1) (E := X.xe) (Q := fun _ s' => ∃ w, EP X pins σ Q w s' ∧ w = .ref s1.heap.objs.size) I1 (by show X.A.units + 1 + 55 < _; omega) hs ok fun ys h2 r I2 => ?_) (fun _ s' x => ?_) fun _ _ e => ?_))
  · exact ⟨_, ⟨.ref s1.heap.objs.size, _, I2, rfl, q _ ys I1.fresh r⟩, rfl⟩
  · obtain ⟨w, x, rfl⟩ := x
    exact wpAny_pure ⟨_, rfl, x⟩
  · exact e
end
end T3
set_option autoImplicit false
namespace T3
open PySem PySem.Spec PyProof.Rows L2

/-! ### what may be put in a row: lists, tuples, a dict's keys -/
def rowOf (A : AH) (d : D) : Option (List D) := match vw A d with
  | .lst xs => some xs
  | .tup xs => some xs
  | .dct kvs => some (kvs.map (·.1))
  | _ => none
def Row (K : PySem.W.Frag) (w : World) (H : Hp) (v : V) (ds : List D) : Prop := ∃ a, v = .ref a ∧ ((∃ zs, (SqL K H a zs ∨ SqT K H a zs) ∧ Rps K w H ds zs) ∨ ∃ kvs, DtR K w H a kvs ∧ ds = kvs.map (·.1))
theorem RpB.row {K : PySem.W.Frag} {w : World} {C : Ct} {z : S3} {A : AH} {σ : L2.St} {H : Hp} {d : D} {v : V} {ds : List D} (r : Rel K w C A H) (s : Slots K w C z A σ H) (h : RpB K w z σ H d v) (e : rowOf A d = some ds) : Row K w H v ds := by
  unfold rowOf at e
  split at e
  · rename_i xs e1
    cases e
    obtain ⟨a, zs, rfl, h1, h2⟩ := h.list r s e1
    exact ⟨a, rfl, .inl ⟨zs, .inl h1, h2⟩⟩
  · rename_i xs e1
    cases e
    obtain ⟨a, zs, rfl, h1, h2⟩ := h.tup (A := A) e1
    exact ⟨a, rfl, .inl ⟨zs, .inr h1.sqt, h2⟩⟩
  · rename_i kvs e1
    cases e
    obtain ⟨a, rfl, hD⟩ := h.dict r s e1
    exact ⟨a, rfl, .inr ⟨kvs, hD, rfl⟩⟩
  · cases e
section
variable {X : Cx} {pins : List (Addr × Obj)} {σ : L2.St} {H : Hp} {s : Shared} {a : Addr} {kvs : List (D × D)}
theorem each_at {R : Value → D → Prop} : ∀ {us : List Value} {ds : List D}, us.length = ds.length → (∀ (j : Nat) (u : Value) (d : D), us[j]? = some u → ds[j]? = some d → R u d) → PySem.W.EachIs R us ds
  | [], [], _, _ => .nil
  | [], _ :: _, h, _ => by simp at h
  | _ :: _, [], h, _ => by simp at h
  | u :: us, d :: ds, h, f => .cons (f 0 u d rfl rfl) (each_at (by simpa using h) fun j u' d' h1 h2 => f (j + 1) u' d' (by simpa using h1) (by simpa using h2))
/-- a dict's keys, read off -/
theorem keys_stand {arr : Array DictEntry} {es : List (Int × V × V)} (ea : EntsAre es arr.toList) (er : Rpk X.K X.w H kvs es) (hz : arr.size = kvs.length) {us : List Value} (hl : us.length = arr.size) (hp : ∀ (j : Nat) (u : Value), us[j]? = some u → ∃ hi : j < arr.size, u = arr[j].key) : PySem.W.EachIs (Stands X.K X.w H) us (kvs.map (·.1)) := by
  refine each_at (by rw [List.length_map]; omega) fun j u d h1 h2 => ?_
  rw [List.getElem?_map] at h2
  cases q : kvs[j]? with
  | none => rw [q] at h2; cases h2
  | some p =>
    rw [q] at h2; cases h2
    obtain ⟨hi, rfl⟩ := hp j u h1
    obtain ⟨e, x, y, e1, _, e3, e4, _, _⟩ := ent_at (X := X) (k := p.1) (d := p.2) er ea q
    rw [Array.getElem?_toList, Array.getElem?_eq_getElem hi] at e1
    cases e1
    exact ⟨x, e3, e4⟩
/-- the row of x, by the machine's own walk -/
theorem collect_row (hc : X.calm = true) (I : Inv X pins σ H s) {v : V} {u : Value} {ds : List D} (h : Row X.K X.w H v ds) (r : RelV v u) (R : List Value → Shared → Prop) (E : Value → Shared → Prop)
    (q : ∀ us s1, Inv X pins σ H s1 → PySem.W.EachIs (Stands X.K X.w H) us ds → R us s1) : wpAny (model X.prog X.w) X.A.in1 (collect u) R E s := by
  obtain ⟨a, rfl, h⟩ := h
  cases r
  rcases h with ⟨zs, h | h, hr⟩ | ⟨kvs, hD, rfl⟩
  · obtain ⟨its, rv, ⟨o, n, e, c, dd, sd⟩, hz⟩ := I.list h
    refine wpAny_collect_seq a (.inl rfl) e c sd (fun h' k => q _ _ (I.kept (t' := s.toks) k) ?_) (by rw [List.size_toArray, ← rv.length]; exact hz)
    exact stands_of (by simpa using rv) hr
  · obtain ⟨its, rv, ⟨o, e, c, n, sd⟩, hz⟩ := I.tuple h
    refine wpAny_collect_seq a (.inr rfl) e c sd (fun h' k => q _ _ (I.kept (t' := s.toks) k) ?_) (by rw [List.size_toArray, ← rv.length]; exact hz)
    exact stands_of (by simpa using rv) hr
  · obtain ⟨o, arr, ep, es, ho, hcx, hd, hm, hz, hz2, ea, er, ka, kn⟩ := dict_at I hD
    refine PySem.W.kdu_collect (A := X.A.in1) (KdlSrc.rawDict (es := arr) (ep := ep) hm) (I.ok.hd hc) ⟨o, ho, hcx, hd⟩ hz2 fun h' tk acc k ha => ?_
    refine q _ _ (I.kept k) (keys_stand ea er hz (by rw [Array.length_toList]; exact ha.1) fun j u hj => ha.2 j u (by rw [← Array.getElem?_toList]; exact hj))
end
def rSortA (X : Cx) : List V → Hp → VK → Prop := fun xs H Q => ∃ v ds, xs = [v] ∧ Row X.K X.w H v ds ∧ okSort ds = true ∧ ∀ p ys, H p = none → Rps X.K X.w H (sortD ds) ys → Q (.ref p) (upd H p (.lst ys))
def fSorted (A : AH) : List D → Option D
  | [d] => (rowOf A d).bind fun ds => if okSort ds = true then some (.ml (sortD ds)) else none
  | _ => none
section
variable {X : Cx} {C : Ct}
theorem call_sortedA (hc : X.calm = true) (hu : X.A.units + 64 < cLine) : CallR X (.builtin "sorted") (rSortA X) := by
  intro pins s σ H xs us Q I r h
  obtain ⟨v, ds, rfl, hR, ok, q⟩ := h
  obtain ⟨u, rfl, ru⟩ := vals1 r
  exact sorted_of hu ok (fun R E k => collect_row hc I hR ru R E k) q
theorem o_sorted : OpN X C (rSortA X) fSorted := fun z A σ H ds d xs Q r s h e q => by
  unfold fSorted at e
  split at e
  · obtain ⟨v, rfl, hb⟩ := h.one
    rename_i d0
    cases hr : rowOf A d0 with
    | none => rw [hr] at e; cases e
    | some row =>
      rw [hr] at e
      simp only [Option.bind_some] at e
      split at e
      · rename_i ok
        cases e
        exact ⟨v, row, rfl, hb.row r s hr, ok, fun p ys hp hy => q _ _ (.lst hp hy)⟩
      · cases e
  · cases e
/-- list(x) -/
def rListA (X : Cx) : List V → Hp → VK → Prop := fun xs H Q => (∃ p ys, xs = [.ref p] ∧ (SqL X.K H p ys ∨ SqT X.K H p ys) ∧ ∀ l, H l = none → Q (.ref l) (upd H l (.lst ys))) ∨
  ∃ a kvs, xs = [.ref a] ∧ DtR X.K X.w H a kvs ∧ ∀ l ys, H l = none → Rps X.K X.w H (kvs.map (·.1)) ys → Q (.ref l) (upd H l (.lst ys))
/-- a new list of what was walked -/
theorem list_new {pins : List (Addr × Obj)} {σ : L2.St} {H : Hp} {s : Shared} {h' : Heap} {tk : Nat} {acc : Array Value} {c : Nat} {ds : List D} {Q : VK} (I : Inv X pins σ H s) (k : ∀ b o, s.heap.get? b = some o → h'.get? b = some o) (e : h'.get? s.heap.objs.size = some { cls := .type "list", dict := none, data := .seq acc c, slots := #[] })
    (hs : PySem.W.EachIs (Stands X.K X.w H) acc.toList ds) (hl : ds.length ≤ sizeLine) (q : ∀ l ys, H l = none → Rps X.K X.w H ds ys → Q (.ref l) (upd H l (.lst ys))) : EP X pins σ Q (.ref s.heap.objs.size) { s with heap := h', toks := tk } := by
  obtain ⟨ys, r1, r2⟩ := of_stands hs
  exact ⟨.ref s.heap.objs.size, _, I.laid (t' := tk) (o := .lst ys) k (Nat.le_refl _) ⟨by rw [r2.length]; exact hl, _, c, r1, by simpa using e⟩, rfl, q _ ys I.fresh r2⟩
theorem call_listA (hc : X.calm = true) : CallR X (.type "list") (rListA X) := by
  intro pins s σ H xs us Q I r h
  rcases h with h | ⟨a, kvs, rfl, hD, q⟩
  · exact call_list_of pins s σ H xs us Q I r h
  · obtain ⟨u, rfl, ru⟩ := vals1 r
    cases ru
    obtain ⟨o, arr, ep, es, ho, hcx, hd, hm, hz, hz2, ea, er, ka, kn⟩ := dict_at I hD
    refine PySem.W.kdl_call (KdlSrc.rawDict (es := arr) (ep := ep) hm) (I.ok.hd hc) ⟨o, ho, hcx, hd⟩ hz2 fun h' tk acc c k e ha => ?_
    exact list_new I k e (keys_stand ea er hz (by rw [Array.length_toList]; exact ha.1) fun j u hj => ha.2 j u (by rw [← Array.getElem?_toList]; exact hj)) (by rw [List.length_map]; omega) q
def fListA (A : AH) : List D → Option D
  | [d] => (rowOf A d).map .ml
  | _ => none
theorem o_listA : OpN X C (rListA X) fListA := fun z A σ H ds d xs Q r s h e q => by
  unfold fListA at e
  split at e
  · obtain ⟨v, rfl, hb⟩ := h.one
    rename_i d0
    cases hr : rowOf A d0 with
    | none => rw [hr] at e; cases e
    | some row =>
      rw [hr] at e; cases e
      obtain ⟨a, rfl, hx⟩ := hb.row r s hr
      rcases hx with ⟨zs, h1, h2⟩ | ⟨kvs, hD, rfl⟩
      · exact .inl ⟨a, zs, rfl, h1, fun l hl => q _ _ (.lst hl h2)⟩
      · exact .inr ⟨a, kvs, rfl, hD, fun l ys hl hy => q _ _ (.lst hl hy)⟩
  · cases e
end
end T3
set_option autoImplicit false
namespace T3
open PySem PySem.Spec PyProof.Rows L2

/-! ### dict(pairs) -/
def pairsOf : List D → Option (List (D × D))
  | [] => some []
  | .tup [k, d] :: r => if kfit k = true then (pairsOf r).map ((k, d) :: ·) else none
  | _ :: _ => none
def mkD (ps : List (D × D)) : List (D × D) := ps.foldl (fun acc p => dput acc p.1 p.2) []
theorem mkD_take {ps : List (D × D)} {i : Nat} {k d : D} (h : ps[i]? = some (k, d)) : mkD (ps.take (i + 1)) = dput (mkD (ps.take i)) k d := by
  unfold mkD
  rw [List.take_add_one, h, List.foldl_append]
  rfl
theorem mkD_ok : ∀ {ps acc : List (D × D)}, (∀ p ∈ ps, kfit p.1 = true) → DOk acc → DOk (ps.foldl (fun acc p => dput acc p.1 p.2) acc)
  | [], _, _, h => h
  | (k, d) :: r, acc, hp, h => mkD_ok (ps := r) (fun p hp' => hp p (List.mem_cons_of_mem _ hp')) (h.put (hp (k, d) List.mem_cons_self))
theorem mkD_length : ∀ {ps acc : List (D × D)}, (ps.foldl (fun acc p => dput acc p.1 p.2) acc).length ≤ acc.length + ps.length
  | [], _ => by simp
  | (k, d) :: r, acc => by
    have h1 := mkD_length (ps := r) (acc := dput acc k d)
    have h2 := dput_length (kvs := acc) (k := k) (d := d)
    simp only [List.foldl_cons, List.length_cons]
    omega
theorem DOk.nil : DOk [] := ⟨fun _ h => (nomatch h), by simp⟩
theorem pairsOf_fit : ∀ {ds : List D} {ps : List (D × D)}, pairsOf ds = some ps → ∀ p ∈ ps, kfit p.1 = true
  | [], _, h, p, hp => by cases h; cases hp
  | .tup [k, d] :: r, ps, h, p, hp => by
    rw [pairsOf] at h
    split at h
    · rename_i hk
      cases q : pairsOf r with
      | none => rw [q] at h; cases h
      | some qs =>
        rw [q] at h; cases h
        rcases List.mem_cons.mp hp with rfl | hp
        · exact hk
        · exact pairsOf_fit q p hp
    · cases h
  | .tup [] :: _, _, h, _, _ => by simp [pairsOf] at h
  | .tup [_] :: _, _, h, _, _ => by simp [pairsOf] at h
  | .tup (_ :: _ :: _ :: _) :: _, _, h, _, _ => by simp [pairsOf] at h
  | .non :: _, _, h, _, _ => by simp [pairsOf] at h
  | .bl _ :: _, _, h, _, _ => by simp [pairsOf] at h
  | .int _ :: _, _, h, _, _ => by simp [pairsOf] at h
  | .str _ :: _, _, h, _, _ => by simp [pairsOf] at h
  | .lst _ :: _, _, h, _, _ => by simp [pairsOf] at h
  | .dct _ :: _, _, h, _, _ => by simp [pairsOf] at h
  | .ref _ :: _, _, h, _, _ => by simp [pairsOf] at h
  | .ml _ :: _, _, h, _, _ => by simp [pairsOf] at h
  | .md _ :: _, _, h, _, _ => by simp [pairsOf] at h
theorem pairsOf_eq : ∀ {ds : List D} {ps : List (D × D)}, pairsOf ds = some ps → ds = ps.map fun p => .tup [p.1, p.2]
  | [], _, h => by cases h; rfl
  | .tup [k, d] :: r, ps, h => by
    rw [pairsOf] at h
    split at h
    · cases q : pairsOf r with
      | none => rw [q] at h; cases h
      | some qs => rw [q] at h; cases h; rw [pairsOf_eq q]; rfl
    · cases h
  | .tup [] :: _, _, h => by simp [pairsOf] at h
  | .tup [_] :: _, _, h => by simp [pairsOf] at h
  | .tup (_ :: _ :: _ :: _) :: _, _, h => by simp [pairsOf] at h
  | .non :: _, _, h => by simp [pairsOf] at h
  | .bl _ :: _, _, h => by simp [pairsOf] at h
  | .int _ :: _, _, h => by simp [pairsOf] at h
  | .str _ :: _, _, h => by simp [pairsOf] at h
  | .lst _ :: _, _, h => by simp [pairsOf] at h
  | .dct _ :: _, _, h => by simp [pairsOf] at h
  | .ref _ :: _, _, h => by simp [pairsOf] at h
  | .ml _ :: _, _, h => by simp [pairsOf] at h
  | .md _ :: _, _, h => by simp [pairsOf] at h
section
variable {X : Cx} {pins : List (Addr × Obj)} {σ : L2.St} {H : Hp} {s : Shared}
/-- the pair at place j of the row, in the heap -/
theorem pair_at (I : Inv X pins σ H s) {zs : List V} {us : List Value} {ps : List (D × D)} (hr : Rps X.K X.w H (ps.map fun p => .tup [p.1, p.2]) zs) (rv : Vals zs us) {j : Nat} {k d : D} (e : ps[j]? = some (k, d)) :
    ∃ T x y u v, us[j]? = some (.ref T) ∧ PairAt s.heap T u v ∧ RelV x u ∧ Rp X.K X.w H k x ∧ RelV y v ∧ Rp X.K X.w H d y := by
  obtain ⟨z, hz, rz⟩ := hr.get (i := j) (d := .tup [k, d]) (by rw [List.getElem?_map, e]; rfl)
  obtain ⟨w, hw, rw'⟩ := rv.get hz
  rw [Rp] at rz
  obtain ⟨a, xs, rfl, hs, hr2⟩ := rz
  cases rw'
  rw [Rps] at hr2
  obtain ⟨x, q, rfl, h1, h2⟩ := hr2
  rw [Rps] at h2
  obtain ⟨y, q2, rfl, h3, h4⟩ := h2
  rw [Rps] at h4; subst h4
  obtain ⟨its, r2, ⟨o, e1, e2, n, e3⟩, _⟩ := I.tuple hs.sqt
  cases r2 with | cons ra rb =>
  cases rb with | cons rb rc =>
  cases rc
  exact ⟨a, x, y, _, _, hw, .inl ⟨o, e1, e2, n, e3⟩, ra, h1, rb, h3⟩
theorem keysAre_of (I : Inv X pins σ H s) {kvs : List (D × D)} {es : List (Int × V × V)} {arr : Array DictEntry} {h : Heap} (k : ∀ b o, s.heap.get? b = some o → h.get? b = some o) (hk : DOk kvs) (er : Rpk X.K X.w H kvs es) (ea : EntsAre es arr.toList) : KeysAre X.w h (kvs.map fun p => dk p.1) arr := by
  have l1 := rpk_length er
  have l2 := ea.length
  simp only [Array.length_toList] at l2
  refine ⟨by simp; omega, fun j k' e => ?_⟩
  rw [List.getElem?_map] at e
  cases q : kvs[j]? with
  | none => rw [q] at e; cases e
  | some p =>
    rw [q] at e; cases e
    obtain ⟨en, x, y, h1, h2, h3, h4, _, _⟩ := ent_at (X := X) (k := p.1) (d := p.2) er ea q
    have nn := nk_of I (hk.1 p (List.mem_of_getElem? q)) h4 h3
    exact ⟨en, by simpa using h1, ⟨NestedIs.at (fun a o vs n e _ => k a o e) _ _ nn.1, nn.2⟩, h2⟩
end
def refOf : Option Value → Addr
  | some (.ref T) => T | _ => 0
/-- a row with nothing hanging beside its items -/
def SqP (K : PySem.W.Frag) (H : Hp) (a : Addr) (xs : List V) : Prop := SqL K H a xs ∨ SqS K H a xs
def rDictA (X : Cx) : List V → Hp → VK → Prop := fun xs H Q => ∃ a zs ps, xs = [.ref a] ∧ SqP X.K H a zs ∧ Rps X.K X.w H (ps.map fun p => .tup [p.1, p.2]) zs ∧ (∀ p ∈ ps, kfit p.1 = true) ∧ ∀ p es, H p = none → Rpk X.K X.w H (mkD ps) es → Q (.ref p) (upd H p (dh p es))
section
variable {X : Cx} {C : Ct}
theorem SqP.plain {pins : List (Addr × Obj)} {σ : L2.St} {H : Hp} {s : Shared} {a : Addr} {xs : List V} (I : Inv X pins σ H s) (h : SqP X.K H a xs) : ∃ (T : String) (its : List Value), (T = "list" ∨ T = "tuple") ∧ Vals xs its ∧ PlainSeq T s.heap a its.toArray ∧ xs.length ≤ sizeLine := by
  rcases h with h | h
  · obtain ⟨its, rv, ⟨o, n, e, c, dd, sd⟩, hz⟩ := I.list h
    exact ⟨"list", its, .inl rfl, rv, ⟨o, n, e, c, dd, sd⟩, hz⟩
  · obtain ⟨its, rv, ⟨o, e, c, n, sd⟩, hz⟩ := I.tuple h.sqt
    refine ⟨"tuple", its, .inr rfl, rv, ⟨o, n, e, c, ?_, sd⟩, hz⟩
    rcases h with ⟨o', h, hd⟩ | ⟨o', its', n', h1, _, hd, _⟩
    · have := (I.hok a _ h).1
      rw [e] at this; cases this
      exact hd
    · have := I.kIn a o' h1
      rw [e] at this; cases this
      exact hd
theorem call_dictA (hc : X.calm = true) (hu : X.A.units + 64 < cLine) : CallR X (.type "dict") (rDictA X) := by
  intro pins s σ H xs us Q I r h
  obtain ⟨a, zs, ps, rfl, hS, hr, hf, q⟩ := h
  obtain ⟨u, rfl, ru⟩ := vals1 r
  cases ru
  obtain ⟨T, its, hT, rv, pl, hz⟩ := hS.plain I
  have hl : its.length = ps.length := by rw [← rv.length, hr.length, List.length_map]
  have hlz : ps.length ≤ sizeLine := by rw [hr.length, List.length_map] at hz; exact hz
  -- the pairs' values
  obtain ⟨pv, lv, hv⟩ : ∃ pv : List (Value × Value), pv.length = ps.length ∧ ∀ (j : Nat) (u v : Value), pv[j]? = some (u, v) → ∃ (T : Addr) (x y : V) (k d : D), its[j]? = some (Value.ref T) ∧ PairAt s.heap T u v ∧ ps[j]? = some (k, d) ∧ RelV x u ∧ Rp X.K X.w H k x ∧ RelV y v ∧ Rp X.K X.w H d y := by
    have each : ∀ j : Fin ps.length, ∃ p : Value × Value, ∃ (T : Addr) (x y : V), its[j.1]? = some (Value.ref T) ∧ PairAt s.heap T p.1 p.2 ∧ RelV x p.1 ∧ Rp X.K X.w H ps[j].1 x ∧ RelV y p.2 ∧ Rp X.K X.w H ps[j].2 y := fun j => by
      obtain ⟨T, x, y, u, v, h1, h2, h3, h4, h5, h6⟩ := pair_at I hr rv (j := j.1) (k := ps[j].1) (d := ps[j].2) (List.getElem?_eq_getElem j.2)
      exact ⟨(u, v), T, x, y, h1, h2, h3, h4, h5, h6⟩
    refine ⟨List.ofFn fun j => (each j).choose, by simp, fun j u v e => ?_⟩
    have hj : j < ps.length := by have := (List.getElem?_eq_some_iff.mp e).1; simpa using this
    have e2 : (each ⟨j, hj⟩).choose = (u, v) := by
      rw [List.getElem?_eq_getElem (by simpa using hj), List.getElem_ofFn] at e
      exact Option.some.inj e
    obtain ⟨T, x, y, h1, h2, h3, h4, h5, h6⟩ := (each ⟨j, hj⟩).choose_spec
    rw [e2] at h2 h3 h5
    exact ⟨T, x, y, _, _, h1, h2, List.getElem?_eq_getElem hj, h3, h4, h5, h6⟩
  have items : PairItems s.heap its.toArray (fun j => refOf its[j]?) pv := by
    refine ⟨by rw [List.size_toArray]; omega, fun j u v e => ?_⟩
    obtain ⟨T, x, y, k, d, h1, h2, _⟩ := hv j u v e
    have er : refOf its[j]? = T := by rw [h1]; rfl
    rw [List.getElem?_toArray, h1]
    show some (Value.ref T) = some (Value.ref (refOf its[j]?)) ∧ PairAt s.heap (refOf its[j]?) u v
    rw [er]
    exact ⟨rfl, h2⟩
  have P : PairArg X.prog X.w T a (a :: (List.range pv.length).map fun j => refOf its[j]?) [] pv.length (PairRel pv) (fun h => PlainSeq T h a its.toArray ∧ PairItems h its.toArray (fun j => refOf its[j]?) pv) := by
    rcases hT with rfl | rfl
    · exact PairArg.list a _ _ pv
    · exact PairArg.tuple a _ _ pv
  refine call_dict_arg P ⟨pl, items⟩ fun s₁ hs₁ hdf ok₁ => ?_
  subst hs₁
  have lt : ∀ b o, s.heap.get? b = some o → b ≠ s.heap.objs.size := fun b o e => Nat.ne_of_lt (Heap.lt_size e)
  refine updateFrom_arg (A := X.A.in1) (Tab := fun i h => (∃ o arr ep es, h.get? s.heap.objs.size = some o ∧ o.ExactDict ∧ o.data = .dict arr ep ∧ EntsAre es arr.toList ∧ Rpk X.K X.w H (mkD (ps.take i)) es ∧ ep = arr.size) ∧ ∀ b o, s.heap.get? b = some o → h.get? b = some o) P .none (I.ok.hd hc) ok₁ hdf
    ⟨⟨_, #[], 0, [], Heap.get?_push_size _ rfl, ⟨rfl, rfl, rfl⟩, rfl, .nil, by show Rpk X.K X.w H (mkD []) []; rw [mkD, List.foldl_nil, Rpk], rfl⟩, fun b o e => Heap.get?_push_of_some _ e⟩ (fun i h tb => by obtain ⟨⟨o, _, _, _, ho, _⟩, _⟩ := tb; exact Heap.lt_size ho) ?_ ?_ ?_
  · rintro i h h' wr' hd hw ⟨⟨o, arr, ep, es, ho, t⟩, k⟩ hk
    refine ⟨⟨o, arr, ep, es, hk _ o hd ho, t⟩, fun b o e => hk b o (fun hm => ?_) (k b o e)⟩
    rcases hw b hm with z | z
    · cases z
    · rw [show (s.heap.push { cls := .type "dict", data := .dict #[] }).get? b = some o from Heap.get?_push_of_some _ e] at z
      cases z
  · rintro i u v s' Q' E' hi hrel ⟨⟨o, arr, ep, es, ho, hcx, hd, ea, er, hep⟩, k⟩ _ hQ
    obtain ⟨T', x, y, kd, vd, _, _, e, h3, h4, h5, h6⟩ := hv i u v hrel
    have hkf : kfit kd = true := hf (kd, vd) (List.mem_of_getElem? e)
    have dok : DOk (mkD (ps.take i)) := mkD_ok (fun p hp => hf p (List.mem_of_mem_take hp)) .nil
    have nn := nk_of I hkf h4 h3
    have nn' : Nk s'.heap (dk kd) u := ⟨NestedIs.at (fun a o vs n e _ => k a o e) _ _ nn.1, nn.2⟩
    have ka := keysAre_of I k dok er ea
    have l2 := ea.length
    have l1 := rpk_length er
    simp only [Array.length_toList] at l2
    have lm := mkD_length (ps := ps.take i) (acc := [])
    have lm' : (mkD (ps.take i)).length ≤ i := by
      rw [List.length_take] at lm
      simp only [List.length_nil] at lm
      have : (mkD (ps.take i)).length ≤ 0 + min i ps.length := lm
      omega
    have hi' : i < ps.length := by rw [← lv]; exact hi
    refine set_nk (s := s') (by show X.A.units + 1 + 1 + 8 < _; omega) nn' ho hcx hd ka (keys_nodup dok) (by omega) (fun hn h' n hw => ?_) fun j hj h' n hw => ?_
    · refine hQ h' n ⟨?_, fun b o e => (hw.choose_spec.choose_spec.2.2.2.2 b (lt b o e)).trans (k b o e)⟩ hw.choose_spec.choose_spec.2.2.2
      obtain ⟨o', ep', w1, w2, w3, _⟩ := hw
      refine ⟨o', _, ep', es ++ [((dk kd).hash X.w, x, y)], w1, w2.1, w3, ?_, ?_, w2.2 _ _ _ ho hd hep⟩
      · rw [Array.toList_push]
        exact ents_push ea rfl h3 h5
      · rw [mkD_take e, dput_new (key_none hn)]
        exact rpk_push er h4 h6
    · refine hQ h' n ⟨?_, fun b o e => (hw.choose_spec.choose_spec.2.2.2.2 b (lt b o e)).trans (k b o e)⟩ hw.choose_spec.choose_spec.2.2.2
      obtain ⟨d0, hj2⟩ := key_place dok hkf hj
      obtain ⟨x', y0, e1, r2⟩ := rpk_set er hj2 h6
      obtain ⟨o', ep', w1, w2, w3, _⟩ := hw
      refine ⟨o', _, ep', es.set j ((dk kd).hash X.w, x', y), w1, w2.1, w3, ?_, ?_, w2.2 _ _ _ ho hd hep⟩
      · rw [Array.toList_modify]
        exact ents_set ea e1 h5
      · rw [mkD_take e, dput_old dok.2 hj2]
        exact r2
  · rintro h' tk ⟨⟨o, arr, ep, es, ho, hcx, hd, ea, er, hep⟩, k⟩ hk
    rw [show ps.take pv.length = ps from List.take_of_length_le (by omega)] at er
    have lm := mkD_length (ps := ps) (acc := [])
    have l1 := rpk_length er
    have lm' : es.length ≤ sizeLine := by
      simp only [List.length_nil] at lm
      have : (mkD ps).length ≤ 0 + ps.length := lm
      omega
    refine ⟨rfl, .ref s.heap.objs.size, _, I.laid (t' := tk) (o := dh s.heap.objs.size es) k (Nat.le_refl _) ?_, rfl, q _ es I.fresh er⟩
    refine ⟨⟨lm', beq_eq_false_iff_ne.mpr (Ne.symm (Nat.ne_of_lt I.big)), o, arr, ep, ho, hcx, hd, ea, hep⟩, ⟨o, ho⟩, fun h1 h2 de k => ?_⟩
    obtain ⟨z, m, o1, arr1, ep1, e1, e2, e3, e4⟩ := de
    exact ⟨z, m, o1, arr1, ep1, k _ e1, e2, e3, e4⟩
def fDict (A : AH) : List D → Option D
  | [d] => match vw A d with
    | .lst xs => (pairsOf xs).map fun ps => .md (mkD ps)
    | .tup xs => (pairsOf xs).map fun ps => .md (mkD ps)
    | _ => none
  | _ => none
theorem o_dict : OpN X C (rDictA X) fDict := fun z A σ H ds d xs Q r s h e q => by
  have gv : ∀ {ps : List (D × D)} {p : Addr} {es : List (Int × V × V)}, (∀ p ∈ ps, kfit p.1 = true) → H p = none → Rpk X.K X.w H (mkD ps) es → Gv X.K X.w H (upd H p (dh p es)) (.md (mkD ps)) (.ref p) := fun {ps p es} hf hp er =>
    ⟨ext_upd hp, .inr ⟨p, .dct (mkD ps), hp, rfl, rfl, es, upd_same, mkD_ok hf .nil, er.pers (.of_ext (ext_upd hp))⟩⟩
  unfold fDict at e
  split at e
  · obtain ⟨v, rfl, hb⟩ := h.one
    split at e
    · rename_i xs e1
      cases hp : pairsOf xs with
      | none => rw [hp] at e; cases e
      | some ps =>
        rw [hp] at e; cases e
        obtain ⟨a, vs, rfl, h1, hr⟩ := hb.list r s e1
        rw [pairsOf_eq hp] at hr
        exact ⟨a, vs, ps, rfl, .inl h1, hr, pairsOf_fit hp, fun p es h1 h2 => q _ _ (gv (pairsOf_fit hp) h1 h2)⟩
    · rename_i xs e1
      cases hp : pairsOf xs with
      | none => rw [hp] at e; cases e
      | some ps =>
        rw [hp] at e; cases e
        obtain ⟨a, vs, rfl, h1, hr⟩ := hb.tup (A := A) e1
        rw [pairsOf_eq hp] at hr
        exact ⟨a, vs, ps, rfl, .inr h1, hr, pairsOf_fit hp, fun p es h1 h2 => q _ _ (gv (pairsOf_fit hp) h1 h2)⟩
    · cases e
  · cases e
end
end T3
set_option autoImplicit false
namespace T3
open PySem PySem.Spec PyProof.Rows L2

/-! ### zip, enumerate, reversed -/
def pairD (a b : D) : D := .tup [a, b]
section
variable {K : PySem.W.Frag} {w : World} {H : Hp}
theorem new_tup {H2 : Hp} {T : Addr} {xs : List V} {is : List Nat} {ds : List D} (h : H2 T = none) (r : Rps K w H2 ds xs) : Ext H2 (upd H2 T (.tup xs)) ∧ RpP K w (upd H2 T (.tup xs)) (.tp is) (.tup ds) (.ref T) :=
  ⟨ext_upd h, .inr ⟨T, xs, ds, rfl, rfl, .of upd_same, r.pers (.of_ext (ext_upd h))⟩⟩
theorem Rps.two {a b : D} {x y : V} (h1 : Rp K w H a x) (h2 : Rp K w H b y) : Rps K w H [a, b] [x, y] := .cons h1 (.one h2)
theorem zip_get {xs ys : List D} {i : Nat} {d : D} (h : (List.zipWith pairD xs ys)[i]? = some d) : ∃ a b, xs[i]? = some a ∧ ys[i]? = some b ∧ d = .tup [a, b] := by
  rw [List.getElem?_zipWith] at h
  cases h1 : xs[i]? with
  | none => rw [h1] at h; cases h
  | some a =>
    cases h2 : ys[i]? with
    | none => rw [h1, h2] at h; cases h
    | some b => rw [h1, h2] at h; cases h; exact ⟨a, b, rfl, rfl, rfl⟩
theorem steady_zip {is : List Nat} {ws : Ws} {a b : Addr} {xs ys : List D} (h1 : LW K w ws a xs H) (h2 : LW K w ws b ys H) : Steady K w (.tp is) ws (Itz K a b) (List.zipWith pairD xs ys) H := by
  refine ⟨fun H2 p se => ?_, fun i d H2 p se hi => ?_⟩
  · obtain ⟨vs, q1, r1⟩ := h1 H2 p se
    obtain ⟨us, q2, r2⟩ := h2 H2 p se
    exact ⟨vs, us, q1, q2, by rw [r1.length, r2.length, List.length_zipWith]; omega⟩
  · obtain ⟨x, y, e1, e2, rfl⟩ := zip_get hi
    obtain ⟨vs, q1, r1⟩ := h1 H2 p se
    obtain ⟨us, q2, r2⟩ := h2 H2 p se
    obtain ⟨v, hv, rv⟩ := r1.get e1
    obtain ⟨u, hu, ru⟩ := r2.get e2
    refine ⟨⟨vs, us, v, u, q1, q2, hv, hu⟩, fun x' H3 ⟨T, x1, y1, ex, hT, eH, k1, k2⟩ => ?_⟩
    subst ex eH
    have e1 := k1 vs q1
    have e2 := k2 us q2
    rw [hv] at e1; cases e1
    rw [hu] at e2; cases e2
    exact new_tup hT (.two rv ru)
theorem steady_zipT {is : List Nat} {wss : Ws} {a b : Addr} {xs ys : List D} {vs ws : List V} (h1 : SqS K H a vs) (r1 : Rps K w H xs vs) (h2 : SqS K H b ws) (r2 : Rps K w H ys ws) : Steady K w (.tp is) wss (RZ.ItzT K a b) (List.zipWith pairD xs ys) H := by
  refine ⟨fun H2 p _ => ⟨vs, ws, (h1.pers p).sqt, (h2.pers p).sqt, ?_⟩, fun i d H2 p _ hi => ?_⟩
  · rw [r1.length, r2.length, List.length_zipWith]; omega
  · obtain ⟨x, y, e1, e2, rfl⟩ := zip_get hi
    obtain ⟨v, hv, rv⟩ := (r1.pers p).get e1
    obtain ⟨u, hu, ru⟩ := (r2.pers p).get e2
    refine ⟨⟨vs, ws, v, u, (h1.pers p).sqt, (h2.pers p).sqt, hv, hu⟩, fun x' H3 ⟨T, x1, y1, ex, hT, eH, k1, k2⟩ => ?_⟩
    subst ex eH
    have q1 := k1 vs (h1.pers p).sqt
    have q2 := k2 ws (h2.pers p).sqt
    rw [hv] at q1; cases q1
    rw [hu] at q2; cases q2
    exact new_tup hT (.two rv ru)
def enumD : Nat → List D → List D
  | _, [] => []
  | n, x :: xs => .tup [.int n, x] :: enumD (n + 1) xs
end
/-- a list, its items, what is to be seen to stay -/
def listW (A : AH) : D → Option (List D × Ws)
  | .lst xs => some (xs, [])
  | .ref a => match A a with
    | some (.lst xs) => some (xs, [(a, xs)])
    | _ => none
  | _ => none
theorem listW_ok {K : PySem.W.Frag} {w : World} {C : Ct} {A : AH} {H : Hp} {d : D} {v : V} {xs : List D} {ws ws' : Ws} (r : Rel K w C A H) (h : Rp K w H d v) (e : listW A d = some (xs, ws)) (hs : ∀ q ∈ ws, q ∈ ws') : ∃ a vs, v = .ref a ∧ SqL K H a vs ∧ Rps K w H xs vs ∧ LW K w ws' a xs H := by
  cases d with
  | lst ys =>
    cases e
    rw [Rp] at h
    obtain ⟨a, vs, rfl, q, rr⟩ := h
    exact ⟨a, vs, rfl, q.sql, rr, .frozen q rr⟩
  | ref a =>
    rw [Rp] at h; subst h
    unfold listW at e
    simp only at e
    split at e
    · rename_i ys ea
      cases e
      obtain ⟨vs, h1, h2⟩ := r.heap a _ ea
      exact ⟨a, vs, rfl, .of h1, h2, .held (hs _ (by simp)) h2.nmd⟩
    · cases e
  | _ => cases e
def args1 : List D → (D → Prop) → Prop
  | [a], k => k a
  | _, _ => False
def args2 : List D → (D → D → Prop) → Prop
  | [a, b], k => k a b
  | _, _ => False
theorem args2_ex {ds : List D} {k : D → D → Prop} (h : args2 ds k) : ∃ a b, ds = [a, b] ∧ k a b := by
  match ds, h with
  | [a, b], h => exact ⟨a, b, rfl, h⟩
def zipI (A : AH) (Q : List D → Ws → AH → Prop) : D → D → Prop
  | .tup xs, .tup ys => Q (List.zipWith pairD xs ys) [] A
  | d1, d2 => withItems (listW A d1) fun xs w1 => withItems (listW A d2) fun ys w2 => Q (List.zipWith pairD xs ys) (w1 ++ w2) A
theorem zipI_ex {A : AH} {Q : List D → Ws → AH → Prop} {d1 d2 : D} (h : zipI A Q d1 d2) : (∃ xs ys, d1 = .tup xs ∧ d2 = .tup ys ∧ Q (List.zipWith pairD xs ys) [] A) ∨ withItems (listW A d1) fun xs w1 => withItems (listW A d2) fun ys w2 => Q (List.zipWith pairD xs ys) (w1 ++ w2) A := by
  unfold zipI at h
  split at h
  · exact .inl ⟨_, _, rfl, rfl, h⟩
  · exact .inr h
def iZp (t : TA3) : TI3 := fun z A Q => t z A fun ds A' => args2 ds (zipI A' Q)
def iEn (t : TA3) : TI3 := fun z A Q => t z A fun ds A' => args1 ds fun d => withItems (listW A' d) fun xs ws => Q (enumD 0 xs) ws A'
def iRv (t : TE3) : TI3 := fun z A Q => t z A fun d A' => (∃ xs, frz d = .tup xs ∧ Q xs.reverse [] A') ∨ withItems (listW A' (frz d)) fun xs ws => Q xs.reverse ws A'
section
variable {X : Cx} {C : Ct} {p pos tpos : Pos}
theorem Rps.one' {K : PySem.W.Frag} {w : World} {H : Hp} {d : D} {vs : List V} (h : Rps K w H [d] vs) : ∃ x, vs = [x] ∧ Rp K w H d x := by
  rw [Rps] at h
  obtain ⟨x, q, rfl, h1, h2⟩ := h
  rw [Rps] at h2; subst h2
  exact ⟨x, rfl, h1⟩
theorem Rps.two' {K : PySem.W.Frag} {w : World} {H : Hp} {d e : D} {vs : List V} (h : Rps K w H [d, e] vs) : ∃ x y, vs = [x, y] ∧ Rp K w H d x ∧ Rp K w H e y := by
  rw [Rps] at h
  obtain ⟨x, q, rfl, h1, h2⟩ := h
  obtain ⟨y, rfl, h3⟩ := h2.one'
  exact ⟨x, y, rfl, h1, h3⟩
theorem pi3_zip {is : List Nat} {e e2 : Expr} {elts : List Expr} {kk : Nat} {t : TA3} (hg : Gl X "zip") (hm : X.mg "zip" = none) (ha : PA3 X C [e, e2] t)
    (hs : starEach [e, e2] X.env = (false, eval e X.env) :: starEach [e2] X.env := by rfl) (hpl : (backTo pos (starEach [e2] X.env)).any (·.1) = false := by rfl) :
    PI3 X C (.tp is) (.Tuple elts kk tpos) (.Call (.Name "zip" p) [e, e2] [] pos) (iZp t) := PI.imp (RZ.pi_zipA hg hm ha hs hpl) fun σ H R hq => by
  obtain ⟨z, A, Q3, r, s, q, f⟩ := hq
  refine ⟨z, A, _, r, s, q, fun ds A' vs H' q' r' s' p' t' => ?_⟩
  obtain ⟨d1, d2, rfl, q'⟩ := args2_ex q'
  replace q' := zipI_ex q'
  obtain ⟨x, y, rfl, h1, h3⟩ := t'.two'
  rcases q' with ⟨xs, ys, rfl, rfl, q2⟩ | q2
  · rw [Rp] at h1 h3
    obtain ⟨a, us, rfl, hs1, hr1⟩ := h1
    obtain ⟨b, ws, rfl, hs2, hr2⟩ := h3
    exact ⟨a, b, us, ws, rfl, .inr ⟨hs1.sqt, hs2.sqt, f _ _ A' _ H' q2 r' s' p' (steady_zipT hs1 hr1 hs2 hr2)⟩⟩
  · obtain ⟨r1, e1, q2⟩ := withItems_ex q2
    obtain ⟨r2, e2, q2⟩ := withItems_ex q2
    obtain ⟨a, us, rfl, hs1, hr1, l1⟩ := listW_ok (ws' := r1.2 ++ r2.2) r' h1 e1 fun q hq => List.mem_append_left _ hq
    obtain ⟨b, ws, rfl, hs2, hr2, l2⟩ := listW_ok (ws' := r1.2 ++ r2.2) r' h3 e2 fun q hq => List.mem_append_right _ hq
    exact ⟨a, b, us, ws, rfl, .inl ⟨hs1, hs2, f _ _ A' _ H' q2 r' s' p' (steady_zip l1 l2)⟩⟩
end

/-! ### a promise never asked -/
theorem fnok_never {P : Program} {w : World} {K : PySem.W.Frag} {mg : Str → Option Value} {base : Heap} {k : Nat} {f : Addr} {fd : FuncData} {ps : List Str} {sp : Sp3} (h : ∀ ds A Q E, ¬ sp ds A Q E) : FnOk P w K mg base CX0 k f fd ps (lsp K w sp) :=
  ⟨fun vs H Q E q => (h _ _ _ _ q.choose_spec.choose_spec.choose_spec.2.2.1).elim, fun A outer s H args us vs Q E hr he hb hv q => (h _ _ _ _ q.choose_spec.choose_spec.choose_spec.2.2.1).elim⟩
end T3
set_option autoImplicit false
namespace T3
open PySem PySem.Spec PyProof.Rows L2
section
variable (A : AH)
@[simp] theorem fIxA_lst (a : List D) (i : Int) : fIxA A (.lst a) (.int i) = L2.atI a i := (rfl)
@[simp] theorem fIxA_tup (a : List D) (i : Int) : fIxA A (.tup a) (.int i) = L2.atI a i := (rfl)
@[simp] theorem fIxA_str (a : Str) (i : Int) : fIxA A (.str a) (.int i) = if lim a.length then (L2.atI a.cps.toList i).map fun c => .str ⟨#[c]⟩ else none := (rfl)
@[simp] theorem fIxA_dct (kvs : List (D × D)) (k : D) : fIxA A (.dct kvs) k = if kfit k = true then dget kvs k else none := (rfl)
@[simp] theorem fInA_dct (g : Bool → Bool) (kvs : List (D × D)) (k : D) : fInA g A k (.dct kvs) = if kfit k = true then some (.bl (g (dget kvs k).isSome)) else none := (rfl)
@[simp] theorem fInA_str (g : Bool → Bool) (x y : Str) : fInA g A (.str x) (.str y) = fInB g A (.str x) (.str y) := (rfl)
@[simp] theorem fInA_lst (g : Bool → Bool) (x : D) (y : List D) : fInA g A x (.lst y) = fInB g A x (.lst y) := (rfl)
@[simp] theorem fInA_tup (g : Bool → Bool) (x : D) (y : List D) : fInA g A x (.tup y) = fInB g A x (.tup y) := (rfl)
theorem any_eq_mem {d : D} : ∀ {ys : List D}, nb d = true → nbs ys = true → (ys.any fun y => eqD y d) = decide (d ∈ ys)
  | [], _, _ => by simp
  | y :: ys, h, hs => by
    simp only [nbs, Bool.and_eq_true] at hs
    rw [List.any_cons, eqD_nb hs.1 h, any_eq_mem h hs.2]
    by_cases e : y = d
    · subst e; simp
    · have : ¬ d = y := fun z => e z.symm
      simp [e, this]
theorem fInB_lst (g : Bool → Bool) {d : D} {ys : List D} (hv : vw A d = d) (h : nb d = true) (hs : nbs ys = true) (hd : deps ys ≤ 60) : fInB g A d (.lst ys) = some (.bl (g (decide (d ∈ ys)))) := by
  simp [fInB, fIn, hv, nb_pok d h, nbs_poks ys hs, hd, any_eq_mem h hs]
theorem fInB_tup (g : Bool → Bool) {d : D} {ys : List D} (hv : vw A d = d) (h : nb d = true) (hs : nbs ys = true) (hd : deps ys ≤ 60) : fInB g A d (.tup ys) = some (.bl (g (decide (d ∈ ys)))) := by
  simp [fInB, fIn, hv, nb_pok d h, nbs_poks ys hs, hd, any_eq_mem h hs]
@[simp] theorem okDct_dct (kvs : List (D × D)) : okDct A (.dct kvs) = true := (rfl)
@[simp] theorem fGet2_dct (kvs : List (D × D)) (k d : D) : fGet A (.dct kvs) [k, d] = if kfit k = true then some ((dget kvs k).getD d) else none := (rfl)
@[simp] theorem fGet1_dct (kvs : List (D × D)) (k : D) : fGet A (.dct kvs) [k] = if kfit k = true then some ((dget kvs k).getD .non) else none := (rfl)
@[simp] theorem rowOf_lst (xs : List D) : rowOf A (.lst xs) = some xs := (rfl)
@[simp] theorem rowOf_tup (xs : List D) : rowOf A (.tup xs) = some xs := (rfl)
@[simp] theorem rowOf_dct (kvs : List (D × D)) : rowOf A (.dct kvs) = some (kvs.map (·.1)) := (rfl)
@[simp] theorem fSorted_lst (xs : List D) : fSorted A [.lst xs] = if okSort xs = true then some (.ml (sortD xs)) else none := (rfl)
@[simp] theorem fSorted_tup (xs : List D) : fSorted A [.tup xs] = if okSort xs = true then some (.ml (sortD xs)) else none := (rfl)
@[simp] theorem fSorted_dct (kvs : List (D × D)) : fSorted A [.dct kvs] = if okSort (kvs.map (·.1)) = true then some (.ml (sortD (kvs.map (·.1)))) else none := (rfl)
@[simp] theorem fListA_lst (xs : List D) : fListA A [.lst xs] = some (.ml xs) := (rfl)
@[simp] theorem fListA_tup (xs : List D) : fListA A [.tup xs] = some (.ml xs) := (rfl)
@[simp] theorem fListA_dct (kvs : List (D × D)) : fListA A [.dct kvs] = some (.ml (kvs.map (·.1))) := (rfl)
@[simp] theorem fDict_lst (xs : List D) : fDict A [.lst xs] = (pairsOf xs).map fun ps => .md (mkD ps) := (rfl)
@[simp] theorem fDict_tup (xs : List D) : fDict A [.tup xs] = (pairsOf xs).map fun ps => .md (mkD ps) := (rfl)
@[simp] theorem gDSet_dct (kvs : List (D × D)) (k d : D) : gDSet (.dct kvs) k d = if kfit k = true ∧ kvs.length < sizeLine then some (.dct (dput kvs k d)) else none := (rfl)
@[simp] theorem gAppend_lst (xs : List D) (d : D) : gAppend (.lst xs) [d] = if xs.length < sizeLine then some (.lst (xs ++ [d]), .non) else none := (rfl)
@[simp] theorem gExtend_lst (xs ys : List D) : gExtend (.lst xs) [.lst ys] = if xs.length + ys.length ≤ sizeLine then some (.lst (xs ++ ys), .non) else none := (rfl)
@[simp] theorem gReverse_lst (xs : List D) : gReverse (.lst xs) [] = some (.lst xs.reverse, .non) := (rfl)
@[simp] theorem gSet_lst (xs : List D) (i : Int) (d : D) : gSet (.lst xs) (.int i) d = (L2.ixN xs.length i).map fun k => .lst (xs.set k d) := (rfl)
@[simp] theorem ap_eDNew (z : S3) (Q : D → AH → Prop) : eDNew z A Q = Q (.md []) A := (rfl)
@[simp] theorem ap_iZp (t : TA3) (z : S3) (Q : List D → Ws → AH → Prop) : iZp t z A Q = t z A (fun ds A' => args2 ds (zipI A' Q)) := (rfl)
@[simp] theorem ap_iEn (t : TA3) (z : S3) (Q : List D → Ws → AH → Prop) : iEn t z A Q = t z A (fun ds A' => args1 ds fun d => withItems (listW A' d) fun xs ws => Q (enumD 0 xs) ws A') := (rfl)
@[simp] theorem args1_ap (a : D) (k : D → Prop) : args1 [a] k = k a := (rfl)
@[simp] theorem args2_ap (a b : D) (k : D → D → Prop) : args2 [a, b] k = k a b := (rfl)
@[simp] theorem zipI_tup (Q : List D → Ws → AH → Prop) (xs ys : List D) : zipI A Q (.tup xs) (.tup ys) = Q (List.zipWith pairD xs ys) [] A := (rfl)
@[simp] theorem zipI_lst (Q : List D → Ws → AH → Prop) (xs ys : List D) : zipI A Q (.lst xs) (.lst ys) = Q (List.zipWith pairD xs ys) [] A := (rfl)
@[simp] theorem ap_iRv (t : TE3) (z : S3) (Q : List D → Ws → AH → Prop) : iRv t z A Q = t z A (fun d A' => (∃ xs, frz d = .tup xs ∧ Q xs.reverse [] A') ∨ withItems (listW A' (frz d)) fun xs ws => Q xs.reverse ws A') := (rfl)
@[simp] theorem listW_lst (xs : List D) : listW A (.lst xs) = some (xs, []) := (rfl)
@[simp] theorem kfit_str (x : Str) : kfit (.str x) = true := by simp [kfit, kok, dk, NestedKey.depth]
@[simp] theorem kfit_int (x : Int) : kfit (.int x) = true := by simp [kfit, kok, dk, NestedKey.depth]
@[simp] theorem kfit_non : kfit .non = true := by simp [kfit, kok, dk, NestedKey.depth]
@[simp] theorem kfit_si (x : Str) (i : Int) : kfit (.tup [.str x, .int i]) = true := by simp [kfit, kok, koks, dk, dks, NestedKey.depth, NestedKey.depthAll]
end

/-! ### the sorted row -/
theorem sortD_perm (ds : List D) : (sortD ds).Perm ds := List.mergeSort_perm ds _
theorem sortD_sorted (ds : List D) : (sortD ds).Pairwise fun a b => PySem.W.dataLe false pd a b = true := PySem.W.sort_pairwise (PySem.W.sortLe_total _ false _) ds
/-- texts, in order -/
def strLe (x y : Str) : Prop := x.cps.toList ≤ y.cps.toList
def strLt (x y : Str) : Prop := x.cps.toList < y.cps.toList
theorem str_ext {x y : Str} (h : x.cps.toList = y.cps.toList) : x = y := PySem.W.str_of_cps h
theorem strLt_of {x y : Str} (h : strLe x y) (hn : x ≠ y) : strLt x y := by
  unfold strLe at h; unfold strLt
  rcases List.le_iff_lt_or_eq.mp h with h | h
  · exact h
  · exact absurd (str_ext h) hn
/-- texts sorted, each once: rising -/
theorem sort_strs (xs : List Str) (hn : xs.Nodup) : ∃ ys : List Str, sortD (xs.map D.str) = ys.map D.str ∧ ys.Perm xs ∧ ys.Pairwise strLt := by
  have hp := sortD_perm (xs.map D.str)
  obtain ⟨ys, e⟩ : ∃ ys : List Str, sortD (xs.map D.str) = ys.map D.str := by
    have : ∀ l : List D, (∀ d ∈ l, ∃ x, d = .str x) → ∃ ys : List Str, l = ys.map D.str := by
      intro l
      induction l with
      | nil => intro _; exact ⟨[], rfl⟩
      | cons a l ih =>
        intro h
        obtain ⟨x, rfl⟩ := h a List.mem_cons_self
        obtain ⟨ys, rfl⟩ := ih fun d hd => h d (List.mem_cons_of_mem _ hd)
        exact ⟨x :: ys, rfl⟩
    refine this _ fun d hd => ?_
    obtain ⟨x, _, rfl⟩ := List.mem_map.mp (hp.mem_iff.mp hd)
    exact ⟨x, rfl⟩
  rw [e] at hp
  have hp2 : ys.Perm xs := by
    have h2 := hp.map (fun d => match d with | .str x => x | _ => ⟨#[]⟩)
    rw [List.map_map, List.map_map] at h2
    have id1 : ((fun d => match d with | .str x => x | _ => (⟨#[]⟩ : Str)) ∘ D.str) = id := rfl
    rw [id1, List.map_id, List.map_id] at h2
    exact h2
  refine ⟨ys, e, hp2, ?_⟩
  have hs := sortD_sorted (xs.map D.str)
  rw [e, List.pairwise_map] at hs
  have hny : ys.Nodup := hp2.nodup_iff.mpr hn
  refine (List.Pairwise.and hs hny).imp fun {a b} h => strLt_of ?_ h.2
  have q := h.1
  have e2 : PySem.W.dataLe false pd (.str a) (.str b) = decide (a.cps.toList ≤ b.cps.toList) := by
    have := congrFun (congrFun (PySem.W.dataLe_str (k := fun x : Str => x)) a) b
    rw [← this]
    show (!PySem.W.dataLt (pd (.str b)) (pd (.str a))) = _
    rw [pd, pd]; rfl
  rw [e2] at q
  show a.cps.toList ≤ b.cps.toList
  exact of_decide_eq_true q
/-- pairs led by texts, each text once: rising by them -/
theorem sort_led (ps : List (Str × D)) (hn : (ps.map (·.1)).Nodup) (hal : ∀ p ∈ ps, ∀ q ∈ ps, PySem.W.alike (pd p.2) (pd q.2) = true) : ∃ qs : List (Str × D), sortD (ps.map fun p => .tup [.str p.1, p.2]) = qs.map (fun p => .tup [.str p.1, p.2]) ∧ qs.Perm ps ∧ (qs.map (·.1)).Pairwise strLt := by
  have hp := sortD_perm (ps.map fun p => D.tup [.str p.1, p.2])
  obtain ⟨qs, e⟩ : ∃ qs : List (Str × D), sortD (ps.map fun p => D.tup [.str p.1, p.2]) = qs.map (fun p => D.tup [.str p.1, p.2]) := by
    have : ∀ l : List D, (∀ d ∈ l, ∃ p : Str × D, d = .tup [.str p.1, p.2]) → ∃ qs : List (Str × D), l = qs.map fun p => D.tup [.str p.1, p.2] := by
      intro l
      induction l with
      | nil => intro _; exact ⟨[], rfl⟩
      | cons a l ih =>
        intro h
        obtain ⟨x, rfl⟩ := h a List.mem_cons_self
        obtain ⟨ys, rfl⟩ := ih fun d hd => h d (List.mem_cons_of_mem _ hd)
        exact ⟨x :: ys, rfl⟩
    refine this _ fun d hd => ?_
    obtain ⟨x, _, rfl⟩ := List.mem_map.mp (hp.mem_iff.mp hd)
    exact ⟨x, rfl⟩
  rw [e] at hp
  have hp2 : qs.Perm ps := by
    have h2 := hp.map (fun d => match d with | .tup [.str x, y] => (x, y) | _ => ((⟨#[]⟩ : Str), D.non))
    rw [List.map_map, List.map_map] at h2
    have id1 : ((fun d => match d with | .tup [.str x, y] => (x, y) | _ => ((⟨#[]⟩ : Str), D.non)) ∘ fun p : Str × D => D.tup [.str p.1, p.2]) = id := rfl
    rw [id1, List.map_id, List.map_id] at h2
    exact h2
  refine ⟨qs, e, hp2, ?_⟩
  have hs := sortD_sorted (ps.map fun p => D.tup [.str p.1, p.2])
  rw [e, List.pairwise_map] at hs
  have hny : (qs.map (·.1)).Nodup := (hp2.map _).nodup_iff.mpr hn
  rw [List.pairwise_map]
  have hnq : qs.Pairwise fun a b => a.1 ≠ b.1 := List.pairwise_map.mp hny
  refine (List.Pairwise.and (List.Pairwise.and_mem.mp hs) hnq).imp fun {a b} h => strLt_of ?_ h.2
  obtain ⟨⟨ha, hb, q⟩, hne⟩ := h
  have e2 : PySem.W.dataLt (.tuple [.str b.1, pd b.2]) (.tuple [.str a.1, pd a.2]) = PySem.W.dataLt (.str b.1) (.str a.1) := by
    rw [PySem.W.dataLt_pair (by simp [PySem.W.alike]) (hal b (hp2.mem_iff.mp hb) a (hp2.mem_iff.mp ha)), if_neg]
    simp only [PyData.eqv, beq_iff_eq]
    exact fun z => hne z.symm
  have e3 : PySem.W.dataLe false pd (D.tup [.str a.1, a.2]) (.tup [.str b.1, b.2]) = !PySem.W.dataLt (.str b.1) (.str a.1) := by
    rw [← e2]
    show (!PySem.W.dataLt (pd _) (pd _)) = _
    simp only [pd, pds]
  rw [e3, PySem.W.dataLt_str] at q
  have q2 : ¬ b.1.cps.toList < a.1.cps.toList := by simpa using q
  exact List.not_lt.mp q2
end T3
set_option maxHeartbeats 4000000
set_option autoImplicit false
namespace T3
open PySem PySem.Spec PyProof.Rows L2

/-! ### a set of texts, made of a list -/
def addS (L : List Str) (x : Str) : List Str := if x ∈ L then L else x :: L
section
variable {P : Program} {w : World} {A : Around} {E : Value → Shared → Prop} {s : Shared} {a : Addr} {L : List Str}
end
end T3
set_option maxHeartbeats 4000000
set_option autoImplicit false
namespace T3
open PySem PySem.Spec PyProof.Rows L2
def setS (ws : List Str) : List Str := ws.foldl addS []
section
variable {P : Program} {w : World} {A : Around} {E : Value → Shared → Prop} {s : Shared}
end
end T3
set_option autoImplicit false
namespace T3
open PySem PySem.Spec PyProof.Rows L2
/-- all are texts -/
def strsOf : List D → Option (List Str)
  | [] => some []
  | .str x :: r => (strsOf r).map (x :: ·)
  | _ => none
@[simp] theorem strsOf_map : ∀ ws : List Str, strsOf (ws.map D.str) = some ws
  | [] => rfl
  | x :: r => by rw [List.map_cons, strsOf, strsOf_map r]; rfl
section
variable {X : Cx} {C : Ct}
def fSortSet (A : AH) : List D → Option D
  | [d] => match vw A d with
    | .lst ds => (strsOf ds).bind fun ws => if ws.length ≤ 1000 then some (.ml (sortD ((setS ws).map D.str))) else none
    | _ => none
  | _ => none
@[simp] theorem fSortSet_lst (A : AH) (xs : List D) : fSortSet A [.lst xs] = (strsOf xs).bind fun ws => if ws.length ≤ 1000 then some (.ml (sortD ((setS ws).map D.str))) else none := rfl
end
end T3
set_option autoImplicit false
namespace T3
open PySem PySem.Spec PyProof.Rows L2

/-! ### enumerate(text) -/
end T3
set_option autoImplicit false
namespace T3
open PySem PySem.Spec PyProof.Rows L2
section
variable {X : Cx} {C : Ct} {p pos tpos : Pos}
def iEnS (t : TA3) : TI3 := fun z A Q => t z A fun ds A' => args1 ds fun d => ∃ x, d = .str x ∧ Q (enumD 0 (signs x)) [] A'
@[simp] theorem ap_iEnS (A : AH) (t : TA3) (z : S3) (Q : List D → Ws → AH → Prop) : iEnS t z A Q = t z A (fun ds A' => args1 ds fun d => ∃ x, d = .str x ∧ Q (enumD 0 (signs x)) [] A') := rfl

/-! ### name += e, of numbers -/
def sAug (i : Nat) (g : Int → Int → Int) (t : TE3) : TS3 := fun E z A => ∃ j, z[i]? = some (some (.int j)) ∧ t z A fun d A' => ∃ k, d = .int k ∧ E.nx (z.set i (some (.int (g j k)))) A'
@[simp] theorem ap_sAug (z : S3) (A : AH) (E : Ends3) (i : Nat) (g : Int → Int → Int) (t : TE3) : sAug i g t E z A = ∃ j, z[i]? = some (some (.int j)) ∧ t z A fun d A' => ∃ k, d = .int k ∧ E.nx (z.set i (some (.int (g j k)))) A' := rfl
end
end T3
set_option autoImplicit false
namespace T3
open PySem PySem.Spec PyProof.Rows L2
/-! ### xs[::-1] of a list -/
def fRevL (A : AH) (d : D) : Option D := match vw A d with
  | .lst xs => some (.ml xs.reverse)
  | _ => none
section
variable {X : Cx} {C : Ct}
@[simp] theorem fRevL_lst (A : AH) (xs : List D) : fRevL A (.lst xs) = some (.ml xs.reverse) := rfl
end
end T3
set_option autoImplicit false
namespace T3
open PySem PySem.Spec PyProof.Rows L2

/-! ### for k, v in d.items() -/
theorem ents_get : ∀ {es : List (Int × V × V)} {ens : List DictEntry} {i n : Nat} {m : Int} {k v : V}, EntsAre es ens → es[i]? = some (m, k, v) → ∃ e, ens[i]? = some e ∧ RelV k e.key ∧ RelV v e.val
  | [], _, _, _, _, _, _, _, e => by simp at e
  | (a, b, c) :: r, _, i, n, _, _, _, .cons h1 h2 h3 h4, e => by
    cases i with
    | zero => simp at e; obtain ⟨rfl, rfl, rfl⟩ := e; exact ⟨_, rfl, h2, h3⟩
    | succ i => exact ents_get (i := i) (n := n) h4 (by simpa using e)
section
variable {X : Cx} {pins : List (Addr × Obj)} {σ : L2.St} {H : Hp} {s : Shared} {d : Addr} {o : Obj} {es : List (Int × V × V)}
theorem frz_dict (I : Inv X pins σ H s) (h : H d = some (.frz o (dh d es))) : s.heap.get? d = some o ∧ (d == sysModules) = false ∧ ∃ arr ep, o.data = .dict arr ep ∧ EntsAre es arr.toList ∧ arr.size = es.length ∧ s.heap.DictRaw d arr ep ∧ arr.size ≤ sizeLine := by
  obtain ⟨h1, h2⟩ := I.hok d _ h
  have de : DE d es s.heap := (show ObjOk X.prog X.w H s.heap d (.ext (DE d es)) from h2).1
  obtain ⟨hz, hm, o', arr, ep, ho, hc, hd, ea, _⟩ := de
  rw [h1] at ho; cases ho
  have l := ea.length
  simp only [Array.length_toList] at l
  exact ⟨h1, hm, arr, ep, hd, ea, l.symm, ⟨o, h1, hc, hd⟩, by omega⟩
end
def entsD (kvs : List (D × D)) : List D := kvs.map fun p => pairD p.1 p.2
def iIt (t : TE3) : TI3 := fun z A Q => t z A fun d A' => ∃ kvs, frz d = .dct kvs ∧ Q (entsD kvs) [] A'
theorem rpk_get {K : PySem.W.Frag} {w : World} {H : Hp} : ∀ {kvs : List (D × D)} {es : List (Int × V × V)} {i : Nat} {k d : D}, Rpk K w H kvs es → kvs[i]? = some (k, d) → ∃ n x y, es[i]? = some (n, x, y) ∧ Rp K w H k x ∧ Rp K w H d y
  | [], _, _, _, _, _, e => by simp at e
  | (a, b) :: r, _, i, _, _, h, e => by
    rw [Rpk] at h
    obtain ⟨x, y, q, rfl, h1, h2, h3⟩ := h
    cases i with
    | zero => simp at e; obtain ⟨rfl, rfl⟩ := e; exact ⟨_, x, y, rfl, h1, h2⟩
    | succ i => exact rpk_get (i := i) h3 (by simpa using e)
theorem rpk_len {K : PySem.W.Frag} {w : World} {H : Hp} : ∀ {kvs : List (D × D)} {es : List (Int × V × V)}, Rpk K w H kvs es → es.length = kvs.length
  | [], _, h => by rw [Rpk] at h; rw [h]; rfl
  | (a, b) :: r, _, h => by
    rw [Rpk] at h
    obtain ⟨x, y, q, rfl, _, _, h3⟩ := h
    simp [rpk_len h3]
/-! ### list(d.values()), sorted(d.items()) -/
section
variable {X : Cx} {C : Ct}
def VI (r a : Addr) : HO := .ext fun h => h.IsItemsView r a
def rItms (X : Cx) : V → List V → Hp → VK → Prop := fun x xs H Q => ∃ a kvs, x = .ref a ∧ xs = [] ∧ DtR X.K X.w H a kvs ∧ ∀ r, H r = none → Q (.ref r) (upd H r (VI r a))
theorem raw_of {pins : List (Addr × Obj)} {σ : L2.St} {H : Hp} {s : Shared} (I : Inv X pins σ H s) {a : Addr} {kvs : List (D × D)} (h : DtR X.K X.w H a kvs) : ∃ arr ep es, s.heap.DictRaw a arr ep ∧ (a == sysModules) = false ∧ arr.size = kvs.length ∧ arr.size ≤ sizeLine ∧ EntsAre es arr.toList ∧ Rpk X.K X.w H kvs es := by
  obtain ⟨o, arr, ep, es, ho, hcx, hd, hm, hz, hz2, ea, er, ka, kn⟩ := dict_at I h
  exact ⟨arr, ep, es, ⟨o, ho, hcx, hd⟩, hm, hz, hz2, ea, er⟩
theorem mt_items : MtR X "dict.items" (rItms X) := fun pins s σ H x xs u us Q I rx r h => by
  obtain ⟨a, kvs, rfl, rfl, hD, q⟩ := h
  cases rx
  cases r
  obtain ⟨arr, ep, es, hm, lo, _⟩ := raw_of I hD
  have e : (s.heap.push { cls := .type "dict_items", data := .fields #[.ref a] }).get? s.heap.objs.size = some { cls := .type "dict_items", data := .fields #[.ref a] } := Heap.get?_push_size _ rfl
  refine call_meetsIn F.slot_dict_items hm.typeIs F.entry_dict_items (F.args_dict_items_1 _) (meets_dict_items_raw a lo) ⟨⟨_, _, hm⟩, ⟨.ref s.heap.objs.size, _, I.laid (o := VI s.heap.objs.size a) (t' := s.toks) (fun _ _ q => Heap.get?_push_of_some _ q) (Nat.le_refl _) ⟨⟨_, e, rfl, rfl⟩, ⟨_, e⟩, fun h1 h2 ⟨o, e1, e2, e3⟩ k => ⟨o, k _ e1, e2, e3⟩⟩, rfl, q _ I.fresh⟩⟩
theorem DtR.upd {H : Hp} {r a : Addr} {u : HO} {kvs : List (D × D)} (h : DtR X.K X.w H a kvs) (n : H r = none) : DtR X.K X.w (L2.upd H r u) a kvs := by
  obtain ⟨es, h1, h2, h3⟩ := h
  refine ⟨es, ?_, h2, h3.pers (.of_ext (ext_upd n))⟩
  rcases h1 with h1 | ⟨o, h1⟩
  · exact .inl (ext_upd n _ _ h1)
  · exact .inr ⟨o, ext_upd n _ _ h1⟩
end
end T3
set_option autoImplicit false
namespace T3
open PySem PySem.Spec PyProof.Rows L2

/-! ### several new tuples at once -/
section
variable {X : Cx} {C : Ct} {pins : List (Addr × Obj)} {σ : L2.St} {H : Hp} {s : Shared}
def layT (H : Hp) (as : List Addr) (T : Addr → Obj × List V) : Hp := fun b => if b ∈ as then some (.frz (T b).1 (.tup (T b).2)) else H b
theorem layT_in {as : List Addr} {T : Addr → Obj × List V} {b : Addr} (h : b ∈ as) : layT H as T b = some (.frz (T b).1 (.tup (T b).2)) := if_pos h
theorem layT_out {as : List Addr} {T : Addr → Obj × List V} {b : Addr} (h : b ∉ as) : layT H as T b = H b := if_neg h
theorem Inv.layT (I : Inv X pins σ H s) {h' : Heap} {t' : Nat} (k : ∀ b o, s.heap.get? b = some o → h'.get? b = some o) {as : List Addr} {T : Addr → Obj × List V} (hp : ∀ a ∈ as, s.heap.objs.size ≤ a)
    (new : ∀ a ∈ as, h'.get? a = some (T a).1 ∧ (T a).2.length ≤ sizeLine ∧ ∃ its : List Value, Vals (T a).2 its ∧ IsTup h' a its.toArray) : Inv X pins σ (layT H as T) { s with heap := h', toks := t' } ∧ Ext H (layT H as T) := by
  have fresh : ∀ a ∈ as, H a = none := fun a ha => I.hok.fresh (hp a ha)
  have e : Ext H (T3.layT H as T) := fun b o hb => by
    by_cases hm : b ∈ as
    · rw [fresh b hm] at hb; cases hb
    · rw [layT_out hm]; exact hb
  refine ⟨I.un ⟨fun b u q _ _ _ => k b u q, fun b u q _ _ _ => ⟨u.slots, k b u q⟩, fun b u q n _ => ?_, fun b u q _ => ⟨u, k b u q⟩, fun b xs q => e _ _ q, fun b o u q => e _ _ q, fun b ps q => ⟨#[], by rw [e _ _ q]; simp⟩⟩ fun b o hb => ?_, e⟩
  · have : b ∉ as := fun hm => absurd (hp b hm) (Nat.not_le.mpr (Heap.lt_size q))
    rw [layT_out this]; exact n
  · by_cases hm : b ∈ as
    · rw [layT_in hm] at hb; cases hb
      obtain ⟨h1, h2, h3⟩ := new b hm
      exact ⟨h1, h2, h3⟩
    · rw [layT_out hm] at hb
      exact (I.hok b o hb).stay (fun c v _ q => k c v q) (fun c q => e _ _ q) fun c xs q => e _ _ q
theorem idx_rise : ∀ {as : List Addr} {j : Nat} {a : Addr}, as.Pairwise (· < ·) → as[j]? = some a → as.idxOf a = j
  | [], _, _, _, e => by simp at e
  | b :: r, 0, a, _, e => by simp at e; subst e; simp
  | b :: r, j + 1, a, h, e => by
    rw [List.pairwise_cons] at h
    have e' : r[j]? = some a := by simpa using e
    have hlt := h.1 a (List.mem_of_getElem? e')
    have ne : (b == a) = false := by simp; exact Nat.ne_of_lt hlt
    rw [List.idxOf_cons, ne, idx_rise h.2 e']; rfl
/-- a dict's pairs gathered -/
theorem items_stand (I : Inv X pins σ H s) {kvs : List (D × D)} {arr : Array DictEntry} {es : List (Int × V × V)} (ea : EntsAre es arr.toList) (er : Rpk X.K X.w H kvs es) (hz : arr.size = kvs.length) {h' : Heap} {tk lo : Nat} {as : List Addr} (k : ∀ b o, s.heap.get? b = some o → h'.get? b = some o)
    (hl : as.length = arr.size) (g : PySem.W.DilG arr lo h' as) (hlo : s.heap.objs.size ≤ lo) : ∃ H1, Ext H H1 ∧ Inv X pins σ H1 { s with heap := h', toks := tk } ∧ PySem.W.EachIs (Stands X.K X.w H1) (as.map Value.ref) (entsD kvs) := by
  have le := ea.length
  simp only [Array.length_toList] at le
  have lk := rpk_len er
  let T : Addr → Obj × List V := fun b => match es[as.idxOf b]?, arr[as.idxOf b]? with
    | some (_, x, y), some e => ({ cls := .type "tuple", data := .seq #[e.key, e.val] }, [x, y])
    | _, _ => ({ cls := .type "tuple", data := .seq #[] }, [])
  have at_ : ∀ j a, as[j]? = some a → ∃ (n : Int) (x y : V) (e : DictEntry), es[j]? = some (n, x, y) ∧ arr[j]? = some e ∧ RelV x e.key ∧ RelV y e.val ∧ T a = ({ cls := .type "tuple", data := .seq #[e.key, e.val] }, [x, y]) ∧ h'.get? a = some { cls := .type "tuple", data := .seq #[e.key, e.val] } := fun j a hj => by
    obtain ⟨hlt, hh⟩ := g.pairs j a hj
    have hje : j < es.length := by omega
    obtain ⟨⟨n, x, y⟩, hes⟩ : ∃ p, es[j]? = some p := ⟨es[j], List.getElem?_eq_getElem hje⟩
    obtain ⟨e, he, r1, r2⟩ := ents_get (n := 0) ea hes
    have ee : e = arr[j] := by
      rw [Array.getElem?_toList, Array.getElem?_eq_getElem hlt] at he
      exact (Option.some.inj he).symm
    subst ee
    refine ⟨n, x, y, _, hes, Array.getElem?_eq_getElem hlt, r1, r2, ?_, hh⟩
    show (match es[as.idxOf a]?, arr[as.idxOf a]? with | some (_, x, y), some e => _ | _, _ => _) = _
    rw [idx_rise g.rise hj, hes, Array.getElem?_eq_getElem hlt]
  obtain ⟨I1, e1⟩ := Inv.layT (t' := tk) (T := T) I k (as := as) (fun a ha => Nat.le_trans hlo (Nat.le_of_lt (g.above a ha))) fun a ha => by
    obtain ⟨j, hj⟩ := List.mem_iff_getElem?.mp ha
    obtain ⟨n, x, y, e, h1, h2, r1, r2, hT, hh⟩ := at_ j a hj
    rw [hT]
    exact ⟨hh, by show 2 ≤ sizeLine; decide, [e.key, e.val], .cons r1 (.cons r2 .nil), ⟨_, hh, rfl, _, rfl⟩⟩
  refine ⟨_, e1, I1, each_at (by simp [entsD]; omega) fun j u d hu hd => ?_⟩
  rw [List.getElem?_map] at hu
  cases ha : as[j]? with
  | none => rw [ha] at hu; cases hu
  | some a =>
    rw [ha] at hu; cases hu
    unfold entsD at hd
    rw [List.getElem?_map] at hd
    cases q : kvs[j]? with
    | none => rw [q] at hd; cases hd
    | some kv =>
      rw [q] at hd; cases hd
      obtain ⟨n, x, y, e, h1, h2, r1, r2, hT, hh⟩ := at_ j a ha
      obtain ⟨n', x', y', h3, r3, r4⟩ := rpk_get er q
      rw [h1] at h3; cases h3
      refine ⟨.ref a, rfl, ?_⟩
      unfold pairD
      rw [Rp]
      refine ⟨a, [x, y], rfl, .inl ⟨{ cls := .type "tuple", data := .seq #[e.key, e.val] }, ?_, rfl⟩, .two (r3.pers (.of_ext e1)) (r4.pers (.of_ext e1))⟩
      rw [layT_in (List.mem_of_getElem? ha), hT]
/-! ### as expressions -/
variable {o : Expr} {t : TE3} {apos cpos p pos : Pos}
end
end T3
set_option autoImplicit false
namespace T3
open PySem PySem.Spec PyProof.Rows L2

/-! ### max, min of a row of alike data -/
mutual
theorem pd_inj : ∀ a b : D, pok a = true → pok b = true → pd a = pd b → a = b
  | .non, b, _, hb, h => by cases b <;> simp_all [pok, pd]
  | .bl i, b, _, hb, h => by cases b <;> simp_all [pok, pd]
  | .int i, b, _, hb, h => by cases b <;> simp_all [pok, pd]
  | .str i, b, _, hb, h => by cases b <;> simp_all [pok, pd]
  | .tup xs, b, ha, hb, h => by
    cases b with
    | tup ys =>
      rw [pok] at ha hb
      rw [pd, pd, PyData.tuple.injEq] at h
      rw [pds_inj xs ys ha hb h]
    | _ => simp_all [pok, pd]
  | .lst xs, b, ha, hb, h => by
    cases b with
    | lst ys =>
      rw [pok] at ha hb
      rw [pd, pd, PyData.list.injEq] at h
      rw [pds_inj xs ys ha hb h]
    | _ => simp_all [pok, pd]
  | .dct _, _, ha, _, _ => by simp [pok] at ha
  | .ref _, _, ha, _, _ => by simp [pok] at ha
  | .ml _, _, ha, _, _ => by simp [pok] at ha
  | .md _, _, ha, _, _ => by simp [pok] at ha
theorem pds_inj : ∀ a b : List D, poks a = true → poks b = true → pds a = pds b → a = b
  | [], [], _, _, _ => rfl
  | [], _ :: _, _, _, h => by simp [pds] at h
  | _ :: _, [], _, _, h => by simp [pds] at h
  | x :: xs, y :: ys, ha, hb, h => by
    simp only [poks, Bool.and_eq_true] at ha hb
    simp only [pds, List.cons.injEq] at h
    rw [pd_inj x y ha.1 hb.1 h.1, pds_inj xs ys ha.2 hb.2 h.2]
end
theorem pds_map' : ∀ xs : List D, pds xs = xs.map pd
  | [] => rfl
  | x :: xs => by rw [pds, pds_map' xs]; rfl
/-- rows whose greatest may be asked -/
def okMax (ds : List D) : Bool := poks ds && ds.all (fun a => ds.all fun b => PySem.W.alike (pd a) (pd b)) && ds.all (fun d => match d with | .non => false | _ => true) && decide (deps ds ≤ 50)
def maxF (x : D) (xs : List D) : D := xs.foldl (fun a y => if ltD a y then y else a) x
theorem pd_max : ∀ (xs : List D) (x : D), pd (maxF x xs) = PySem.W.maxD (pd x) (pds xs)
  | [], x => rfl
  | y :: xs, x => by
    show pd (maxF (if ltD x y then y else x) xs) = PySem.W.maxD (if PySem.W.dataLt (pd x) (pd y) then pd y else pd x) (pds xs)
    rw [pd_max xs]
    unfold ltD
    split <;> rfl
theorem max_mem : ∀ (xs : List D) (x : D), maxF x xs ∈ x :: xs
  | [], x => by simp [maxF]
  | y :: xs, x => by
    show maxF (if ltD x y then y else x) xs ∈ _
    have := max_mem xs (if ltD x y then y else x)
    rcases List.mem_cons.mp this with h | h
    · rw [h]; split <;> simp
    · exact List.mem_cons_of_mem _ (List.mem_cons_of_mem _ h)
theorem okMax_of {ds : List D} (h : okMax ds = true) : poks ds = true ∧ PySem.W.AlikeAll (pds ds) ∧ deps ds ≤ 50 := by
  simp only [okMax, Bool.and_eq_true, decide_eq_true_eq, List.all_eq_true] at h
  obtain ⟨⟨⟨h1, h2⟩, h3⟩, h4⟩ := h
  refine ⟨h1, ⟨fun d hd d' hd' => ?_, fun d hd => ?_⟩, h4⟩
  · rw [pds_map'] at hd hd'
    obtain ⟨a, ha, rfl⟩ := List.mem_map.mp hd
    obtain ⟨b, hb, rfl⟩ := List.mem_map.mp hd'
    exact h2 a ha b hb
  · rw [pds_map'] at hd
    obtain ⟨a, ha, rfl⟩ := List.mem_map.mp hd
    have q1 := h3 a ha
    have q2 := poks_mem h1 a ha
    cases a <;> simp [pok] at q2 <;> simp at q1 <;> simp [pd]
def best (g : D → List D → D) : List D → Option D
  | x :: xs => if okMax (x :: xs) = true then some (g x xs) else none
  | [] => none
def seqOf (A : AH) (d : D) : Option (List D) := match vw A d with
  | .lst xs => some xs
  | .tup xs => some xs
  | _ => none
def fMax (A : AH) : List D → Option D
  | [d] => (seqOf A d).bind (best maxF)
  | _ => none
section
variable {X : Cx} {C : Ct} {pins : List (Addr × Obj)} {σ : L2.St} {H : Hp} {s : Shared}
theorem readsAll_of {h : Heap} : ∀ {us : List Value} {ds : List D}, PySem.W.EachIs (fun v d => ∃ as, Reads h v (pd d) as) us ds → ∃ as, ReadsAll h us (pds ds) as
  | _, _, .nil => ⟨[], .nil⟩
  | _, _, .cons ⟨a, r⟩ t => by
    obtain ⟨b, q⟩ := readsAll_of t
    exact ⟨_, .cons r q⟩
/-- a list or a tuple as the machine has it -/
def SqAny (K : PySem.W.Frag) (w : World) (H : Hp) (v : V) (ds : List D) : Prop := ∃ a zs, v = .ref a ∧ (SqL K H a zs ∨ SqT K H a zs) ∧ Rps K w H ds zs
theorem RpB.seq {K : PySem.W.Frag} {w : World} {C : Ct} {z : S3} {A : AH} {σ : L2.St} {H : Hp} {d : D} {v : V} {ds : List D} (r : Rel K w C A H) (s : Slots K w C z A σ H) (h : RpB K w z σ H d v) (e : seqOf A d = some ds) : SqAny K w H v ds := by
  unfold seqOf at e
  split at e
  · rename_i xs e1
    cases e
    obtain ⟨a, zs, rfl, h1, h2⟩ := h.list r s e1
    exact ⟨a, zs, rfl, .inl h1, h2⟩
  · rename_i xs e1
    cases e
    obtain ⟨a, zs, rfl, h1, h2⟩ := h.tup (A := A) e1
    exact ⟨a, zs, rfl, .inr h1.sqt, h2⟩
  · cases e
def rBest (X : Cx) (g : D → List D → D) : List V → Hp → VK → Prop := fun xs H Q => ∃ v ds, xs = [v] ∧ SqAny X.K X.w H v ds ∧ ∃ d, best g ds = some d ∧ ∀ u, Rp X.K X.w H d u → Q u H
/-- the item that reads as the best one is that -/
theorem best_end (I : Inv X pins σ H s) {ds : List D} {zs : List V} {its : List Value} (hp : poks ds = true) (rv : Vals zs its) (rs : Rps X.K X.w H ds zs) {i : Nat} {v : Value} {h' : Heap} {tk : Nat} {bs : List Addr} {d : D} {Q : VK} (hv : its.toArray[i]? = some v) (hr : Reads h' v (pd d) bs) (hm : d ∈ ds)
    (k : ∀ b o, s.heap.get? b = some o → h'.get? b = some o) (q : ∀ u, Rp X.K X.w H d u → Q u H) : EP X pins σ Q v { s with heap := h', toks := tk } := by
  have hv' : its[i]? = some v := by simpa using hv
  have st := stands_of rv rs
  have hi : i < ds.length := by
    rw [← st.length]; exact (List.getElem?_eq_some_iff.mp hv').1
  have er := reads_of I k hp st
  have hz : (v, ds[i]) ∈ its.zip ds := List.mem_of_getElem? (i := i) (by rw [List.getElem?_zip_eq_some]; exact ⟨hv', List.getElem?_eq_getElem hi⟩)
  obtain ⟨as, r1⟩ := er.zip _ hz
  obtain ⟨x, rx, rp⟩ := st.zip _ hz
  have e := (reads_det (fun _ _ h _ => h) r1 hr).1
  have := pd_inj _ _ (poks_mem hp _ hm) (poks_mem hp _ (List.getElem_mem hi)) e
  subst this
  exact ⟨x, H, I.kept (t' := tk) k, rx, q x rp⟩
theorem call_maxA (hc : X.calm = true) (hu : X.A.units + 64 < cLine) : CallR X (.builtin "max") (rBest X maxF) := by
  intro pins s σ H xs us Q I r h
  obtain ⟨v, ds, rfl, ⟨a, zs, rfl, hq, rs⟩, d, hb, q⟩ := h
  obtain ⟨u, rfl, ru⟩ := vals1 r
  cases ru
  match ds, hb with
  | x :: xs, hb =>
    rw [best] at hb
    split at hb
    · rename_i ok
      cases hb
      obtain ⟨hp, hal, hd⟩ := okMax_of ok
      have hdd : X.A.units + 1 + PyData.depthAll (pd x :: pds xs) < cLine := by
        have := pds_depth (x :: xs)
        rw [pds] at this
        rw [this]; omega
      rcases hq with hq | hq
      · obtain ⟨its, rv, p, hz⟩ := I.list hq
        obtain ⟨as, ra⟩ := readsAll_of (reads_of I (fun _ _ h => h) hp (stands_of rv rs))
        rw [pds] at ra hal
        refine PySem.W.max_list_data (I.ok.hd hc) p.isList (by simpa using ra) hal hdd fun i v h' tk bs hv hr k => ?_
        exact best_end I hp rv rs hv (by rw [pd_max]; exact hr) (max_mem xs x) k q
      · obtain ⟨its, rv, p, hz⟩ := I.tuple hq
        obtain ⟨as, ra⟩ := readsAll_of (reads_of I (fun _ _ h => h) hp (stands_of rv rs))
        rw [pds] at ra hal
        refine PySem.W.max_tuple_data (I.ok.hd hc) (show s.heap.IsTuple a its.toArray from p) (by simpa using ra) hal hdd fun i v h' tk bs hv hr k => ?_
        exact best_end I hp rv rs hv (by rw [pd_max]; exact hr) (max_mem xs x) k q
    · cases hb
theorem o_best {g : D → List D → D} {f : AH → List D → Option D} (hf : ∀ A ds, f A ds = match ds with | [d] => (seqOf A d).bind (best g) | _ => none) (hg : ∀ x xs, g x xs ∈ x :: xs) : OpN X C (rBest X g) f := fun z A σ H ds d xs Q r s h e q => by
  rw [hf] at e
  split at e
  · obtain ⟨v, rfl, hb⟩ := h.one
    rename_i d0
    cases hr : seqOf A d0 with
    | none => rw [hr] at e; cases e
    | some row =>
      rw [hr] at e
      simp only [Option.bind_some] at e
      exact ⟨v, row, rfl, hb.seq r s hr, d, e, fun u hu => q _ _ (.same hu)⟩
  · cases e
theorem o_max : OpN X C (rBest X maxF) fMax := o_best (fun _ _ => rfl) (fun x xs => max_mem xs x)
/-! max(xs, default=i) -/
end
end T3
set_option autoImplicit false
namespace T3
open PySem PySem.Spec PyProof.Rows L2

/-! ### sep.join(texts), text.index(sign), list.index(number) -/
section
variable {X : Cx} {C : Ct}
/-! ### {name: truth} -/
/-! ### d.setdefault(k, v) of a dict at a reference -/
end
end T3
set_option autoImplicit false
namespace T3
open PySem PySem.Spec PyProof.Rows L2

/-! ### a thing at a reference is let go -/
def delA (A : AH) (a : Addr) : AH := fun b => if b = a then none else A b
section
variable {X : Cx} {C : Ct}
end

/-! ### names = xs.pop() -/
section
variable {X : Cx} {C : Ct}
end
end T3
set_option autoImplicit false
namespace T3
open PySem PySem.Spec PyProof.Rows L2

/-! ### tuples within tuples whose first parts that differ may be compared -/
/-- what the walk over two tuples asks: parts that are equal, then two of which one is less -/
def LexP (A : Around) (s : Shared) : List (Value × Value) → Bool → Bool → Prop
  | [], fin, k => k = fin
  | (x, y) :: r, fin, k => (SeqAt.EqAt A s x y true ∧ LexP A s r fin k) ∨ (SeqAt.EqAt A s x y false ∧ SeqAt.RcLt A s x y k)
theorem tuple_ltL (l b : Addr) (items items2 : Array Value) (n n2 : Nat) (k : Bool) :
    Meets (Builtin.«tuple.__lt__» { pos := [Value.ref l, Value.ref b] }) fun A R s =>
      (∃ o, s.heap.get? l = some o ∧ o.cls = .type "tuple" ∧ o.data = .seq items n) ∧ (∃ o, s.heap.get? b = some o ∧ o.cls = .type "tuple" ∧ o.data = .seq items2 n2) ∧
      LexP A.in1 s (items.toList.zip items2.toList) (decide (items.size < items2.size)) k ∧ R (.ok (.ret (.bool k))) s := by
  intro prog w A R s ⟨⟨o, h1, h2, h3⟩, ⟨o2, k1, k2, k3⟩, hL, hR⟩
  refine wpAny_bind (m := slotArgs "__lt__" 1 { pos := [Value.ref l, Value.ref b] }) ?_
  refine wpAny_pure ?_
  refine wpAny_bind (m := PySem.isInstance (.ref b) (.type "tuple")) ?_
  refine wpAny_isInstance (T := "tuple") ⟨o2, k1, k2⟩ rfl ?_
  simp only [Bool.not_true, Bool.false_eq_true, if_false]
  refine wpAny_bind (wpAny_tupleItemsOf h1 h3 ?_)
  refine wpAny_bind (wpAny_tupleItemsOf k1 k3 ?_)
  refine wpAny_bind ?_
  refine wpAny_forIn_list _ (fun l b s' => s' = s ∧ b = (none, ()) ∧ LexP A.in1 s l (decide (items.size < items2.size)) k) _ (fun z rest bb s' hi => ?_) (fun bb s' hi => ?_) _ _ ⟨rfl, rfl, hL⟩
  · obtain ⟨rfl, rfl, hl⟩ := hi
    obtain ⟨x, y⟩ := z
    rcases hl with ⟨he, hl⟩ | ⟨he, hr⟩
    · refine wpAny_bind (he _ _ _ _ ?_)
      simp only [Bool.not_true, Bool.false_eq_true, if_false]
      exact wpAny_pure ⟨rfl, rfl, hl⟩
    · refine wpAny_bind (he _ _ _ _ ?_)
      simp only [Bool.not_false, if_true]
      refine wpAny_bind (wpAny_rule ?_)
      refine wpAny_bind (hr _ _ _ _ ?_)
      refine wpAny_bind (m := ret (Value.bool k)) (wpAny_pure ?_)
      refine wpAny_pure ?_
      exact wpAny_pure hR
  · obtain ⟨rfl, rfl, hl⟩ := hi
    have hl' : k = decide (items.size < items2.size) := hl
    rw [hl'] at hR
    exact wpAny_pure hR
theorem rcLt_tup {A : Around} {s : Shared} {l b : Addr} {items items2 : Array Value} {n n2 : Nat} {k : Bool} (h1 : ∃ o, s.heap.get? l = some o ∧ o.cls = .type "tuple" ∧ o.data = .seq items n) (h2 : ∃ o, s.heap.get? b = some o ∧ o.cls = .type "tuple" ∧ o.data = .seq items2 n2)
    (hA : A.units < cLine) (hL : LexP A.in1 s (items.toList.zip items2.toList) (decide (items.size < items2.size)) k) : SeqAt.RcLt A s (.ref l) (.ref b) k := by
  intro prog w E Q q
  obtain ⟨o, a1, a2, a3⟩ := id h1
  obtain ⟨o2, b1, b2, b3⟩ := id h2
  exact richCompare_meets_room (T := "tuple") (id := "tuple.__lt__") (op := .Lt) ⟨o, a1, a2⟩ ⟨o2, b1, b2⟩ F.slot_tuple_lt F.entry_tuple_lt (F.args_tuple_lt_2 _ _) (tuple_ltL l b items items2 n n2 k) ⟨h1, h2, hL, ⟨by simp, q⟩⟩ hA
theorem oneLt_rc {prog : Program} {w : World} {A : Around} {E : Value → Shared → Prop} {s : Shared} {p q : Value} {k : Bool} {Q : Bool → Shared → Prop} (h : SeqAt.RcLt A s p q k) (hq : Q k s) : wpAny (model prog w) A (oneLt' false p q) Q E s := by
  rw [oneLt'_eq]
  simp only [Bool.false_eq_true, if_false]
  refine wpAny_bind (h _ _ _ _ ?_)
  exact wpAny_truthy_bool hq
mutual
def cmpX : PyData → PyData → Bool
  | .tuple xs, .tuple ys => cmpXs xs ys
  | .int _, .int _ => true
  | .str _, .str _ => true
  | _, _ => false
def cmpXs : List PyData → List PyData → Bool
  | [], _ => true
  | _ :: _, [] => true
  | x :: xs, y :: ys => cmpX x y && (!PyData.eqv x y || cmpXs xs ys)
end
theorem lex_app {O : KeyOrd} (t a b : List O.α) : PyProof.Rows.lexLt O (t ++ a) (t ++ b) = PyProof.Rows.lexLt O a b := by
  induction t with
  | nil => rfl
  | cons x t ih => rw [List.cons_append, List.cons_append, lex_self, ih]
mutual
theorem cmpX_yes : ∀ x y : PyData, cmpX x y = true → PyData.eqv x y = true → PySem.W.keyToks x = PySem.W.keyToks y
  | .tuple xs, .tuple ys, h, e => by
    rw [PyData.eqv] at e
    rw [cmpX] at h
    rw [PySem.W.keyToks, PySem.W.keyToks, cmpXs_yes xs ys h e]
  | .int i, .int j, _, e => by
    rw [PyData.eqv] at e
    rw [eq_of_beq e]
  | .str i, .str j, _, e => by
    rw [PyData.eqv] at e
    rw [eq_of_beq e]
  | .none, y, h, _ => by cases y <;> simp [cmpX] at h
  | .bool b, y, h, _ => by cases y <;> simp [cmpX] at h
  | .list b, y, h, _ => by cases y <;> simp [cmpX] at h
  | .dict b, y, h, _ => by cases y <;> simp [cmpX] at h
  | .int i, .none, h, _ => by simp [cmpX] at h
  | .int i, .bool _, h, _ => by simp [cmpX] at h
  | .int i, .str _, h, _ => by simp [cmpX] at h
  | .int i, .list _, h, _ => by simp [cmpX] at h
  | .int i, .tuple _, h, _ => by simp [cmpX] at h
  | .int i, .dict _, h, _ => by simp [cmpX] at h
  | .str i, .none, h, _ => by simp [cmpX] at h
  | .str i, .bool _, h, _ => by simp [cmpX] at h
  | .str i, .int _, h, _ => by simp [cmpX] at h
  | .str i, .list _, h, _ => by simp [cmpX] at h
  | .str i, .tuple _, h, _ => by simp [cmpX] at h
  | .str i, .dict _, h, _ => by simp [cmpX] at h
  | .tuple i, .none, h, _ => by simp [cmpX] at h
  | .tuple i, .bool _, h, _ => by simp [cmpX] at h
  | .tuple i, .int _, h, _ => by simp [cmpX] at h
  | .tuple i, .str _, h, _ => by simp [cmpX] at h
  | .tuple i, .list _, h, _ => by simp [cmpX] at h
  | .tuple i, .dict _, h, _ => by simp [cmpX] at h
theorem cmpXs_yes : ∀ xs ys : List PyData, cmpXs xs ys = true → PyData.eqvAll xs ys = true → PySem.W.keyToksAll xs = PySem.W.keyToksAll ys
  | [], [], _, _ => rfl
  | [], _ :: _, _, e => by simp [PyData.eqvAll] at e
  | _ :: _, [], _, e => by simp [PyData.eqvAll] at e
  | x :: xs, y :: ys, h, e => by
    rw [PyData.eqvAll, Bool.and_eq_true] at e
    rw [cmpXs, Bool.and_eq_true, e.1] at h
    rw [PySem.W.toks_all_cons, PySem.W.toks_all_cons, cmpX_yes x y h.1 e.1, cmpXs_yes xs ys (by simpa using h.2) e.2]
end
mutual
theorem cmpX_no : ∀ x y : PyData, cmpX x y = true → PyData.eqv x y = false → ∀ R R', PyProof.Rows.lexLt itemOrd (PySem.W.keyToks x ++ R) (PySem.W.keyToks y ++ R') = PyProof.Rows.lexLt itemOrd (PySem.W.keyToks x) (PySem.W.keyToks y)
  | .tuple xs, .tuple ys, h, e, R, R' => by
    rw [PyData.eqv] at e
    rw [cmpX] at h
    rw [PySem.W.keyToks, PySem.W.keyToks]
    exact cmpXs_no xs ys h e R R'
  | .int i, .int j, _, e, R, R' => by
    rw [PyData.eqv] at e
    have hne : (Sum.inl i : Int ⊕ List Nat) ≠ .inl j := fun q => by
      have : i = j := by simpa using q
      rw [this] at e; simp at e
    rw [PySem.W.keyToks, PySem.W.keyToks]
    rw [List.cons_append, List.cons_append, lex_diff (O := itemOrd) hne, lex_diff (O := itemOrd) hne]
  | .str i, .str j, _, e, R, R' => by
    rw [PyData.eqv] at e
    have hne : (Sum.inr i.cps.toList : Int ⊕ List Nat) ≠ .inr j.cps.toList := fun q => by
      have : i = j := PySem.W.str_of_cps (by simpa using q)
      rw [this] at e; simp at e
    rw [PySem.W.keyToks, PySem.W.keyToks]
    rw [List.cons_append, List.cons_append, lex_diff (O := itemOrd) hne, lex_diff (O := itemOrd) hne]
  | .none, y, h, _, _, _ => by cases y <;> simp [cmpX] at h
  | .bool b, y, h, _, _, _ => by cases y <;> simp [cmpX] at h
  | .list b, y, h, _, _, _ => by cases y <;> simp [cmpX] at h
  | .dict b, y, h, _, _, _ => by cases y <;> simp [cmpX] at h
  | .int i, .none, h, _, _, _ => by simp [cmpX] at h
  | .int i, .bool _, h, _, _, _ => by simp [cmpX] at h
  | .int i, .str _, h, _, _, _ => by simp [cmpX] at h
  | .int i, .list _, h, _, _, _ => by simp [cmpX] at h
  | .int i, .tuple _, h, _, _, _ => by simp [cmpX] at h
  | .int i, .dict _, h, _, _, _ => by simp [cmpX] at h
  | .str i, .none, h, _, _, _ => by simp [cmpX] at h
  | .str i, .bool _, h, _, _, _ => by simp [cmpX] at h
  | .str i, .int _, h, _, _, _ => by simp [cmpX] at h
  | .str i, .list _, h, _, _, _ => by simp [cmpX] at h
  | .str i, .tuple _, h, _, _, _ => by simp [cmpX] at h
  | .str i, .dict _, h, _, _, _ => by simp [cmpX] at h
  | .tuple i, .none, h, _, _, _ => by simp [cmpX] at h
  | .tuple i, .bool _, h, _, _, _ => by simp [cmpX] at h
  | .tuple i, .int _, h, _, _, _ => by simp [cmpX] at h
  | .tuple i, .str _, h, _, _, _ => by simp [cmpX] at h
  | .tuple i, .list _, h, _, _, _ => by simp [cmpX] at h
  | .tuple i, .dict _, h, _, _, _ => by simp [cmpX] at h
theorem cmpXs_no : ∀ xs ys : List PyData, cmpXs xs ys = true → PyData.eqvAll xs ys = false → ∀ R R', PyProof.Rows.lexLt itemOrd (PySem.W.keyToksAll xs ++ R) (PySem.W.keyToksAll ys ++ R') = PyProof.Rows.lexLt itemOrd (PySem.W.keyToksAll xs) (PySem.W.keyToksAll ys)
  | [], [], _, e, _, _ => by simp [PyData.eqvAll] at e
  | [], y :: ys, _, _, R, R' => by
    rw [PySem.W.toks_all_cons, show PySem.W.keyToksAll [] = [Sum.inl 0] from by simp [PySem.W.keyToksAll]]
    rw [List.cons_append, List.cons_append, lex_diff (O := itemOrd) (by simp), lex_diff (O := itemOrd) (by simp)]
  | x :: xs, [], _, _, R, R' => by
    rw [PySem.W.toks_all_cons, show PySem.W.keyToksAll [] = [Sum.inl 0] from by simp [PySem.W.keyToksAll]]
    rw [List.cons_append, List.cons_append, lex_diff (O := itemOrd) (by simp), lex_diff (O := itemOrd) (by simp)]
  | x :: xs, y :: ys, h, e, R, R' => by
    rw [PyData.eqvAll] at e
    rw [cmpXs, Bool.and_eq_true] at h
    rw [PySem.W.toks_all_cons, PySem.W.toks_all_cons, List.cons_append, List.cons_append, lex_self (O := itemOrd), lex_self (O := itemOrd), List.append_assoc, List.append_assoc]
    cases hx : PyData.eqv x y with
    | true =>
      rw [hx] at e h
      rw [cmpX_yes x y h.1 hx, lex_app (O := itemOrd), lex_app (O := itemOrd)]
      exact cmpXs_no xs ys (by simpa using h.2) (by simpa using e) R R'
    | false => rw [cmpX_no x y h.1 hx, cmpX_no x y h.1 hx]
end
theorem roomX {n : Nat} {x y : PyData} {xs ys : List PyData} (h : n + min (PyData.depthAll (x :: xs)) (PyData.depthAll (y :: ys)) < cLine) : n + min x.depth y.depth < cLine ∧ n + min (PyData.depthAll xs) (PyData.depthAll ys) < cLine := by
  simp only [PyData.depthAll] at h
  constructor <;> omega
mutual
theorem rcLt_cmpX {s : Shared} : ∀ (x y : PyData) (A : Around) (a b : Value) (as bs : List Addr), Reads s.heap a x as → Reads s.heap b y bs → cmpX x y = true → x.plain = true → y.plain = true → A.units + min x.depth y.depth < cLine → SeqAt.RcLt A s a b (PySem.W.dataLt x y)
  | .tuple xs, .tuple ys, A, _, _, _, _, ra, rb, h, p1, p2, hu => by
    rw [cmpX] at h
    rw [PyData.plain] at p1 p2
    rw [PySem.W.dataLt_tuple]
    cases ra with
    | @tuple l o vs n _ _ h1 h2 h3 h4 =>
      cases rb with
      | @tuple l' o' vs' n' _ _ k1 k2 k3 k4 =>
        have hu2 := SeqAt.room_in hu
        have n1 : vs.size = xs.length := by simpa using SeqAt.ReadsAll.length _ _ _ h4
        have n2 : vs'.size = ys.length := by simpa using SeqAt.ReadsAll.length _ _ _ k4
        refine rcLt_tup ⟨o, h1, h2, h3⟩ ⟨o', k1, k2, k3⟩ (by omega) ?_
        rw [n1, n2]
        exact rcLexs xs ys A.in1 _ _ _ _ h4 k4 h p1 p2 hu2
  | .int i, .int j, A, _, _, _, _, ra, rb, _, _, _, hu => PySem.W.rcLt_alike _ _ A s _ _ _ _ ra rb (by simp [PySem.W.alike]) (by simp) hu
  | .str i, .str j, A, _, _, _, _, ra, rb, _, _, _, hu => PySem.W.rcLt_alike _ _ A s _ _ _ _ ra rb (by simp [PySem.W.alike]) (by simp) hu
  | .none, y, _, _, _, _, _, _, _, h, _, _, _ => by cases y <;> simp [cmpX] at h
  | .bool b, y, _, _, _, _, _, _, _, h, _, _, _ => by cases y <;> simp [cmpX] at h
  | .list b, y, _, _, _, _, _, _, _, h, _, _, _ => by cases y <;> simp [cmpX] at h
  | .dict b, y, _, _, _, _, _, _, _, h, _, _, _ => by cases y <;> simp [cmpX] at h
  | .int i, .none, _, _, _, _, _, _, _, h, _, _, _ => by simp [cmpX] at h
  | .int i, .bool _, _, _, _, _, _, _, _, h, _, _, _ => by simp [cmpX] at h
  | .int i, .str _, _, _, _, _, _, _, _, h, _, _, _ => by simp [cmpX] at h
  | .int i, .list _, _, _, _, _, _, _, _, h, _, _, _ => by simp [cmpX] at h
  | .int i, .tuple _, _, _, _, _, _, _, _, h, _, _, _ => by simp [cmpX] at h
  | .int i, .dict _, _, _, _, _, _, _, _, h, _, _, _ => by simp [cmpX] at h
  | .str i, .none, _, _, _, _, _, _, _, h, _, _, _ => by simp [cmpX] at h
  | .str i, .bool _, _, _, _, _, _, _, _, h, _, _, _ => by simp [cmpX] at h
  | .str i, .int _, _, _, _, _, _, _, _, h, _, _, _ => by simp [cmpX] at h
  | .str i, .list _, _, _, _, _, _, _, _, h, _, _, _ => by simp [cmpX] at h
  | .str i, .tuple _, _, _, _, _, _, _, _, h, _, _, _ => by simp [cmpX] at h
  | .str i, .dict _, _, _, _, _, _, _, _, h, _, _, _ => by simp [cmpX] at h
  | .tuple i, .none, _, _, _, _, _, _, _, h, _, _, _ => by simp [cmpX] at h
  | .tuple i, .bool _, _, _, _, _, _, _, _, h, _, _, _ => by simp [cmpX] at h
  | .tuple i, .int _, _, _, _, _, _, _, _, h, _, _, _ => by simp [cmpX] at h
  | .tuple i, .str _, _, _, _, _, _, _, _, h, _, _, _ => by simp [cmpX] at h
  | .tuple i, .list _, _, _, _, _, _, _, _, h, _, _, _ => by simp [cmpX] at h
  | .tuple i, .dict _, _, _, _, _, _, _, _, h, _, _, _ => by simp [cmpX] at h
theorem rcLexs {s : Shared} : ∀ (xs ys : List PyData) (A : Around) (vs ws : List Value) (as bs : List Addr), ReadsAll s.heap vs xs as → ReadsAll s.heap ws ys bs → cmpXs xs ys = true → PyData.plainAll xs = true → PyData.plainAll ys = true → A.units + min (PyData.depthAll xs) (PyData.depthAll ys) < cLine → LexP A s (vs.zip ws) (decide (xs.length < ys.length)) (PyProof.Rows.lexLt itemOrd (PySem.W.keyToksAll xs) (PySem.W.keyToksAll ys))
  | [], [], A, _, _, _, _, ra, rb, _, _, _, _ => by
    cases ra; cases rb
    show _ = _
    rw [lex_irrefl]; rfl
  | [], y :: ys, A, _, _, _, _, ra, rb, _, _, _, _ => by
    cases ra
    rw [List.zip_nil_left]
    show _ = _
    rw [PySem.W.toks_all_cons, show PySem.W.keyToksAll [] = [Sum.inl 0] from by simp [PySem.W.keyToksAll], lex_diff (O := itemOrd) (by simp)]
    simp [itemOrd, itemLt]
  | x :: xs, [], A, _, _, _, _, ra, rb, _, _, _, _ => by
    cases rb
    rw [List.zip_nil_right]
    show _ = _
    rw [PySem.W.toks_all_cons, show PySem.W.keyToksAll [] = [Sum.inl 0] from by simp [PySem.W.keyToksAll], lex_diff (O := itemOrd) (by simp)]
    simp [itemOrd, itemLt]
  | x :: xs, y :: ys, A, _, _, _, _, ra, rb, h, p1, p2, hu => by
    rw [cmpXs, Bool.and_eq_true] at h
    rw [PyData.plainAll, Bool.and_eq_true] at p1 p2
    obtain ⟨u1, u2⟩ := roomX hu
    cases ra with
    | cons r rs =>
      cases rb with
      | cons r' rs' =>
        rw [List.zip_cons_cons]
        have he := SeqAt.eqAt_plain x y A s _ _ _ _ r r' p1.1 p2.1 u1
        rw [PySem.W.toks_all_cons, PySem.W.toks_all_cons, lex_self (O := itemOrd)]
        cases hx : PyData.eqv x y with
        | true =>
          rw [hx] at he h
          rw [cmpX_yes x y h.1 hx, lex_app (O := itemOrd)]
          have := rcLexs xs ys A _ _ _ _ rs rs' (by simpa using h.2) p1.2 p2.2 u2
          refine .inl ⟨he, ?_⟩
          simpa only [List.length_cons, Nat.add_lt_add_iff_right] using this
        | false =>
          rw [hx] at he
          rw [cmpX_no x y h.1 hx]
          exact .inr ⟨he, rcLt_cmpX x y A _ _ _ _ r r' h.1 p1.1 p2.1 u1⟩
end
/-! ### rows of tuples that differ ahead of unlike parts -/
/-- the first parts that differ are alike -/
def cmpAll : List PyData → List PyData → Bool
  | [], _ => true
  | _ :: _, [] => true
  | x :: xs, y :: ys => (PySem.W.alike x y || (cmpX x y && PyData.plain x && PyData.plain y)) && (!PyData.eqv x y || cmpAll xs ys)
def cmpP : PyData → PyData → Bool
  | .tuple (x :: xs), .tuple (y :: ys) => cmpAll (x :: xs) (y :: ys)
  | _, _ => false
noncomputable def pdKind (h : Heap) (ds : List PyData) : PyProof.Rows.KeyKind where
  toKeyOrd := listOrd itemOrd
  keyOf v := open Classical in if q : ∃ d, d ∈ ds ∧ ∃ as, Reads h v d as then some (PySem.W.keyToks q.choose) else none
  dflt := ([] : List (Int ⊕ List Nat))
theorem pdKind_some {h : Heap} {ds : List PyData} {v : Value} {d : PyData} {as : List Addr} (hd : d ∈ ds) (r : Reads h v d as) : (pdKind h ds).keyOf v = some (PySem.W.keyToks d) := by
  have q : ∃ d, d ∈ ds ∧ ∃ as, Reads h v d as := ⟨d, hd, as, r⟩
  have e : (pdKind h ds).keyOf v = some (PySem.W.keyToks q.choose) := by
    show (open Classical in if q : ∃ d, d ∈ ds ∧ ∃ as, Reads h v d as then some (PySem.W.keyToks q.choose) else none) = _
    rw [dif_pos q]
  obtain ⟨h1, as', h2⟩ := q.choose_spec
  rw [e, (reads_det (fun _ _ h _ => h) r h2).1]
theorem pdKind_inv {h : Heap} {ds : List PyData} {v : Value} {k : List (Int ⊕ List Nat)} (e : (pdKind h ds).keyOf v = some k) : ∃ d as, d ∈ ds ∧ Reads h v d as ∧ k = PySem.W.keyToks d := by
  by_cases q : ∃ d, d ∈ ds ∧ ∃ as, Reads h v d as
  · have e' : (pdKind h ds).keyOf v = some (PySem.W.keyToks q.choose) := by
      show (open Classical in if q : ∃ d, d ∈ ds ∧ ∃ as, Reads h v d as then some (PySem.W.keyToks q.choose) else none) = _
      rw [dif_pos q]
    obtain ⟨h1, as', h2⟩ := q.choose_spec
    rw [e'] at e
    exact ⟨_, as', h1, h2, (Option.some.inj e).symm⟩
  · have e' : (pdKind h ds).keyOf v = none := by
      show (open Classical in if q : ∃ d, d ∈ ds ∧ ∃ as, Reads h v d as then some (PySem.W.keyToks q.choose) else none) = _
      rw [dif_neg q]
      rfl
    rw [e'] at e
    exact absurd e (by simp)
section
variable {prog : Program} {w : World} {A : Around} {s : Shared}
theorem roomH {n : Nat} {x y : PyData} {xs ys : List PyData} (h : n + min (PyData.depthAll (x :: xs)) (PyData.depthAll (y :: ys)) < cLine) : n + min x.depth y.depth < cLine ∧ n + min (PyData.depthAll xs) (PyData.depthAll ys) < cLine := by
  simp only [PyData.depthAll] at h
  constructor <;> omega
theorem katLex_cmp {b fin : Bool} {Q : Bool → Shared → Prop} : ∀ (xs ys : List PyData) (i : Nat) (vs ws : List Value) (as bs : List Addr), ReadsAll s.heap vs xs as → ReadsAll s.heap ws ys bs → cmpAll xs ys = true →
    A.units + min (PyData.depthAll xs) (PyData.depthAll ys) < cLine → (b = true → i = 0 → ∀ x r t, xs = x :: r → x ≠ .tuple t) → fin = decide (xs.length < ys.length) → Q (PyProof.Rows.lexLt itemOrd (PySem.W.keyToksAll xs) (PySem.W.keyToksAll ys)) s → PySem.W.KatLex prog w A b fin Q (vs.zip ws) i s
  | [], [], i, _, _, _, _, ra, rb, _, _, _, hf, hq => by
    cases ra
    cases rb
    have e : fin = false := by rw [hf]; rfl
    subst e
    rw [lex_irrefl] at hq
    exact PySem.W.kat_nil hq
  | [], y :: ys, i, _, _, _, _, ra, rb, _, _, _, hf, hq => by
    cases ra
    have e : fin = true := by rw [hf]; exact decide_eq_true (Nat.succ_pos _)
    subst e
    rw [PySem.W.toks_all_cons] at hq
    simp only [PySem.W.keyToksAll] at hq
    rw [lex_diff (O := itemOrd) (by simp)] at hq
    rw [List.zip_nil_left]
    exact PySem.W.kat_nil (by simpa [itemLt] using hq)
  | x :: xs, [], i, _, _, _, _, ra, rb, _, _, _, hf, hq => by
    cases rb
    have e : fin = false := by rw [hf]; exact decide_eq_false (Nat.not_lt_zero _)
    subst e
    rw [PySem.W.toks_all_cons] at hq
    simp only [PySem.W.keyToksAll] at hq
    rw [lex_diff (O := itemOrd) (by simp)] at hq
    rw [List.zip_nil_right]
    exact PySem.W.kat_nil (by simpa [itemLt] using hq)
  | x :: xs, y :: ys, i, _, _, _, _, ra, rb, h, hu, hb, hf, hq => by
    rw [cmpAll, Bool.and_eq_true] at h
    obtain ⟨h1, h2⟩ := h
    obtain ⟨u1, u2⟩ := roomH hu
    have hf' : fin = decide (xs.length < ys.length) := by
      rw [hf]
      simp only [List.length_cons, Nat.add_lt_add_iff_right]
    cases ra with
    | cons r rs =>
      cases rb with
      | cons r' rs' =>
        rw [List.zip_cons_cons]
        cases ha : PySem.W.alike x y with
        | true =>
          have h1 := ha
          refine PySem.W.kat_cons (PySem.W.eqAt_alike x y A s _ _ _ _ r r' h1 u1 prog w _ _ ?_)
          cases hx : PyData.eqv x y with
          | true =>
            rw [PySem.W.dataLt_all_yes h1 hx] at hq
            rw [hx] at h2
            exact PySem.W.kat_yes (katLex_cmp xs ys (i + 1) _ _ _ _ rs rs' (by simpa using h2) u2 (fun _ hi => absurd hi (Nat.succ_ne_zero i)) hf' hq)
          | false =>
            rw [PySem.W.dataLt_all_no h1 hx] at hq
            refine PySem.W.kat_no (PySem.W.oneLt_alike (fun hbi t => ?_) r r' h1 (PySem.W.ne_none_of h1 hx) u1 hq)
            rw [Bool.and_eq_true] at hbi
            exact hb hbi.1 (by simpa using hbi.2) x xs t rfl
        | false =>
          rw [ha, Bool.false_or, Bool.and_eq_true, Bool.and_eq_true] at h1
          obtain ⟨⟨h1, p1⟩, p2⟩ := h1
          refine PySem.W.kat_cons (SeqAt.eqAt_plain x y A s _ _ _ _ r r' p1 p2 u1 prog w _ _ ?_)
          rw [PySem.W.toks_all_cons, PySem.W.toks_all_cons, lex_self (O := itemOrd)] at hq
          cases hx : PyData.eqv x y with
          | true =>
            rw [cmpX_yes x y h1 hx, lex_app (O := itemOrd)] at hq
            rw [hx] at h2
            exact PySem.W.kat_yes (katLex_cmp xs ys (i + 1) _ _ _ _ rs rs' (by simpa using h2) u2 (fun _ hi => absurd hi (Nat.succ_ne_zero i)) hf' hq)
          | false =>
            rw [cmpX_no x y h1 hx] at hq
            have tup : ∃ t, x = .tuple t := by
              cases x <;> cases y <;> simp [cmpX, PySem.W.alike] at h1 ha ⊢
            have hbf : (b && i == 0) = false := by
              cases hbb : (b && i == 0) with
              | false => rfl
              | true =>
                rw [Bool.and_eq_true] at hbb
                obtain ⟨t, et⟩ := tup
                exact absurd et (hb hbb.1 (by simpa using hbb.2) x xs t rfl)
            refine PySem.W.kat_no ?_
            rw [hbf]
            exact oneLt_rc (rcLt_cmpX x y A _ _ _ _ r r' h1 p1 p2 u1) hq
theorem cmpP_ex {d d' : PyData} (h : cmpP d d' = true) : ∃ x xs y ys, d = .tuple (x :: xs) ∧ d' = .tuple (y :: ys) ∧ cmpAll (x :: xs) (y :: ys) = true := by
  unfold cmpP at h
  split at h
  · exact ⟨_, _, _, _, rfl, rfl, h⟩
  · cases h
theorem sortsAt_cmp {vs : List Value} {ds : List PyData} (e : PySem.W.EachIs (fun v d => ∃ as, Reads s.heap v d as) vs ds) (hc : ∀ d ∈ ds, ∀ d' ∈ ds, cmpP d d' = true) (hu : ∀ d, d ∈ ds → A.units + d.depth < cLine) : PySem.W.SortsAt prog w A s (pdKind s.heap ds) vs := by
  have room : ∀ {d d' : PyData}, d ∈ ds → A.units + min d.depth d'.depth < cLine := fun {d d'} hd => Nat.lt_of_le_of_lt (Nat.add_le_add_left (Nat.min_le_left _ _) _) (hu d hd)
  refine ⟨fun v hv => ?_, ?_⟩
  · obtain ⟨d, hd, as, r⟩ := e.left v hv
    exact ⟨_, pdKind_some hd r⟩
  · cases ds with
    | nil =>
      cases e
      exact ⟨general', fun E x y a b Q ha _ _ => (by
        obtain ⟨d, _, hd, _⟩ := pdKind_inv ha
        exact absurd hd (by simp)), fun h2 => absurd h2 (by simp)⟩
    | cons d₀ ds₀ =>
      obtain ⟨x₀, r₀, _, _, e₀, _, _⟩ := cmpP_ex (hc d₀ (List.mem_cons_self ..) d₀ (List.mem_cons_self ..))
      have ht : ∀ d ∈ d₀ :: ds₀, ∃ x r, d = .tuple (x :: r) := fun d hd => by
        obtain ⟨x, r, _, _, e, _, _⟩ := cmpP_ex (hc d hd d hd)
        exact ⟨x, r, e⟩
      have hfirst : ∀ x r, PyData.tuple (x :: r) ∈ d₀ :: ds₀ → PySem.W.dataType x = PySem.W.dataType x₀ := by
        intro x r hm
        obtain ⟨a, as, b, bs, e1, e2, h⟩ := cmpP_ex (hc _ hm d₀ (List.mem_cons_self ..))
        rw [e₀] at e2
        cases e1
        cases e2
        rw [cmpAll, Bool.and_eq_true, Bool.or_eq_true] at h
        rcases h.1 with h1 | h1
        · exact PySem.W.dataType_alike h1
        · rw [Bool.and_eq_true, Bool.and_eq_true] at h1
          have h1 := h1.1.1
          cases x <;> cases x₀ <;> simp [cmpX] at h1 <;> rfl
      refine ⟨tuples' (PySem.W.dataType x₀ != Value.type "tuple"), ?_, fun h2 E Q hq => ?_⟩
      · intro E x y a b Q ha hb hq
        obtain ⟨d, as, hd, ra, rfl⟩ := pdKind_inv ha
        obtain ⟨d', as', hd', rb, rfl⟩ := pdKind_inv hb
        have hroom := room (d' := d') hd
        obtain ⟨x1, r1, x2, r2, rfl, rfl, hdd⟩ := cmpP_ex (hc d hd d' hd')
        have hq' : Q (PySem.W.dataLt (.tuple (x1 :: r1)) (.tuple (x2 :: r2))) s := hq
        rw [PySem.W.dataLt_tuple] at hq'
        cases ra with
        | @tuple l o xs n _ _ h1 h2 h3 h4 =>
          cases rb with
          | @tuple l' o' xs' n' _ _ k1 k2 k3 k4 =>
            have n1 : xs.size = (x1 :: r1).length := by simpa using SeqAt.ReadsAll.length _ _ _ h4
            have n2 : xs'.size = (x2 :: r2).length := by simpa using SeqAt.ReadsAll.length _ _ _ k4
            refine PySem.W.kat_lt h1 h3 k1 k3 (katLex_cmp (x1 :: r1) (x2 :: r2) 0 _ _ _ _ h4 k4 hdd (by have q := SeqAt.room_in hroom; omega) (fun hb _ x r t ex => ?_) (by rw [n1, n2]) hq')
            obtain ⟨rfl, rfl⟩ := List.cons.inj ex
            have q := hfirst _ _ hd
            rw [← q] at hb
            exact PySem.W.dataType_tuple hb t
      · obtain ⟨fs, t1, t2, t3⟩ := PySem.W.each_katTups e ht
        refine PySem.W.kat_kind (T := PySem.W.dataType x₀) t1 (by omega) (fun f hf => ?_) (beq_self_eq_true _) hq
        obtain ⟨x, r, as, m1, m2⟩ := t3 f hf
        rw [← hfirst x r m1]
        exact PySem.W.looks_reads m2
end
theorem each_imp {α β : Type} {R S : α → β → Prop} (f : ∀ a b, R a b → S a b) : ∀ {as : List α} {bs : List β}, PySem.W.EachIs R as bs → PySem.W.EachIs S as bs
  | _, _, .nil => .nil
  | _, _, .cons h t => .cons (f _ _ h) (each_imp f t)
/-- rows that may be sorted: all alike, or tuples that differ ahead of unlike parts -/
def okCmp (ds : List D) : Bool := poks ds && ds.all (fun a => ds.all fun b => cmpP (pd a) (pd b)) && ds.all (fun d => decide (dep d ≤ 50)) && decide (ds.length ≤ sizeLine)
theorem okCmp_of {ds : List D} (h : okCmp ds = true) : poks ds = true ∧ (∀ d ∈ ds.map pd, ∀ d' ∈ ds.map pd, cmpP d d' = true) ∧ (∀ d ∈ ds, (pd d).depth ≤ 50) ∧ ds.length ≤ sizeLine := by
  simp only [okCmp, Bool.and_eq_true, decide_eq_true_eq, List.all_eq_true] at h
  obtain ⟨⟨⟨h1, h2⟩, h4⟩, h5⟩ := h
  refine ⟨h1, fun d hd d' hd' => ?_, fun d hd => by rw [pd_depth]; exact h4 d hd, h5⟩
  obtain ⟨a, ha, rfl⟩ := List.mem_map.mp hd
  obtain ⟨b, hb, rfl⟩ := List.mem_map.mp hd'
  exact h2 a ha b hb
section
variable {X : Cx} {C : Ct} {pins : List (Addr × Obj)} {σ : L2.St} {H : Hp} {s : Shared}
theorem sort_newC (I : Inv X pins σ H s) {A : Around} {E : Value → Shared → Prop} {Q : Value → Shared → Prop} (hu : A.units + 55 < cLine) {us : List Value} {ds : List D} (hs : PySem.W.EachIs (Stands X.K X.w H) us ds) (ok : okCmp ds = true)
    (q : ∀ ys h2, Rps X.K X.w H (sortD ds) ys → Inv X pins σ (upd H s.heap.objs.size (.lst ys)) { s with heap := h2 } → Q .none { s with heap := h2 }) :
    wpAny (model X.prog X.w) A (call (.builtin "list.sort") [.ref s.heap.objs.size]) Q E { s with heap := s.heap.push { cls := .type "list", data := .seq us.toArray } } := by
  obtain ⟨hp, hal, hd, hl⟩ := okCmp_of ok
  have lus : us.length = ds.length := hs.length
  have ho : (s.heap.push { cls := .type "list", data := .seq us.toArray }).get? s.heap.objs.size = some (seqObj "list" us.toArray 0) := Heap.get?_push_size _ rfl
  have kp : ∀ b o, s.heap.get? b = some o → (PySem.W.sortingHeap (s.heap.push { cls := .type "list", data := .seq us.toArray }) s.heap.objs.size us).get? b = some o := fun b o e =>
    PySem.W.sortingHeap_old (Nat.ne_of_lt (Heap.lt_size e)) (Heap.get?_push_of_some _ e)
  have er := reads_of I kp hp hs
  have er2 : PySem.W.EachIs (fun v d => ∃ as, Reads (PySem.W.sortingHeap (s.heap.push { cls := .type "list", data := .seq us.toArray }) s.heap.objs.size us) v d as) us (ds.map pd) := PySem.W.each_map (R := fun v d => ∃ as, Reads _ v d as) pd er
  refine wpAny_call_entry slot_list_sort ⟨_, ho, rfl⟩ entry_list_sort (PySem.W.list_sort_vals (s := { s with heap := s.heap.push { cls := .type "list", data := .seq us.toArray } }) (κ := pdKind (PySem.W.sortingHeap (s.heap.push { cls := .type "list", data := .seq us.toArray }) s.heap.objs.size us) (ds.map pd)) ho
    (sortsAt_cmp (s := { s with heap := PySem.W.sortingHeap (s.heap.push { cls := .type "list", data := .seq us.toArray }) s.heap.objs.size us }) er2 hal (PySem.W.bound_map fun b hb => ?_)) (by omega) ⟨.none, rfl, ?_⟩) (args_list_sort _)
  · have := hd b hb
    show A.units + 1 + _ < _
    omega
  · have ek : PySem.W.EachIs (fun v d => (pdKind (PySem.W.sortingHeap (s.heap.push { cls := .type "list", data := .seq us.toArray }) s.heap.objs.size us) (ds.map pd)).keyOf v = some (PySem.W.keyToks d)) us (ds.map pd) := by
      have := PySem.W.each_mem er2
      exact each_imp (fun v d ⟨⟨as, r⟩, hm⟩ => pdKind_some hm r) this
    have es := PySem.W.sortVals_each (κ := pdKind (PySem.W.sortingHeap (s.heap.push { cls := .type "list", data := .seq us.toArray }) s.heap.objs.size us) (ds.map pd)) (rev := false) (fun d => PySem.W.keyToks (pd d)) hs (PySem.W.each_of_map pd ek)
    obtain ⟨ys, r1, r2⟩ := of_stands es
    obtain ⟨ep, he⟩ := sortedHeap_at (vs := us) (out := (PySem.W.sortVals (pdKind (PySem.W.sortingHeap (s.heap.push { cls := .type "list", data := .seq us.toArray }) s.heap.objs.size us) (ds.map pd)) false us us).toArray) ho
    have ly : ys.length = ds.length := by rw [r2.length]; show (ds.mergeSort _).length = _; simp
    refine q ys _ r2 (I.laid (t' := s.toks) (fun b u e => ?_) (Nat.le_refl _) ⟨by omega, _, ep, r1, he⟩)
    rw [sortedHeap_old (Nat.ne_of_lt (Heap.lt_size e)) (by rw [Heap.size_push]; exact Nat.lt_succ_of_lt (Heap.lt_size e))]
    exact Heap.get?_push_of_some _ e
/-- a row that may be sorted, this way or that -/
def okSrt (ds : List D) : Bool := okSort ds || okCmp ds
theorem sort_newS (I : Inv X pins σ H s) {A : Around} {E : Value → Shared → Prop} {Q : Value → Shared → Prop} (hu : A.units + 55 < cLine) {us : List Value} {ds : List D} (hs : PySem.W.EachIs (Stands X.K X.w H) us ds) (ok : okSrt ds = true)
    (q : ∀ ys h2, Rps X.K X.w H (sortD ds) ys → Inv X pins σ (upd H s.heap.objs.size (.lst ys)) { s with heap := h2 } → Q .none { s with heap := h2 }) :
    wpAny (model X.prog X.w) A (call (.builtin "list.sort") [.ref s.heap.objs.size]) Q E { s with heap := s.heap.push { cls := .type "list", data := .seq us.toArray } } := by
  unfold okSrt at ok
  rw [Bool.or_eq_true] at ok
  rcases ok with ok | ok
  · exact sort_new I hu hs ok q
  · exact sort_newC I hu hs ok q
theorem okSrt_len {ds : List D} (ok : okSrt ds = true) : ds.length ≤ sizeLine := by
  unfold okSrt at ok
  rw [Bool.or_eq_true] at ok
  rcases ok with ok | ok
  · exact (okSort_of ok).2.2.2.2
  · exact (okCmp_of ok).2.2.2
/-- sorted(x), once the items are in a row; the row may be new -/
theorem sorted_ofS {v : Value} {ds : List D} {Q : VK} (hu : X.A.units + 64 < cLine) (ok : okSrt ds = true)
    (hc : ∀ (R : List Value → Shared → Prop) (E : Value → Shared → Prop), (∀ us s1 H1, Ext H H1 → Inv X pins σ H1 s1 → PySem.W.EachIs (Stands X.K X.w H1) us ds → R us s1) → wpAny (model X.prog X.w) X.A.in1 (collect v) R E s)
    (q : ∀ H1 p ys, Ext H H1 → H1 p = none → Rps X.K X.w H1 (sortD ds) ys → Q (.ref p) (upd H1 p (.lst ys))) : wpAny (model X.prog X.w) X.A (call (.builtin "sorted") [v]) (EP X pins σ Q) X.xe s := by
  refine Calls.call_function_entry PyProof.Rows.kind_sorted PyProof.Rows.plain_sorted PyProof.Rows.entry_sorted (PyProof.Rows.args_sorted1 _) ?_
  unfold Builtin.«sorted»
  refine wpAny_bind (m := checkCount "sorted" 1 1 _) (wpAny_pure ?_)
  refine wpAny_bind (hc _ _ fun us s1 H1 e1 I1 hs => ?_)
  have hl := okSrt_len ok
  refine wpAny_bind (wpAny_newList ?_ (by have := hs.length; omega))
  refine wpAny_bind (wpAny_holding (wpAny_mono (sort_newS (A := X.A.in1) (E := X.xe) (Q := fun _ s' => ∃ w, EP X pins σ Q w s' ∧ w = .ref s1.heap.objs.size) I1 (by show X.A.units + 1 + 55 < _; omega) hs ok fun ys h2 r I2 => ?_) (fun _ s' x => ?_) fun _ _ e => ?_))
  · exact ⟨_, ⟨.ref s1.heap.objs.size, _, I2, rfl, q _ _ ys e1 I1.fresh r⟩, rfl⟩
  · obtain ⟨w, x, rfl⟩ := x
    exact wpAny_pure ⟨_, rfl, x⟩
  · exact e
def rSortS (X : Cx) : List V → Hp → VK → Prop := fun xs H Q => ∃ v ds, xs = [v] ∧ Row X.K X.w H v ds ∧ okSrt ds = true ∧ ∀ H1 p ys, Ext H H1 → H1 p = none → Rps X.K X.w H1 (sortD ds) ys → Q (.ref p) (upd H1 p (.lst ys))
def fSortedS (A : AH) : List D → Option D
  | [d] => (rowOf A d).bind fun ds => if okSrt ds = true then some (.ml (sortD ds)) else none
  | _ => none
theorem call_sortedS (hc : X.calm = true) (hu : X.A.units + 64 < cLine) : CallR X (.builtin "sorted") (rSortS X) := by
  intro pins s σ H xs us Q I r h
  obtain ⟨v, ds, rfl, hR, ok, q⟩ := h
  obtain ⟨u, rfl, ru⟩ := vals1 r
  exact sorted_ofS hu ok (fun R E k => collect_row hc I hR ru R E fun us s1 I1 hs => k us s1 H (fun _ _ h => h) I1 hs) q
theorem ext_none {H H1 : Hp} {p : Addr} (e : Ext H H1) (h : H1 p = none) : H p = none := by
  cases q : H p with
  | none => rfl
  | some u => rw [e _ _ q] at h; cases h
theorem Gv.lst2 {K : PySem.W.Frag} {w : World} {H H1 : Hp} {ds : List D} {xs : List V} {p : Addr} (e : Ext H H1) (h : H1 p = none) (r : Rps K w H1 ds xs) : Gv K w H (upd H1 p (.lst xs)) (.ml ds) (.ref p) :=
  ⟨fun b o hb => ext_upd h _ _ (e _ _ hb), .inr ⟨p, .lst ds, ext_none e h, rfl, rfl, xs, upd_same, r.pers (.of_ext (ext_upd h))⟩⟩
theorem o_sortedS : OpN X C (rSortS X) fSortedS := fun z A σ H ds d xs Q r s h e q => by
  unfold fSortedS at e
  split at e
  · obtain ⟨v, rfl, hb⟩ := h.one
    rename_i d0
    cases hr : rowOf A d0 with
    | none => rw [hr] at e; cases e
    | some row =>
      rw [hr] at e
      simp only [Option.bind_some] at e
      split at e
      · rename_i ok
        cases e
        exact ⟨v, row, rfl, hb.row r s hr, ok, fun H1 p ys e1 hp hy => q _ _ (.lst2 e1 hp hy)⟩
      · cases e
  · cases e
/-! sorted(d.items()) -/
def rSortIS (X : Cx) : List V → Hp → VK → Prop := fun xs H Q => ∃ r a kvs, xs = [.ref r] ∧ H r = some (VI r a) ∧ DtR X.K X.w H a kvs ∧ okSrt (entsD kvs) = true ∧ ∀ H1 p ys, Ext H H1 → H1 p = none → Rps X.K X.w H1 (sortD (entsD kvs)) ys → Q (.ref p) (upd H1 p (.lst ys))
theorem call_sortIS (hc : X.calm = true) (hu : X.A.units + 64 < cLine) : CallR X (.builtin "sorted") (rSortIS X) := by
  intro pins s σ H xs us Q I r h
  obtain ⟨v, a, kvs, rfl, hv, hD, ok, q⟩ := h
  obtain ⟨u, rfl, ru⟩ := vals1 r
  cases ru
  obtain ⟨arr, ep, es, hm, lo, hz, hz2, ea, er⟩ := raw_of I hD
  have hV : s.heap.IsItemsView v a := (show ObjOk X.prog X.w H s.heap v (.ext _) from I.hok v _ hv).1
  refine sorted_ofS hu ok (fun R E k => ?_) q
  refine PySem.W.dil_collect (I.ok.hd hc) hV hm hz2 fun h' tk as kp hl g => ?_
  obtain ⟨H1, e1, I1, st⟩ := items_stand (tk := tk) I ea er hz kp hl g (Nat.le_refl _)
  exact k _ _ H1 e1 I1 st
def fSortIS (A : AH) (d : D) : Option D := match vw A d with
  | .dct kvs => if okSrt (entsD kvs) = true then some (.ml (sortD (entsD kvs))) else none
  | _ => none
variable {o : Expr} {t : TE3} {apos cpos p pos : Pos}
theorem pe3_sortIS (hc : X.calm = true) (hu : X.A.units + 64 < cLine) (hg : Gl X "sorted") (hm : X.mg "sorted" = none) (ho : PB3 X C o t) (hbase : attributeBase o "items" X.env (eval o X.env) = eval o X.env := by rfl) (hline : (apos.endLine == cpos.line) = true := by rfl)
    (he : starEach [.Call (.Attribute o "items" apos) [] [] cpos] X.env = (false, eval (.Call (.Attribute o "items" apos) [] [] cpos) X.env) :: starEach [] X.env := by rfl) (hpl : (backTo pos (starEach [] X.env)).any (·.1) = false := by rfl) :
    PE3 X C (.Call (.Name "sorted" p) [.Call (.Attribute o "items" apos) [] [] cpos] [] pos) (T3.e1 fSortIS t) :=
  PE.imp (pe_callB (call_sortIS hc hu) hg hm (by decide +kernel) (pa_cons (pe_bw0 F.plainAttrs_dict F.slot_dict_items F.type_dict_items mt_items ho hbase hline) pa_nil he) (by decide) (by decide) he hpl) fun σ H Q hq => by
    obtain ⟨z, A, Q3, r, s, q, f⟩ := hq
    refine ⟨z, A, _, r, s, q, fun d A' v H' q' r' s' p' t' => ?_⟩
    obtain ⟨d', hd, q2⟩ := q'
    unfold fSortIS at hd
    split at hd
    · rename_i kvs e1
      split at hd
      · rename_i ok
        cases hd
        obtain ⟨a, rfl, hD⟩ := t'.dict r' s' e1
        refine ⟨tyOk_dict hD, a, kvs, rfl, rfl, hD, fun w hw => ⟨w, a, kvs, rfl, upd_same, hD.upd hw, ok, fun H1 l ys e1' hl hy => ?_⟩⟩
        have e2 : Ext H' H1 := fun b o hb => e1' _ _ (ext_upd hw _ _ hb)
        exact low.gv (r'.ext e2) (s'.ext e2) f (p'.trans (.of_ext e2)) q2 (.lst hl hy)
      · cases hd
    · cases hd
end
end T3
set_option autoImplicit false
namespace T3
open PySem PySem.Spec PyProof.Rows L2

/-! ### programs as functions: what a run from an abstract heap must give -/
/-- a program that gives a β: the heap, the wish of a value, the wish of an exception -/
abbrev W (β : Type) := AH → (β → AH → Prop) → X3 → Prop
inductive Fl (σ : Type) where
  | nx (s : σ) | bk (s : σ) | rt (d : D)
namespace W
variable {α β γ σ : Type}
def ok (b : β) : W β := fun A Q _ => Q b A
def bind (w : W α) (k : α → W β) : W β := fun A Q E => w A (fun b A' => k b A' Q E) E
def bad : W β := fun _ _ _ => False
def op (f : AH → Option D) : W D := fun A Q _ => ∃ d, f A = some d ∧ Q d A
def op1 (f : AH → D → Option D) (a : D) : W D := op fun A => f A a
def op2 (f : AH → D → D → Option D) (a b : D) : W D := op fun A => f A a b
def opN (f : AH → List D → Option D) (ds : List D) : W D := op fun A => f A ds
def opM (f : AH → D → List D → Option D) (o : D) (ds : List D) : W D := op fun A => f A o ds
def chk (p : AH → Bool) : W Unit := fun A Q _ => p A = true ∧ Q () A
def rd (d : D) : W D := if own d = true then bad else ok d
/-- a truth -/
def tst (d : D) : W Bool := fun A Q _ => ∃ b, d = .bl b ∧ Q b A
def fzW (r : W D) : W D := bind r fun d => ok (frz d)
def b1 (f : AH → D → Option D) (ra : W D) : W D := bind ra fun a => op1 f a
def b2 (f : AH → D → D → Option D) (ra rb : W D) : W D := bind ra fun a => bind rb fun b => op2 f a b
def b3 (f g : AH → D → D → Option D) (ra rb rc : W D) : W D := bind ra fun a => bind rb fun b => bind (op2 f a b) fun p => bind (tst p) fun p => if p = true then bind rc fun c => op2 g b c else ok (.bl false)
def anil : W (List D) := ok []
def acons (ra : W D) (rA : W (List D)) : W (List D) := bind ra fun a => bind rA fun ds => ok (a :: ds)
def bN (f : AH → List D → Option D) (rA : W (List D)) : W D := bind rA fun ds => opN f ds
def bM (k : AH → D → Bool) (f : AH → D → List D → Option D) (ra : W D) (rA : W (List D)) : W D := bind ra fun o => bind (chk fun A => k A o) fun _ => bind rA fun ds => opM f o ds
def tT (ra : W D) : W Bool := bind ra tst
def oN : W (Option Int) := ok none
/-- nothing is raised -/
def safe (w : W α) : W α := fun A Q _ => w A Q fun _ _ _ => False
def andE (t u : W D) : W D := bind t fun d => bind (tst d) fun b => if b = true then u else ok (.bl false)
def orE (t u : W D) : W D := bind t fun d => bind (tst d) fun b => if b = true then ok (.bl true) else u
def notE (t : W D) : W D := bind t fun d => bind (tst d) fun b => ok (.bl (!b))
def andT (t u : W Bool) : W Bool := bind t fun b => if b = true then u else ok false
def orT (t u : W Bool) : W Bool := bind t fun b => if b = true then ok true else u
def notT (t : W Bool) : W Bool := bind t fun b => ok (!b)
def ite (t : W Bool) (u v : W β) : W β := bind t fun b => if b = true then u else v
def tupW (ds : List D) : W D := if ds.length ≤ sizeLine then ok (.tup ds) else bad
def lstW (ds : List D) : W D := if ds.length ≤ sizeLine then ok (.ml ds) else bad
def slW (d : D) (lo hi : Option Int) : W D := op fun A => fSl A d lo hi
/-- a whole number -/
def asI (d : D) : W (Option Int) := fun A Q _ => ∃ i, d = .int i ∧ Q (some i) A
/-- a list or dict of this def's own gets a reference -/
def share (d : D) : W D := match obOf d with
  | none => ok d
  | some ob => fun A Q _ => ∀ a, A a = none → Q (.ref a) (put A a ob)
def oA (ra : W D) : W (Option Int) := bind ra asI
def bS (ra : W D) (rl rh : W (Option Int)) : W D := bind ra fun d => bind rl fun lo => bind rh fun hi => slW d lo hi
def tupA (rA : W (List D)) : W D := bind rA tupW
def lstA (rA : W (List D)) : W D := bind rA lstW
/-- .. that must be one -/
def shareX (d : D) : W D := fun A Q _ => ∃ ob, obOf d = some ob ∧ ∀ a, A a = none → Q (.ref a) (put A a ob)
/-- a method that changes the thing at a reference -/
def mr (k : Ob → Bool) (g : Ob → List D → Option (Ob × D)) (o : D) (ra : W (List D)) : W D := fun A Q E => ∃ a ob, o = .ref a ∧ A a = some ob ∧ k ob = true ∧
  ra A (fun ds A2 => ∃ ob1 ob' d, A2 a = some ob1 ∧ g ob1 ds = some (ob', d) ∧ Q d (put A2 a ob')) E
def bR (k : Ob → Bool) (g : Ob → List D → Option (Ob × D)) (ra : W D) (rA : W (List D)) : W D := bind ra fun o => mr k g o rA
/-- a method that changes a local list or dict: what it is then -/
def mu (k : Ob → Bool) (g : Ob → List D → Option (Ob × D)) (o : D) (ra : W (List D)) : W D := fun A Q E => ∃ ob, obOf o = some ob ∧ k ob = true ∧
  ra A (fun ds A2 => ∃ ob' d, g ob ds = some (ob', d) ∧ obOf (dOf ob') = some ob' ∧ Q (dOf ob') A2) E
/-- o[k] = v -/
def pt (g : Ob → D → D → Option Ob) (o k v : D) : W D := fun A Q _ => ∃ ob ob', obOf o = some ob ∧ g ob (frz k) (frz v) = some ob' ∧ obOf (dOf ob') = some ob' ∧ Q (dOf ob') A
def ptR (g : Ob → D → D → Option Ob) (o k v : D) : W Unit := fun A Q _ => ∃ a ob ob', frz o = .ref a ∧ A a = some ob ∧ g ob (frz k) (frz v) = some ob' ∧ Q () (put A a ob')
def un {δ : Type} (pt : D → Option δ) (d : D) (k : δ → W β) : W β := fun A Q E => ∃ y, pt d = some y ∧ k y A Q E
def int1 (d : D) : W Int := fun A Q _ => ∃ i, d = .int i ∧ Q i A
/-! what is walked -/
abbrev It := List D × Ws
def itS (d : D) : W It := fun A Q _ => withItems (itemsW A (frz d)) fun xs ws => Q (xs, ws) A
def itR1 (j : D) : W It := fun A Q _ => ∃ i, j = .int i ∧ small62 i ∧ Q (rng 0 i.toNat, []) A
def itR2 (a b : D) : W It := fun A Q _ => ∃ i j, a = .int i ∧ b = .int j ∧ small62 i ∧ small62 j ∧ Q (rng i (j - i).toNat, []) A
def itZ (a b : D) : W It := fun A Q _ => zipI A (fun xs ws A' => Q (xs, ws) A') a b
def itE (d : D) : W It := fun A Q _ => withItems (listW A d) fun xs ws => Q (enumD 0 xs, ws) A
def itRv (d : D) : W It := fun A Q _ => (∃ xs, frz d = .tup xs ∧ Q (xs.reverse, []) A) ∨ withItems (listW A (frz d)) fun xs ws => Q (xs.reverse, ws) A
def iS (ra : W D) : W It := bind ra itS
def iR1 (ra : W D) : W It := bind ra itR1
def iR2 (ra rb : W D) : W It := bind ra fun a => bind rb fun b => itR2 a b
def iZ (ra rb : W D) : W It := bind ra fun a => bind rb fun b => itZ a b
def iE (ra : W D) : W It := bind ra itE
def iRv (ra : W D) : W It := bind ra itRv
def itIt (d : D) : W It := fun A Q _ => ∃ kvs, frz d = .dct kvs ∧ Q (entsD kvs, []) A
def iIt (ra : W D) : W It := bind ra itIt
def dict1 (d : D) (b : Bool) : W D := if own d = false ∧ kfit d = true then ok (.md [(d, .bl b)]) else bad
/-- the last of a local list: the list without it, and it -/
def popW (d : D) : W (D × D) := fun A Q _ => ∃ xs x, d = .ml xs ∧ xs[xs.length - 1]? = some x ∧ Q (.ml xs.dropLast, x) A
/-- let go -/
def letW (d : D) : W D := fun A Q _ => ∃ a ob, d = .ref a ∧ A a = some ob ∧ obOf (dOf ob) = some ob ∧ Q (frz (dOf ob)) (delA A a)
def held (ws : Ws) : W Unit := fun A Q _ => Held A ws ∧ Q () A
def each {δ : Type} (ws : Ws) (pt : D → Option δ) (body : σ → δ → W σ) : List D → σ → W σ
  | [], s => bind (held ws) fun _ => ok s
  | x :: xs, s => bind (held ws) fun _ => match pt x with
    | some y => bind (body s y) fun s' => each ws pt body xs s'
    | none => bad
def loop {δ : Type} (ws : Ws) (pt : D → Option δ) (body : σ → δ → W (Fl σ)) : List D → σ → W (Fl σ)
  | [], s => bind (held ws) fun _ => ok (.nx s)
  | x :: xs, s => bind (held ws) fun _ => match pt x with
    | some y => bind (body s y) fun r => match r with
      | .nx s' => loop ws pt body xs s'
      | .bk s' => ok (.nx s')
      | .rt d => ok (.rt d)
    | none => bad
def comp {δ : Type} (ws : Ws) (pt : D → Option δ) (tt : δ → W Bool) (te : δ → W D) : List D → List D → W D
  | [], acc => bind (held ws) fun _ => ok (.ml acc)
  | x :: xs, acc => bind (held ws) fun _ => match pt x with
    | some y => bind (tt y) fun b => if b = true then bind (te y) fun d => if acc.length < sizeLine then comp ws pt tt te xs (acc ++ [frz d]) else bad else comp ws pt tt te xs acc
    | none => bad
/-! patterns -/
def p1 : D → Option D := some
def p2 : D → Option (D × D)
  | .tup [a, b] => some (a, b) | _ => none
def p3 : D → Option (D × D × D)
  | .tup [a, b, c] => some (a, b, c) | _ => none
def p4 : D → Option (D × D × D × D)
  | .tup [a, b, c, d] => some (a, b, c, d) | _ => none
def p5 : D → Option (D × D × D × D × D)
  | .tup [a, b, c, d, e] => some (a, b, c, d, e) | _ => none
def p6 : D → Option (D × D × D × D × D × D)
  | .tup [a, b, c, d, e, f] => some (a, b, c, d, e, f) | _ => none
def lc {δ : Type} (ri : W It) (pt : D → Option δ) (tt : δ → W Bool) (te : δ → W D) : W D := bind ri fun it => comp it.2 pt tt te it.1 []
/-- behind a loop or an if with ways out -/
def out (R : D → W β) (k : σ → W β) : Fl σ → W β
  | .nx s => k s | .bk _ => bad | .rt d => R d

/-! laws -/
@[simp] theorem ok_bind (a : α) (k : α → W β) : bind (ok a) k = k a := (rfl)
@[simp] theorem bad_bind (k : α → W β) : bind bad k = bad := (rfl)
end W

/-! ### a reading keeps a program -/
section
variable (E : X3)
def JE (t : TE3) (z : S3) (r : W D) : Prop := ∀ A Q Q', r A Q E → (∀ d A', Q d A' → Q' d A') → t z A Q'
def JT (t : TT3) (z : S3) (r : W Bool) : Prop := ∀ A Q Q', r A Q E → (∀ d A', Q d A' → Q' d A') → t z A Q'
def JA (t : TA3) (z : S3) (r : W (List D)) : Prop := ∀ A Q Q', r A Q E → (∀ d A', Q d A' → Q' d A') → t z A Q'
def JO (t : TO3) (z : S3) (r : W (Option Int)) : Prop := ∀ A Q Q', r A Q E → (∀ d A', Q d A' → Q' d A') → t z A Q'
def JI (t : TI3) (z : S3) (r : W W.It) : Prop := ∀ A (Q : W.It → AH → Prop) (Q' : List D → Ws → AH → Prop), r A Q E → (∀ x A', Q x A' → Q' x.1 x.2 A') → t z A Q'
def JS {β : Type} (t : TS3) (z : S3) (r : W β) (N B C : S3 → W β → Prop) (R : D → W β) : Prop := ∀ (K : Ends3) A Q,
  (∀ z' r' A', N z' r' → r' A' Q E → K.nx z' A') → (∀ z' r' A', B z' r' → r' A' Q E → K.bk z' A') → (∀ z' r' A', C z' r' → r' A' Q E → K.ct z' A') →
  (∀ d A', R d A' Q E → K.rt d A') → r A Q E → t K z A
end
section
variable {E : X3} {z : S3}
open W
theorem je_v {i : Nat} {v : D} (h : z[i]? = some (some v)) : JE E (eV i) z (rd v) := fun A Q Q' q m => by
  unfold rd at q
  split at q
  · exact q.elim
  · rename_i n; exact ⟨v, h, by simpa using n, m _ _ q⟩
theorem je_b {i : Nat} {v : D} (h : z[i]? = some (some v)) : JE E (eB i) z (ok (frz v)) := fun A Q Q' q m => ⟨v, h, m _ _ q⟩
theorem je_c {d : D} : JE E (eC d) z (ok d) := fun A Q Q' q m => m _ _ q
theorem je_dnew : JE E eDNew z (ok (.md [])) := fun A Q Q' q m => m _ _ q
variable {ta tb tc : TE3} {ra rb rc : W D} {tA : TA3} {rA : W (List D)}
theorem je_fz (h : JE E ta z ra) : JE E (fz ta) z (fzW ra) := fun A Q Q' q m => h A _ _ q fun d A' q' => m _ _ q'
theorem op_im {f : AH → Option D} {A : AH} {Q Q' : D → AH → Prop} (q : op f A Q E) (m : ∀ d A', Q d A' → Q' d A') : ∃ d, f A = some d ∧ Q' d A := by
  obtain ⟨d, h, q⟩ := q
  exact ⟨d, h, m _ _ q⟩
theorem je_e1 {f : AH → D → Option D} (h : JE E ta z ra) : JE E (T3.e1 f ta) z (b1 f ra) := fun A Q Q' q m => h A _ _ q fun d A' q' => op_im q' m
theorem je_e2 {f : AH → D → D → Option D} (h : JE E ta z ra) (h' : JE E tb z rb) : JE E (T3.e2 f ta tb) z (b2 f ra rb) :=
  fun A Q Q' q m => h A _ _ q fun d A' q' => h' A' _ _ q' fun d2 A2 q2 => op_im q2 m
theorem ja_nil : JA E aNil z anil := fun A Q Q' q m => m _ _ q
theorem ja_cons (h : JE E ta z ra) (h' : JA E tA z rA) : JA E (aCons ta tA) z (acons ra rA) := fun A Q Q' q m => h A _ _ q fun d A' q' => h' A' _ _ q' fun ds A2 q2 => m _ _ q2
theorem je_eN {f : AH → List D → Option D} (h : JA E tA z rA) : JE E (eN f tA) z (bN f rA) := fun A Q Q' q m => h A _ _ q fun ds A' q' => op_im q' m
theorem je_tup (h : JA E tA z rA) : JE E (eTup tA) z (tupA rA) := fun A Q Q' q m => h A _ _ q fun ds A' q' => by
  unfold tupW at q'
  split at q'
  · rename_i n; exact ⟨n, m _ _ q'⟩
  · exact q'.elim
theorem je_lst (h : JA E tA z rA) : JE E (eLst tA) z (lstA rA) := fun A Q Q' q m => h A _ _ q fun ds A' q' => by
  unfold lstW at q'
  split at q'
  · rename_i n; exact ⟨n, m _ _ q'⟩
  · exact q'.elim
theorem je_eM {k : AH → D → Bool} {f : AH → D → List D → Option D} (h : JE E ta z ra) (h' : JA E tA z rA) : JE E (eM k f ta tA) z (bM k f ra rA) :=
  fun A Q Q' q m => h A _ _ q fun o A' q' => ⟨q'.1, h' A' _ _ q'.2 fun ds A2 q2 => op_im q2 m⟩
theorem je_eMR {k : Ob → Bool} {g : Ob → List D → Option (Ob × D)} (h : JE E ta z ra) (h' : JA E tA z rA) : JE E (eMR k g ta tA) z (bR k g ra rA) :=
  fun A Q Q' q m => h A _ _ q fun o A' ⟨a, ob, e, ea, ek, q'⟩ => ⟨a, ob, e, ea, ek, h' A' _ _ q' fun ds A2 ⟨ob1, ob', d, h1, h2, q2⟩ => ⟨ob1, ob', d, h1, h2, m _ _ q2⟩⟩
theorem je_and (h : JE E ta z ra) (h' : JE E tb z rb) : JE E (eAnd ta tb) z (andE ra rb) := fun A Q Q' q m => h A _ _ q fun d A' ⟨b, e, q'⟩ => ⟨b, e, by
  cases b with
  | true => exact h' A' _ _ q' m
  | false => exact m _ _ q'⟩
theorem je_not (h : JE E ta z ra) : JE E (eNot ta) z (notE ra) := fun A Q Q' q m => h A _ _ q fun d A' ⟨b, e, q'⟩ => ⟨b, e, m _ _ q'⟩
variable {uT vT : TT3} {ru rv : W Bool}
theorem jt_val (h : JE E ta z ra) : JT E (tV ta) z (tT ra) := fun A Q Q' q m => h A _ _ q fun d A' ⟨b, e, q'⟩ => ⟨b, e, m _ _ q'⟩
theorem jt_not (h : JT E uT z ru) : JT E (tNot3 uT) z (notT ru) := fun A Q Q' q m => h A _ _ q fun b A' q' => m _ _ q'
theorem jt_and (h : JT E uT z ru) (h' : JT E vT z rv) : JT E (tAnd3 uT vT) z (andT ru rv) := fun A Q Q' q m => h A _ _ q fun b A' q' => by
  cases b with
  | true => exact h' A' _ _ q' m
  | false => exact m _ _ q'
theorem jt_or (h : JT E uT z ru) (h' : JT E vT z rv) : JT E (tOr3 uT vT) z (orT ru rv) := fun A Q Q' q m => h A _ _ q fun b A' q' => by
  cases b with
  | false => exact h' A' _ _ q' m
  | true => exact m _ _ q'
theorem jt_yes : JT E tYes3 z (ok true) := fun A Q Q' q m => m _ _ q
variable {oL oH : TO3} {rL rH : W (Option Int)}
theorem jo_no : JO E oNo z oN := fun A Q Q' q m => m _ _ q
theorem jo_at (h : JE E ta z ra) : JO E (oAt ta) z (oA ra) := fun A Q Q' q m => h A _ _ q fun d A' ⟨i, e, q'⟩ => ⟨i, e, m _ _ q'⟩
theorem je_sl (h : JE E ta z ra) (h1 : JO E oL z rL) (h2 : JO E oH z rH) : JE E (eSl ta oL oH) z (bS ra rL rH) :=
  fun A Q Q' q m => h A _ _ q fun d A1 q1 => h1 A1 _ _ q1 fun lo A2 q2 => h2 A2 _ _ q2 fun hi A3 q3 => op_im q3 m
theorem je_fzv {i : Nat} {v : D} (h : z[i]? = some (some v)) : JE E (fz (eV i)) z (rd v) := fun A Q Q' q m => by
  unfold rd at q
  split at q
  · exact q.elim
  · rename_i n
    have n' : own v = false := by simpa using n
    refine ⟨v, h, n', ?_⟩
    show Q' (frz v) A
    rw [frz_of n']; exact m _ _ q
theorem je_fzc {d : D} : JE E (fz (eC d)) z (ok (frz d)) := fun A Q Q' q m => m _ _ q
/-! comprehensions -/
variable {ti : TI3} {ri : W W.It}
/-- an item is laid out by the pattern -/
def PatOk {δ : Type} (p : Pat) (pt : D → Option δ) (z : S3) (zx : δ → S3) : Prop := ∀ x y, pt x = some y → setP p x z = some (zx y)
theorem pk1 {i : Nat} : PatOk (.nm i) p1 z fun y => z.set i (some y) := fun x y h => by cases h; rfl
theorem pk2 {i j : Nat} : PatOk (.tp [i, j]) p2 z fun y => (z.set i (some y.1)).set j (some y.2) := fun x y h => by
  unfold p2 at h
  split at h
  · cases h; rfl
  · cases h
theorem pk3 {i j k : Nat} : PatOk (.tp [i, j, k]) p3 z fun y => ((z.set i (some y.1)).set j (some y.2.1)).set k (some y.2.2) := fun x y h => by
  unfold p3 at h
  split at h
  · cases h; rfl
  · cases h
theorem pk4 {i j k l : Nat} : PatOk (.tp [i, j, k, l]) p4 z fun y => (((z.set i (some y.1)).set j (some y.2.1)).set k (some y.2.2.1)).set l (some y.2.2.2) := fun x y h => by
  unfold p4 at h
  split at h
  · cases h; rfl
  · cases h
theorem nn0 {z : S3} {vs : List Nat} (h : vs.all (fun i => (z[i]?).join.isNone) = true) : ∀ i ∈ vs, ∀ d, z[i]? = some (some d) → own d = false := fun i hi d e => by
  have q := List.all_eq_true.mp h i hi
  rw [e] at q; simp at q
theorem je_lc {δ : Type} {p : Pat} {pt : D → Option δ} {tt : TT3} {te : TE3} {vs : List Nat} {rt : δ → W Bool} {re : δ → W D} (zx : δ → S3) (hn : ∀ i ∈ vs, ∀ d, z[i]? = some (some d) → own d = false) (h : JI E ti z ri)
    (hp : PatOk p pt (wipe3 z vs) zx) (ht : ∀ y, JT E tt (zx y) (rt y)) (he : ∀ y, JE E te (zx y) (re y)) :
    JE E (eLc ti p tt te vs) z (lc ri pt rt re) := fun A Q Q' q m => ⟨hn, h A _ _ q fun it A' q' => by
  obtain ⟨xs, ws⟩ := it
  dsimp only at q' ⊢
  generalize ([] : List D) = acc at q' ⊢
  induction xs generalizing A' acc with
  | nil => exact ⟨q'.1, m _ _ q'.2⟩
  | cons x xs ih =>
    refine ⟨q'.1, ?_⟩
    have q2 := q'.2
    cases hx : pt x with
    | none => rw [hx] at q2; exact q2.elim
    | some y =>
      rw [hx] at q2
      refine ⟨zx y, hp x y hx, ht y A' _ _ q2 fun b A1 q3 => ?_⟩
      cases b with
      | false => exact ih A1 acc q3
      | true =>
        refine he y A1 _ _ q3 fun d A2 q4 => ?_
        dsimp only at q4
        by_cases hl : acc.length < sizeLine
        · rw [if_pos hl] at q4; exact ⟨hl, ih A2 _ q4⟩
        · rw [if_neg hl] at q4; exact q4.elim⟩
/-! what is walked -/
theorem with_im {o : Option (List D × Ws)} {k k' : List D → Ws → Prop} (h : withItems o k) (m : ∀ xs ws, k xs ws → k' xs ws) : withItems o k' := by
  match o, h with
  | some (xs, ws), h => exact m xs ws h
theorem ji_s (h : JE E ta z ra) : JI E (T3.iS ta) z (W.iS ra) := fun A Q Q' q m => h A _ _ q fun d A' q' => with_im q' fun xs ws q2 => m _ _ q2
theorem ji_r1 (h : JE E ta z ra) : JI E (T3.iR1 (aCons ta aNil)) z (W.iR1 ra) := fun A Q Q' q m => h A _ _ q fun d A' ⟨i, e, hi, q'⟩ => ⟨i, by rw [e], hi, m _ _ q'⟩
theorem ji_z (h : JE E ta z ra) (h' : JE E tb z rb) : JI E (iZp (aCons ta (aCons tb aNil))) z (iZ ra rb) := fun A Q Q' q m => h A _ _ q fun d A1 q1 => h' A1 _ _ q1 fun d2 A2 q' => by
  show zipI A2 Q' d d2
  have q2 : zipI A2 (fun xs ws A' => Q (xs, ws) A') d d2 := q'
  unfold zipI at q2 ⊢
  split at q2
  · exact m _ _ q2
  · exact with_im q2 fun xs w1 q3 => with_im q3 fun ys w2 q4 => m _ _ q4
end

section
variable {E : X3} {z : S3}
open W
theorem je_sh {ta : TE3} {ra : W D} (h : JE E ta z ra) : JE E (eSh ta) z (bind ra shareX) := fun A Q Q' q m => h A _ _ q fun d A' ⟨ob, e, q'⟩ => ⟨ob, e, fun a ha => m _ _ (q' a ha)⟩
end

/-! statements -/
section
variable {E : X3} {z : S3} {β σ : Type} {N B C : S3 → W β → Prop} {R : D → W β} {r : W β} {t u v : TS3} {ta tb : TE3} {ra rb : W D} {tA : TA3} {rA : W (List D)} {uT : TT3} {ru : W Bool} {k : D → W β}
open W
theorem js_assoc (h : JS E (sSeq t (sSeq u v)) z r N B C R) : JS E (sSeq (sSeq t u) v) z r N B C R := h
theorem js_nilseq (h : JS E u z r N B C R) : JS E (sSeq sNil u) z r N B C R := h
theorem js_nil (h : N z r) : JS E sNil z r N B C R := fun K A Q hn _ _ _ q => hn _ _ _ h q
theorem js_ret (h : JE E ta z ra) : JS E (sSeq (sRet ta) u) z (bind ra R) N B C R := fun K A Q _ _ _ hr q => h A _ _ q fun d A' q' => hr d A' q'
theorem js_retV {i : Nat} {v : D} (h : z[i]? = some (some v)) : JS E (sSeq (sRetV i) u) z (R v) N B C R := fun K A Q _ _ _ hr q => ⟨v, h, hr v A q⟩
theorem js_drop (h : JE E ta z ra) (hu : ∀ d, JS E u z (k d) N B C R) : JS E (sSeq (sDrop ta) u) z (bind ra k) N B C R := fun K A Q hn hb hc hr q => h A _ _ q fun d A' q' => hu d K A' Q hn hb hc hr q'
theorem js_set {i : Nat} (z' : D → S3) (h : JE E ta z ra) (hz : ∀ d, z.set i (some d) = z' d) (hu : ∀ d, JS E u (z' d) (k d) N B C R) : JS E (sSeq (sSet i ta) u) z (bind ra k) N B C R := fun K A Q hn hb hc hr q => h A _ _ q fun d A' q' => (hz d ▸ hu d) K A' Q hn hb hc hr q'
theorem js_setR {i : Nat} (z' : D → S3) (h : JE E ta z ra) (hz : ∀ d, z.set i (some d) = z' d) (hu : ∀ d, JS E u (z' d) (k d) N B C R) : JS E (sSeq (sSetR i ta) u) z (bind ra fun d => bind (share d) k) N B C R := fun K A Q hn hb hc hr q => h A _ _ q fun d A' q' => by
  show shareD z i d A' (u K)
  have q2 : share d A' (fun b A'' => k b A'' Q E) E := q'
  unfold shareD
  unfold share at q2
  cases e : obOf d with
  | none => rw [e] at q2; exact (hz d ▸ hu d) K A' Q hn hb hc hr q2
  | some ob => rw [e] at q2; exact fun a ha => (hz _ ▸ hu _) K _ Q hn hb hc hr (q2 a ha)
theorem js_pat {δ : Type} {p : Pat} {pt : D → Option δ} {k : δ → W β} (zx : δ → S3) (hp : PatOk p pt z zx) (h : JE E ta z ra) (hu : ∀ y, JS E u (zx y) (k y) N B C R) : JS E (sSeq (sAsgP p ta) u) z (bind ra fun d => un pt (frz d) k) N B C R :=
  fun K A Q hn hb hc hr q => h A _ _ q fun d A' ⟨y, e, q'⟩ => ⟨zx y, hp _ _ e, hu y K A' Q hn hb hc hr q'⟩
theorem js_mu {i : Nat} (z' : D → S3) {c : Ob → Bool} {g : Ob → List D → Option (Ob × D)} {v : D} (hv : z[i]? = some (some v)) (h : JA E tA z rA) (hz : ∀ d, z.set i (some d) = z' d) (hu : ∀ d, JS E u (z' d) (k d) N B C R) : JS E (sSeq (sM i c g tA kDrop) u) z (bind (mu c g v rA) k) N B C R :=
  fun K A Q hn hb hc hr ⟨ob, h1, h2, q⟩ => ⟨v, ob, hv, h1, h2, h A _ _ q fun ds A' ⟨ob', d, h3, h4, q'⟩ => ⟨ob', d, h3, h4, (hz _ ▸ hu _) K A' Q hn hb hc hr q'⟩⟩
theorem js_put {i : Nat} (z' : D → S3) {g : Ob → D → D → Option Ob} {v : D} (hv : z[i]? = some (some v)) (h1 : JE E ta z ra) (h2 : JE E tb z rb) (hz : ∀ d, z.set i (some d) = z' d) (hu : ∀ d, JS E u (z' d) (k d) N B C R) : JS E (sSeq (sPut i g ta tb) u) z (bind rb fun y => bind ra fun x => bind (pt g v x y) k) N B C R :=
  fun K A Q hn hb hc hr q => ⟨⟨v, hv⟩, h2 A _ _ q fun y A1 q1 => h1 A1 _ _ q1 fun x A2 ⟨ob, ob', e1, e2, e3, q2⟩ => ⟨v, ob, ob', hv, e1, e2, e3, (hz _ ▸ hu _) K A2 Q hn hb hc hr q2⟩⟩
theorem js_putR {g : Ob → D → D → Option Ob} {tO : TE3} {rO : W D} {k : W β} (h0 : JE E tO z rO) (h1 : JE E ta z ra) (h2 : JE E tb z rb) (hu : JS E u z k N B C R) : JS E (sSeq (sPutR g tO ta tb) u) z (bind rb fun y => bind rO fun o => bind ra fun x => bind (ptR g o x y) fun _ => k) N B C R :=
  fun K A Q hn hb hc hr q => h2 A _ _ q fun y A1 q1 => h0 A1 _ _ q1 fun o A2 q2 => h1 A2 _ _ q2 fun x A3 ⟨a, ob, ob', e1, e2, e3, q3⟩ => ⟨a, ob, ob', e1, e2, e3, hu K _ Q hn hb hc hr q3⟩
theorem js_fz {i : Nat} {v : D} (z' : S3) (hv : z[i]? = some (some v)) (hz : z.set i (some (frz v)) = z') (h : JS E t z' r N B C R) : JS E (sFz i t) z r N B C R := fun K A Q hn hb hc hr q => ⟨v, hv, (hz ▸ h) K A Q hn hb hc hr q⟩
/-- an if of which each way goes on -/
theorem js_if {r1 r2 : W β} (h : JT E uT z ru) (h1 : JS E (sSeq t v) z r1 N B C R) (h2 : JS E (sSeq u v) z r2 N B C R) : JS E (sSeq (sIf uT t u) v) z (W.ite ru r1 r2) N B C R := fun K A Q hn hb hc hr q => h A _ _ q fun b A' q' => by
  cases b with
  | true => exact h1 K A' Q hn hb hc hr q'
  | false => exact h2 K A' Q hn hb hc hr q'
/-- .. whose ways meet -/
theorem js_join (emb : σ → S3) {r1 r2 : W σ} {k : σ → W β} (h : JT E uT z ru) (h1 : JS E t z r1 (fun z' r' => ∃ s, r' = ok s ∧ z' = emb s) (fun _ _ => False) (fun _ _ => False) fun _ => bad) (h2 : JS E u z r2 (fun z' r' => ∃ s, r' = ok s ∧ z' = emb s) (fun _ _ => False) (fun _ _ => False) fun _ => bad)
    (hv : ∀ s, JS E v (emb s) (k s) N B C R) : JS E (sSeq (sIf uT t u) v) z (bind (W.ite ru r1 r2) k) N B C R := fun K A Q hn hb hc hr q => h A _ _ q fun b A' q' => by
  have go : ∀ (K' : Ends3), K'.nx = v K → ∀ z' r' A', (∃ s, r' = ok s ∧ z' = emb s) → r' A' (fun s A'' => k s A'' Q E) E → K'.nx z' A' := by
    rintro K' e z' r' A' ⟨s, rfl, rfl⟩ q2
    rw [e]
    exact hv s K A' Q hn hb hc hr q2
  cases b with
  | true => exact h1 _ A' _ (go _ rfl) (fun _ _ _ h => h.elim) (fun _ _ _ h => h.elim) (fun _ _ h => h.elim) q'
  | false => exact h2 _ A' _ (go _ rfl) (fun _ _ _ h => h.elim) (fun _ _ _ h => h.elim) (fun _ _ h => h.elim) q'
/-- slots forgotten -/
def sFgt (vs : List Nat) (t : TS3) : TS3 := fun K z A => t K (wipe3 z vs) A
theorem js_fgt {vs : List Nat} (z' : S3) (hz : wipe3 z vs = z') (h : JS E t z' r N B C R) : JS E (sFgt vs t) z r N B C R := fun K A Q hn hb hc hr q => (hz ▸ h) K A Q hn hb hc hr q
theorem js_fgts {vs : List Nat} (z' : S3) (hz : wipe3 z vs = z') (h : JS E (sSeq t u) z' r N B C R) : JS E (sSeq (sFgt vs t) u) z r N B C R := fun K A Q hn hb hc hr q => (hz ▸ h) K A Q hn hb hc hr q
theorem js_each {δ : Type} {ti : TI3} {ri : W W.It} {p : Pat} {pt : D → Option δ} {body : σ → δ → W σ} {k : σ → W β} (emb : σ → S3) (zx : σ → δ → S3) (s0 : σ) (h0 : z = emb s0) (h : JI E ti z ri) (hp : ∀ s, PatOk p pt (emb s) (zx s))
    (hb : ∀ s y, JS E t (zx s y) (body s y) (fun z' r' => ∃ s, r' = ok s ∧ z' = emb s) (fun _ _ => False) (fun z' r' => ∃ s, r' = ok s ∧ z' = emb s) fun _ => bad) (hu : ∀ s, JS E u (emb s) (k s) N B C R) :
    JS E (sSeq (sFor ti p t) u) z (bind ri fun it => bind (each it.2 pt body it.1 s0) k) N B C R := fun K A Q hn hbk hc hr q => h A _ _ q fun it A' q' => by
  obtain ⟨xs, ws⟩ := it
  dsimp only at q' ⊢
  subst h0
  generalize s0 = s at q' ⊢
  induction xs generalizing A' s with
  | nil => exact ⟨q'.1, hu s K A' Q hn hbk hc hr q'.2⟩
  | cons x xs ih =>
    refine ⟨q'.1, ?_⟩
    have q2 := q'.2
    cases hx : pt x with
    | none => rw [hx] at q2; exact q2.elim
    | some y =>
      rw [hx] at q2
      refine ⟨_, hp s x y hx, hb s y _ A' _ ?_ (fun _ _ _ h => h.elim) ?_ (fun _ _ h => h.elim) q2⟩
      · rintro z' r' A2 ⟨s', rfl, rfl⟩ q3; exact ih A2 s' q3
      · rintro z' r' A2 ⟨s', rfl, rfl⟩ q3; exact ih A2 s' q3
theorem js_loop {δ : Type} {ti : TI3} {ri : W W.It} {p : Pat} {pt : D → Option δ} {body : σ → δ → W (Fl σ)} {k : σ → W β} (emb : σ → S3) (zx : σ → δ → S3) (s0 : σ) (h0 : z = emb s0) (h : JI E ti z ri) (hp : ∀ s, PatOk p pt (emb s) (zx s))
    (hb : ∀ s y, JS E t (zx s y) (body s y) (fun z' r' => ∃ s, r' = ok (.nx s) ∧ z' = emb s) (fun z' r' => ∃ s, r' = ok (.bk s) ∧ z' = emb s) (fun z' r' => ∃ s, r' = ok (.nx s) ∧ z' = emb s) fun d => ok (.rt d)) (hu : ∀ s, JS E u (emb s) (k s) N B C R) :
    JS E (sSeq (sFor ti p t) u) z (bind ri fun it => bind (loop it.2 pt body it.1 s0) (out R k)) N B C R := fun K A Q hn hbk hc hr q => h A _ _ q fun it A' q' => by
  obtain ⟨xs, ws⟩ := it
  dsimp only at q' ⊢
  subst h0
  generalize s0 = s at q' ⊢
  induction xs generalizing A' s with
  | nil => exact ⟨q'.1, hu s K A' Q hn hbk hc hr q'.2⟩
  | cons x xs ih =>
    refine ⟨q'.1, ?_⟩
    have q2 := q'.2
    cases hx : pt x with
    | none => rw [hx] at q2; exact q2.elim
    | some y =>
      rw [hx] at q2
      refine ⟨_, hp s x y hx, hb s y _ A' _ ?_ ?_ ?_ ?_ q2⟩
      · rintro z' r' A2 ⟨s', rfl, rfl⟩ q3; exact ih A2 s' q3
      · rintro z' r' A2 ⟨s', rfl, rfl⟩ q3; exact hu s' K A2 Q hn hbk hc hr q3
      · rintro z' r' A2 ⟨s', rfl, rfl⟩ q3; exact ih A2 s' q3
      · intro d A2 h; exact hr d A2 h
end

/-! ### calls -/
/-- the promise that a function makes: it is kept for every greater wish -/
def Up (w : W D) : AH → (D → AH → Prop) → X3 → Prop := fun A Q E => ∃ Q0 E0, w A Q0 E0 ∧ (∀ d A', Q0 d A' → Q d A') ∧ ∀ x fs A', E0 x fs A' → E x fs A'
def sp0 (F : W D) : Sp3 := fun ds A Q E => ds = [] ∧ Up F A Q E
def sp1 (F : D → W D) : Sp3 := fun ds A Q E => ∃ a, ds = [a] ∧ Up (F a) A Q E
def sp2 (F : D → D → W D) : Sp3 := fun ds A Q E => ∃ a b, ds = [a, b] ∧ Up (F a b) A Q E
def sp3 (F : D → D → D → W D) : Sp3 := fun ds A Q E => ∃ a b c, ds = [a, b, c] ∧ Up (F a b c) A Q E
def sp4 (F : D → D → D → D → W D) : Sp3 := fun ds A Q E => ∃ a b c d, ds = [a, b, c, d] ∧ Up (F a b c d) A Q E
namespace W
def c0 (F : W D) : W D := F
def c1 (F : D → W D) (r1 : W D) : W D := bind r1 fun a => F a
def c2 (F : D → D → W D) (r1 r2 : W D) : W D := bind r1 fun a => bind r2 fun b => F a b
def c3 (F : D → D → D → W D) (r1 r2 r3 : W D) : W D := bind r1 fun a => bind r2 fun b => bind r3 fun c => F a b c
def c4 (F : D → D → D → D → W D) (r1 r2 r3 r4 : W D) : W D := bind r1 fun a => bind r2 fun b => bind r3 fun c => bind r4 fun d => F a b c d
def c5 (F : D → D → D → D → D → W D) (r1 r2 r3 r4 r5 : W D) : W D := bind r1 fun a => bind r2 fun b => bind r3 fun c => bind r4 fun d => bind r5 fun e => F a b c d e
def s0 (F : W D) : W D := safe F
def s1 (F : D → W D) (r1 : W D) : W D := c1 (fun a => safe (F a)) r1
def s2 (F : D → D → W D) (r1 r2 : W D) : W D := c2 (fun a b => safe (F a b)) r1 r2
def s3 (F : D → D → D → W D) (r1 r2 r3 : W D) : W D := c3 (fun a b c => safe (F a b c)) r1 r2 r3
def s4 (F : D → D → D → D → W D) (r1 r2 r3 r4 : W D) : W D := c4 (fun a b c d => safe (F a b c d)) r1 r2 r3 r4
def s5 (F : D → D → D → D → D → W D) (r1 r2 r3 r4 r5 : W D) : W D := c5 (fun a b c d e => safe (F a b c d e)) r1 r2 r3 r4 r5
end W
section
variable {E : X3} {z : S3} {t1 t2 t3 t4 t5 : TE3} {r1 r2 r3 r4 r5 : W D}
open W
theorem je_s0 {F : W D} : JE E (eCall (sp0 F) [] aNil) z (W.s0 F) := fun A Q Q' q m => ⟨rfl, Q, _, q, m, fun _ _ _ h => h⟩
theorem je_s1 {F : D → W D} (h1 : JE E t1 z r1) : JE E (eCall (sp1 F) [] (aCons t1 aNil)) z (W.s1 F r1) := fun A Q Q' q m => h1 A _ _ q fun a A1 q => ⟨a, rfl, Q, _, q, m, fun _ _ _ h => h⟩
theorem je_s2 {F : D → D → W D} (h1 : JE E t1 z r1) (h2 : JE E t2 z r2) : JE E (eCall (sp2 F) [] (aCons t1 (aCons t2 aNil))) z (W.s2 F r1 r2) := fun A Q Q' q m => h1 A _ _ q fun a A1 q => h2 A1 _ _ q fun b A2 q => ⟨a, b, rfl, Q, _, q, m, fun _ _ _ h => h⟩
theorem je_s3 {F : D → D → D → W D} (h1 : JE E t1 z r1) (h2 : JE E t2 z r2) (h3 : JE E t3 z r3) : JE E (eCall (sp3 F) [] (aCons t1 (aCons t2 (aCons t3 aNil)))) z (W.s3 F r1 r2 r3) := fun A Q Q' q m =>
  h1 A _ _ q fun a A1 q => h2 A1 _ _ q fun b A2 q => h3 A2 _ _ q fun c A3 q => ⟨a, b, c, rfl, Q, _, q, m, fun _ _ _ h => h⟩
theorem je_s4 {F : D → D → D → D → W D} (h1 : JE E t1 z r1) (h2 : JE E t2 z r2) (h3 : JE E t3 z r3) (h4 : JE E t4 z r4) : JE E (eCall (sp4 F) [] (aCons t1 (aCons t2 (aCons t3 (aCons t4 aNil))))) z (W.s4 F r1 r2 r3 r4) := fun A Q Q' q m =>
  h1 A _ _ q fun a A1 q => h2 A1 _ _ q fun b A2 q => h3 A2 _ _ q fun c A3 q => h4 A3 _ _ q fun d A4 q => ⟨a, b, c, d, rfl, Q, _, q, m, fun _ _ _ h => h⟩
/-- a def's body keeps its function -/
abbrev NF : S3 → W D → Prop := fun _ r => r = W.ok .non
abbrev NB : S3 → W D → Prop := fun _ _ => False
theorem js_def {t : TS3} {z : S3} {w : W D} (h : ∀ E, JS E t z w NF NB NB W.ok) {A : AH} {Q : D → AH → Prop} {E : X3} (u : Up w A Q E) : t { nx := fun _ A' => Q .non A', rt := Q } z A := by
  obtain ⟨Q0, E0, q, m, _⟩ := u
  refine h E0 _ A Q0 ?_ (fun _ _ _ h => h.elim) (fun _ _ _ h => h.elim) (fun d A' q => m _ _ q) q
  rintro z' r' A' rfl q
  exact m _ _ q
end

/-! ### forgetting is sound -/
section
variable {X : Cx} {C : Ct}
theorem pss3_fgt {st : List Stmt} {t : TS3} (vs : List Nat) (h : PSs3 X C st t) : PSs3 X C st (sFgt vs t) := PSs.imp h fun D σ H hq => by
  obtain ⟨z, A, D3, r, s, q, f⟩ := hq
  refine ⟨wipe3 z vs, A, D3, r, ⟨fun i d h => ?_, fun i d a h o hs => ?_, fun i j d e a h1 o1 h2 o2 s1 s2 => ?_, by rw [wipe3_length]; exact s.len⟩, q, f⟩
  · exact s.val i d (wipe3_some h).1
  · exact s.sep i d a (wipe3_some h).1 o hs
  · exact s.uniq i j d e a (wipe3_some h1).1 o1 (wipe3_some h2).1 o2 s1 s2
end
end T3
set_option autoImplicit false
namespace T3
open PySem PySem.Spec PyProof.Rows L2
theorem lim_of {n : Nat} (h : n ≤ 100000) : lim n = true := by
  have := sizeLine_eq
  unfold lim
  exact decide_eq_true (by omega)
theorem line_of {n : Nat} (h : n ≤ 100000) : n ≤ sizeLine := by
  have := sizeLine_eq
  omega
instance small62Dec (i : Int) : Decidable (small62 i) := by unfold small62; infer_instance
namespace W
variable {α β γ σ δ : Type}
/-! ### programs that need no heap -/
@[simp] theorem op_some (d : D) : op (fun _ => some d) = ok d := by
  funext A Q E; unfold op ok; simp
@[simp] theorem op_none : op (fun _ => none) = bad := by
  funext A Q E; unfold op bad; simp
@[simp] theorem op_ite (c : Prop) [Decidable c] (f g : AH → Option D) : op (fun A => if c then f A else g A) = if c then op f else op g := by
  split <;> rfl
@[simp] theorem op_map {δ : Type} (o : Option δ) (f : δ → D) : op (fun _ => o.map f) = match o with | some x => ok (f x) | none => bad := by
  cases o <;> simp
@[simp] theorem op1_eq (f : AH → D → Option D) (a : D) : op1 f a = op fun A => f A a := (rfl)
@[simp] theorem op2_eq (f : AH → D → D → Option D) (a b : D) : op2 f a b = op fun A => f A a b := (rfl)
@[simp] theorem opN_eq (f : AH → List D → Option D) (a : List D) : opN f a = op fun A => f A a := (rfl)
@[simp] theorem opM_eq (f : AH → D → List D → Option D) (a : D) (b : List D) : opM f a b = op fun A => f A a b := (rfl)
@[simp] theorem slW_eq (d : D) (lo hi : Option Int) : slW d lo hi = op fun A => fSl A d lo hi := (rfl)
@[simp] theorem chk_true : chk (fun _ => true) = ok () := by funext A Q E; simp [chk, ok]
theorem rd_of {d : D} (h : own d = false) : rd d = ok d := by simp [rd, h]
@[simp] theorem rd_non : rd .non = ok .non := (rfl)
@[simp] theorem rd_bl (b : Bool) : rd (.bl b) = ok (.bl b) := (rfl)
@[simp] theorem rd_int (b : Int) : rd (.int b) = ok (.int b) := (rfl)
@[simp] theorem rd_str (b : Str) : rd (.str b) = ok (.str b) := (rfl)
@[simp] theorem rd_tup (b : List D) : rd (.tup b) = ok (.tup b) := (rfl)
@[simp] theorem rd_lst (b : List D) : rd (.lst b) = ok (.lst b) := (rfl)
@[simp] theorem rd_dct (b : List (D × D)) : rd (.dct b) = ok (.dct b) := (rfl)
@[simp] theorem rd_ref (b : Addr) : rd (.ref b) = ok (.ref b) := (rfl)
@[simp] theorem tst_bl (b : Bool) : tst (.bl b) = ok b := by funext A Q E; simp [tst, ok]
@[simp] theorem fzW_ok (d : D) : fzW (ok d) = ok (frz d) := (rfl)
@[simp] theorem b1_ok (f : AH → D → Option D) (a : D) : b1 f (ok a) = op fun A => f A a := (rfl)
@[simp] theorem b2_ok (f : AH → D → D → Option D) (a b : D) : b2 f (ok a) (ok b) = op fun A => f A a b := (rfl)
@[simp] theorem b3_ok (f g : AH → D → D → Option D) (a b : D) (rc : W D) : b3 f g (ok a) (ok b) rc = bind (op fun A => f A a b) fun p => bind (tst p) fun p => if p = true then bind rc fun c => op fun A => g A b c else ok (.bl false) := (rfl)
@[simp] theorem anil_eq : anil = ok [] := (rfl)
@[simp] theorem acons_ok (a : D) (ds : List D) : acons (ok a) (ok ds) = ok (a :: ds) := (rfl)
@[simp] theorem bN_ok (f : AH → List D → Option D) (ds : List D) : bN f (ok ds) = op fun A => f A ds := (rfl)
@[simp] theorem bM_ok (k : AH → D → Bool) (f : AH → D → List D → Option D) (o : D) (ds : List D) : bM k f (ok o) (ok ds) = bind (chk fun A => k A o) fun _ => op fun A => f A o ds := (rfl)
@[simp] theorem tT_ok (d : D) : tT (ok d) = tst d := (rfl)
@[simp] theorem oN_eq : oN = ok none := (rfl)
@[simp] theorem oA_int (i : Int) : oA (ok (.int i)) = ok (some i) := by funext A Q E; simp [oA, bind, ok, asI]
@[simp] theorem bS_ok (d : D) (lo hi : Option Int) : bS (ok d) (ok lo) (ok hi) = op fun A => fSl A d lo hi := (rfl)
@[simp] theorem tupA_ok (ds : List D) : tupA (ok ds) = if ds.length ≤ sizeLine then ok (.tup ds) else bad := (rfl)
@[simp] theorem lstA_ok (ds : List D) : lstA (ok ds) = if ds.length ≤ sizeLine then ok (.ml ds) else bad := (rfl)
@[simp] theorem andE_ok (b : Bool) (u : W D) : andE (ok (.bl b)) u = if b = true then u else ok (.bl false) := by simp [andE]
@[simp] theorem orE_ok (b : Bool) (u : W D) : orE (ok (.bl b)) u = if b = true then ok (.bl true) else u := by simp [orE]
@[simp] theorem notE_ok (b : Bool) : notE (ok (.bl b)) = ok (.bl (!b)) := by simp [notE]
@[simp] theorem andT_ok (b : Bool) (u : W Bool) : andT (ok b) u = if b = true then u else ok false := (rfl)
@[simp] theorem orT_ok (b : Bool) (u : W Bool) : orT (ok b) u = if b = true then ok true else u := (rfl)
@[simp] theorem notT_ok (b : Bool) : notT (ok b) = ok (!b) := (rfl)
@[simp] theorem ite_ok (b : Bool) (u v : W β) : W.ite (ok b) u v = if b = true then u else v := (rfl)
@[simp] theorem safe_ok (b : β) : safe (ok b) = ok b := (rfl)
@[simp] theorem safe_bad : safe (bad : W β) = bad := (rfl)
@[simp] theorem s1_ok (F : D → W D) (a : D) : s1 F (ok a) = safe (F a) := (rfl)
@[simp] theorem s2_ok (F : D → D → W D) (a b : D) : s2 F (ok a) (ok b) = safe (F a b) := (rfl)
@[simp] theorem s3_ok (F : D → D → D → W D) (a b c : D) : s3 F (ok a) (ok b) (ok c) = safe (F a b c) := (rfl)
@[simp] theorem s4_ok (F : D → D → D → D → W D) (a b c d : D) : s4 F (ok a) (ok b) (ok c) (ok d) = safe (F a b c d) := (rfl)
@[simp] theorem s5_ok (F : D → D → D → D → D → W D) (a b c d e : D) : s5 F (ok a) (ok b) (ok c) (ok d) (ok e) = safe (F a b c d e) := (rfl)
@[simp] theorem bind_iteB (c : Prop) [Decidable c] (u : W α) (k : α → W β) : bind (if c then u else bad) k = if c then bind u k else bad := by split <;> rfl
@[simp] theorem held_nil : held [] = ok () := by funext A Q E; simp [held, ok]
@[simp] theorem itS_lst (xs : List D) : itS (.lst xs) = ok (xs, []) := by funext A Q E; simp [itS, ok]
@[simp] theorem itS_ml (xs : List D) : itS (.ml xs) = ok (xs, []) := by funext A Q E; simp [itS, ok]
@[simp] theorem itS_tup (xs : List D) : itS (.tup xs) = ok (xs, []) := by funext A Q E; simp [itS, ok]
@[simp] theorem itS_str (x : Str) : itS (.str x) = ok (signs x, []) := by funext A Q E; simp [itS, ok]
@[simp] theorem iS_ok (d : D) : W.iS (ok d) = itS d := (rfl)
@[simp] theorem iR1_ok (i : Int) : W.iR1 (ok (.int i)) = if small62 i then ok (rng 0 i.toNat, []) else bad := by
  funext A Q E; simp only [W.iR1, bind, ok, itR1]
  by_cases h : small62 i <;> simp [h, ok, bad]
@[simp] theorem iR2_ok (i j : Int) : W.iR2 (ok (.int i)) (ok (.int j)) = if small62 i ∧ small62 j then ok (rng i (j - i).toNat, []) else bad := by
  funext A Q E; simp only [W.iR2, bind, ok, itR2]
  by_cases h : small62 i <;> by_cases h' : small62 j <;> simp [h, h', ok, bad]
@[simp] theorem iIt_dct (kvs : List (D × D)) : W.iIt (ok (.dct kvs)) = ok (entsD kvs, []) := by
  funext A Q E; simp only [W.iIt, bind, ok, itIt]
  apply propext
  constructor
  · rintro ⟨kvs', e, q⟩
    cases e; exact q
  · exact fun q => ⟨kvs, rfl, q⟩
@[simp] theorem iIt_md (kvs : List (D × D)) : W.iIt (ok (.md kvs)) = ok (entsD kvs, []) := by
  funext A Q E; simp only [W.iIt, bind, ok, itIt]
  apply propext
  constructor
  · rintro ⟨kvs', e, q⟩
    cases e; exact q
  · exact fun q => ⟨kvs, rfl, q⟩
@[simp] theorem iZ_lst (xs ys : List D) : iZ (ok (.lst xs)) (ok (.lst ys)) = ok (List.zipWith pairD xs ys, []) := (rfl)
@[simp] theorem iZ_tup (xs ys : List D) : iZ (ok (.tup xs)) (ok (.tup ys)) = ok (List.zipWith pairD xs ys, []) := (rfl)
@[simp] theorem iE_lst (xs : List D) : iE (ok (.lst xs)) = ok (enumD 0 xs, []) := (rfl)
@[simp] theorem iRv_lst (xs : List D) : W.iRv (ok (.lst xs)) = ok (xs.reverse, []) := by
  funext A Q E; simp [W.iRv, bind, ok, itRv]
@[simp] theorem iRv_tup (xs : List D) : W.iRv (ok (.tup xs)) = ok (xs.reverse, []) := by
  funext A Q E
  simp only [W.iRv, bind, ok, itRv]
  apply propext
  constructor
  · rintro (⟨ys, e, q⟩ | h)
    · simp at e; subst e; exact q
    · exact h.elim
  · intro q; exact .inl ⟨xs, rfl, q⟩
@[simp] theorem lc_ok (it : W.It) (pt : D → Option δ) (tt : δ → W Bool) (te : δ → W D) : lc (ok it) pt tt te = comp it.2 pt tt te it.1 [] := (rfl)
@[simp] theorem mu_lst (k : Ob → Bool) (g : Ob → List D → Option (Ob × D)) (xs ds : List D) (h : k (.lst xs) = true) : mu k g (.ml xs) (ok ds) = match g (.lst xs) ds with | some (.lst ys, _) => ok (.ml ys) | some (.dct ys, _) => ok (.md ys) | _ => bad := by
  funext A Q E
  simp only [mu, ok]
  cases e : g (.lst xs) ds with
  | none => simp [obOf, h, e, bad]
  | some r =>
    obtain ⟨ob, d⟩ := r
    cases ob <;> simp [obOf, h, e, bad, dOf, ok]
@[simp] theorem append_ml (xs : List D) (d : D) : mu okL gAppend (.ml xs) (ok [d]) = if xs.length < sizeLine then ok (.ml (xs ++ [d])) else bad := by
  rw [mu_lst _ _ _ _ rfl, gAppend_lst]; by_cases h : xs.length < sizeLine <;> simp [h]
@[simp] theorem extend_ml (xs ys : List D) : mu okL gExtend (.ml xs) (ok [.lst ys]) = if xs.length + ys.length ≤ sizeLine then ok (.ml (xs ++ ys)) else bad := by
  rw [mu_lst _ _ _ _ rfl, gExtend_lst]; by_cases h : xs.length + ys.length ≤ sizeLine <;> simp [h]
@[simp] theorem reverse_ml (xs : List D) : mu okL gReverse (.ml xs) (ok []) = ok (.ml xs.reverse) := by
  rw [mu_lst _ _ _ _ rfl, gReverse_lst]
@[simp] theorem pt_md (kvs : List (D × D)) (k v : D) : W.pt gDSet (.md kvs) k v = if kfit (frz k) = true ∧ kvs.length < sizeLine then ok (.md (dput kvs (frz k) (frz v))) else bad := by
  funext A Q E
  simp only [W.pt, obOf, gDSet_dct]
  by_cases h : kfit (frz k) = true ∧ kvs.length < sizeLine
  · simp [h, ok, dOf, obOf]
  · simp [h, bad]
@[simp] theorem pt_ml (xs : List D) (i : Int) (v : D) : W.pt gSet (.ml xs) (.int i) v = match L2.ixN xs.length i with | some k => ok (.ml (xs.set k (frz v))) | none => bad := by
  funext A Q E
  simp only [W.pt, obOf, frz_int, gSet_lst]
  cases h : L2.ixN xs.length i <;> simp [ok, bad, dOf, obOf, h]
theorem un_some {pt : D → Option δ} {d : D} {k : δ → W β} {y : δ} (h : pt d = some y) : un pt d k = k y := by
  funext A Q E; simp [un, h]
@[simp] theorem un_p1 (d : D) (k : D → W β) : un p1 d k = k d := un_some rfl
@[simp] theorem un_p2 (a b : D) (k : D × D → W β) : un p2 (.tup [a, b]) k = k (a, b) := un_some rfl
@[simp] theorem un_p3 (a b c : D) (k : D × D × D → W β) : un p3 (.tup [a, b, c]) k = k (a, b, c) := un_some rfl
@[simp] theorem un_p4 (a b c d : D) (k : D × D × D × D → W β) : un p4 (.tup [a, b, c, d]) k = k (a, b, c, d) := un_some rfl
@[simp] theorem out_nx (R : D → W β) (k : σ → W β) (s : σ) : out R k (.nx s) = k s := (rfl)
@[simp] theorem out_rt (R : D → W β) (k : σ → W β) (d : D) : out R k (.rt d) = R d := (rfl)
@[simp] theorem dict1_str (x : Str) (b : Bool) : dict1 (.str x) b = ok (.md [(.str x, .bl b)]) := by simp [dict1]
@[simp] theorem int1_int (i : Int) : int1 (.int i) = ok i := by funext A Q E; simp [int1, ok]
@[simp] theorem popW_ml (xs : List D) : popW (.ml xs) = match xs[xs.length - 1]? with | some x => ok (.ml xs.dropLast, x) | none => bad := by
  funext A Q E
  simp only [popW]
  cases h : xs[xs.length - 1]? <;> simp [h, ok, bad]
/-! ### loops over rows that are told by other rows -/
theorem each_map {τ ι : Type} {pt : D → Option δ} {body : σ → δ → W σ} (emb : τ → σ) (step : τ → ι → τ) (inj : ι → D) (I : Nat → τ → Prop) : ∀ (xs : List ι) (k : Nat) (t : τ), I k t →
    (∀ (i : Nat) (x : ι) (t : τ), xs[i]? = some x → I (k + i) t → I (k + i + 1) (step t x) ∧ ∃ y, pt (inj x) = some y ∧ body (emb t) y = ok (emb (step t x))) → each [] pt body (xs.map inj) (emb t) = ok (emb (xs.foldl step t))
  | [], _, t, _, _ => by simp [each]
  | x :: xs, k, t, h0, h => by
    obtain ⟨h1, y, e1, e2⟩ := h 0 x t rfl h0
    simp only [List.map_cons, each, held_nil, ok_bind, e1, e2, List.foldl_cons]
    refine each_map emb step inj I xs (k + 1) (step t x) h1 fun i x' t' hx hi => ?_
    have e : k + 1 + i = k + (i + 1) := by omega
    rw [e] at hi ⊢
    exact h (i + 1) x' t' (by simpa using hx) hi
theorem comp_map {ι : Type} {pt : D → Option δ} {tt : δ → W Bool} {te : δ → W D} (inj : ι → D) (c : ι → Bool) (g : ι → D) : ∀ (xs : List ι) (acc : List D), acc.length + xs.length ≤ sizeLine →
    (∀ x ∈ xs, ∃ y, pt (inj x) = some y ∧ tt y = ok (c x) ∧ (c x = true → te y = ok (g x))) → comp [] pt tt te (xs.map inj) acc = ok (.ml (acc ++ (xs.filter c).map fun x => frz (g x)))
  | [], acc, _, _ => by simp [comp]
  | x :: xs, acc, hl, h => by
    obtain ⟨y, e1, e2, e3⟩ := h x List.mem_cons_self
    simp only [List.map_cons, comp, held_nil, ok_bind, e1, e2]
    rw [List.length_cons] at hl
    cases hc : c x with
    | true =>
      have hlt : acc.length < sizeLine := by omega
      simp only [if_true, e3 hc, ok_bind, hlt]
      rw [comp_map inj c g xs _ (by rw [List.length_append, List.length_singleton]; omega) fun x' hx' => h x' (List.mem_cons_of_mem _ hx')]
      simp [List.filter_cons, hc]
    | false =>
      simp only [Bool.false_eq_true, if_false]
      rw [comp_map inj c g xs _ (by omega) fun x' hx' => h x' (List.mem_cons_of_mem _ hx')]
      simp [List.filter_cons, hc]
theorem comp_mapT {ι : Type} {pt : D → Option δ} {te : δ → W D} (inj : ι → D) (g : ι → D) (xs : List ι) (hl : xs.length ≤ sizeLine) (h : ∀ x ∈ xs, ∃ y, pt (inj x) = some y ∧ te y = ok (g x)) :
    comp [] pt (fun _ => ok true) te (xs.map inj) [] = ok (.ml (xs.map fun x => frz (g x))) := by
  rw [comp_map inj (fun _ => true) g xs [] (by simpa using hl) fun x hx => let ⟨y, e1, e2⟩ := h x hx; ⟨y, e1, rfl, fun _ => e2⟩]
  have e : xs.filter (fun _ => true) = xs := List.filter_eq_self.mpr fun _ _ => rfl
  rw [e]; rfl
theorem each_ex {τ : Type} {pt : D → Option δ} {body : σ → δ → W σ} (emb : τ → σ) (I : Nat → τ → Prop) : ∀ (xs : List D) (k : Nat) (t : τ), I k t →
    (∀ (i : Nat) (x : D) (t : τ), xs[i]? = some x → I (k + i) t → ∃ y t', pt x = some y ∧ body (emb t) y = ok (emb t') ∧ I (k + i + 1) t') → ∃ t', I (k + xs.length) t' ∧ each [] pt body xs (emb t) = ok (emb t')
  | [], k, t, h0, _ => ⟨t, h0, by simp [each]⟩
  | x :: xs, k, t, h0, h => by
    obtain ⟨y, t1, e1, e2, h1⟩ := h 0 x t rfl h0
    obtain ⟨t', h2, e3⟩ := each_ex emb I xs (k + 1) t1 h1 fun i x' t2 hx hi => by
      have e : k + 1 + i = k + (i + 1) := by omega
      rw [e] at hi ⊢
      exact h (i + 1) x' t2 (by simpa using hx) hi
    refine ⟨t', ?_, by simp only [each, held_nil, ok_bind, e1, e2, e3]⟩
    have e : k + 1 + xs.length = k + (x :: xs).length := by rw [List.length_cons]; omega
    rw [e] at h2; exact h2
theorem comp_ex {γ : Type} {pt : D → Option δ} {te : δ → W D} (inj : γ → D) (R : Nat → γ → Prop) (hf : ∀ g, frz (inj g) = inj g) : ∀ (xs : List D) (k : Nat) (acc : List D), acc.length + xs.length ≤ sizeLine →
    (∀ (i : Nat) (x : D), xs[i]? = some x → ∃ y g, pt x = some y ∧ te y = ok (inj g) ∧ R (k + i) g) → ∃ gs : List γ, gs.length = xs.length ∧ (∀ (i : Nat) (g : γ), gs[i]? = some g → R (k + i) g) ∧ comp [] pt (fun _ => ok true) te xs acc = ok (.ml (acc ++ gs.map inj))
  | [], k, acc, _, _ => ⟨[], rfl, (fun _ _ h => by simp at h), by simp [comp]⟩
  | x :: xs, k, acc, hl, h => by
    obtain ⟨y, g, e1, e2, h1⟩ := h 0 x rfl
    rw [List.length_cons] at hl
    obtain ⟨gs, l, h2, e3⟩ := comp_ex inj R hf xs (k + 1) (acc ++ [inj g]) (by rw [List.length_append, List.length_singleton]; omega) fun i x' hx => by
      have e : k + 1 + i = k + (i + 1) := by omega
      rw [e]
      exact h (i + 1) x' (by simpa using hx)
    have hlt : acc.length < sizeLine := by omega
    refine ⟨g :: gs, by simp [l], fun i g' hi => ?_, by simp only [comp, held_nil, ok_bind, e1, e2, if_true, hlt, hf, e3]; simp⟩
    cases i with
    | zero => simp at hi; subst hi; exact h1
    | succ i =>
      have e : k + (i + 1) = k + 1 + i := by omega
      rw [e]
      exact h2 i g' (by simpa using hi)
/-! ### what a program gives -/
def Sat (w : W β) (P : β → Prop) : Prop := ∃ b, w = ok b ∧ P b
theorem Sat.ok {b : β} {P : β → Prop} (h : P b) : Sat (W.ok b) P := ⟨b, rfl, h⟩
theorem Sat.bind {w : W α} {k : α → W β} {P : α → Prop} {R : β → Prop} (h : Sat w P) (f : ∀ a, P a → Sat (k a) R) : Sat (W.bind w k) R := by
  obtain ⟨a, rfl, p⟩ := h
  exact f a p
theorem Sat.imp {w : W β} {P R : β → Prop} (h : Sat w P) (f : ∀ b, P b → R b) : Sat w R := let ⟨b, e, p⟩ := h; ⟨b, e, f b p⟩
theorem Sat.bind_each {τ : Type} {pt : D → Option δ} {body : σ → δ → W σ} {xs : List D} {s0 : σ} {k : σ → W β} {P : β → Prop} (emb : τ → σ) (I : Nat → τ → Prop) (t0 : τ) (hs : s0 = emb t0) (h0 : I 0 t0)
    (h : ∀ (i : Nat) (x : D) (t : τ), xs[i]? = some x → I i t → ∃ y t', pt x = some y ∧ body (emb t) y = W.ok (emb t') ∧ I (i + 1) t') (f : ∀ t, I xs.length t → Sat (k (emb t)) P) : Sat (W.bind (each [] pt body xs s0) k) P := by
  subst hs
  obtain ⟨t', h1, e⟩ := each_ex emb I xs 0 t0 h0 fun i x t hx hi => by
    rw [Nat.zero_add] at hi ⊢
    exact h i x t hx hi
  rw [Nat.zero_add] at h1
  rw [e]
  exact f t' h1
theorem Sat.each {τ : Type} {pt : D → Option δ} {body : σ → δ → W σ} {xs : List D} {s0 : σ} {P : σ → Prop} (emb : τ → σ) (I : Nat → τ → Prop) (t0 : τ) (hs : s0 = emb t0) (h0 : I 0 t0)
    (h : ∀ (i : Nat) (x : D) (t : τ), xs[i]? = some x → I i t → ∃ y t', pt x = some y ∧ body (emb t) y = W.ok (emb t') ∧ I (i + 1) t') (f : ∀ t, I xs.length t → P (emb t)) : Sat (W.each [] pt body xs s0) P := by
  have := Sat.bind_each (k := W.ok) (P := P) (body := body) (pt := pt) (xs := xs) emb I t0 hs h0 h fun t ht => Sat.ok (f t ht)
  exact this
theorem Sat.bind_comp {γ : Type} {pt : D → Option δ} {te : δ → W D} {xs : List D} {k : D → W β} {P : β → Prop} (inj : γ → D) (R : Nat → γ → Prop) (hf : ∀ g, frz (inj g) = inj g) (hl : xs.length ≤ sizeLine)
    (h : ∀ (i : Nat) (x : D), xs[i]? = some x → ∃ y g, pt x = some y ∧ te y = W.ok (inj g) ∧ R i g) (f : ∀ gs : List γ, gs.length = xs.length → (∀ (i : Nat) (g : γ), gs[i]? = some g → R i g) → Sat (k (.ml (gs.map inj))) P) : Sat (W.bind (comp [] pt (fun _ => W.ok true) te xs []) k) P := by
  obtain ⟨gs, l, h1, e⟩ := comp_ex inj R hf xs 0 [] (by simpa using hl) fun i x hx => by
    rw [Nat.zero_add]; exact h i x hx
  rw [e]
  exact f gs l fun i g hg => by simpa using h1 i g hg
theorem Sat.comp {γ : Type} {pt : D → Option δ} {te : δ → W D} {xs : List D} {P : D → Prop} (inj : γ → D) (R : Nat → γ → Prop) (hf : ∀ g, frz (inj g) = inj g) (hl : xs.length ≤ sizeLine)
    (h : ∀ (i : Nat) (x : D), xs[i]? = some x → ∃ y g, pt x = some y ∧ te y = W.ok (inj g) ∧ R i g) (f : ∀ gs : List γ, gs.length = xs.length → (∀ (i : Nat) (g : γ), gs[i]? = some g → R i g) → P (.ml (gs.map inj))) : Sat (W.comp [] pt (fun _ => W.ok true) te xs []) P := by
  have := Sat.bind_comp (k := W.ok) (P := P) (te := te) (pt := pt) (xs := xs) inj R hf hl h fun gs l hg => Sat.ok (f gs l hg)
  exact this
@[simp] theorem rd_script (ns : List Int) : rd (script ns) = W.ok (script ns) := (rfl)
/-! ### programs at a heap -/
section
variable (A : AH) (E : X3)
@[simp] theorem bind_ap (w : W α) (k : α → W β) (Q : β → AH → Prop) : bind w k A Q E = w A (fun b A' => k b A' Q E) E := (rfl)
@[simp] theorem ok_ap (b : β) (Q : β → AH → Prop) : ok b A Q E = Q b A := (rfl)
@[simp] theorem bad_ap (Q : β → AH → Prop) : bad A Q E = False := (rfl)
@[simp] theorem op_ap (f : AH → Option D) (Q : D → AH → Prop) : op f A Q E = ∃ d, f A = some d ∧ Q d A := (rfl)
@[simp] theorem iteP_ap (c : Prop) [Decidable c] (u v : W β) (Q : β → AH → Prop) : (if c then u else v) A Q E = if c then u A Q E else v A Q E := by split <;> rfl
@[simp] theorem safe_ap (w : W β) (Q : β → AH → Prop) : safe w A Q E = w A Q (fun _ _ _ => False) := (rfl)
@[simp] theorem fzW_ap (r : W D) (Q : D → AH → Prop) : fzW r A Q E = r A (fun d A' => Q (frz d) A') E := (rfl)
@[simp] theorem b1_ap (f : AH → D → Option D) (ra : W D) (Q : D → AH → Prop) : b1 f ra A Q E = ra A (fun a A1 => ∃ d, f A1 a = some d ∧ Q d A1) E := (rfl)
@[simp] theorem b2_ap (f : AH → D → D → Option D) (ra rb : W D) (Q : D → AH → Prop) : b2 f ra rb A Q E = ra A (fun a A1 => rb A1 (fun b A2 => ∃ d, f A2 a b = some d ∧ Q d A2) E) E := (rfl)
@[simp] theorem acons_ap (ra : W D) (rA : W (List D)) (Q : List D → AH → Prop) : acons ra rA A Q E = ra A (fun a A1 => rA A1 (fun ds A2 => Q (a :: ds) A2) E) E := (rfl)
@[simp] theorem bN_ap (f : AH → List D → Option D) (rA : W (List D)) (Q : D → AH → Prop) : bN f rA A Q E = rA A (fun ds A1 => ∃ d, f A1 ds = some d ∧ Q d A1) E := (rfl)
@[simp] theorem bM_ap (k : AH → D → Bool) (f : AH → D → List D → Option D) (ra : W D) (rA : W (List D)) (Q : D → AH → Prop) : bM k f ra rA A Q E = ra A (fun o A1 => k A1 o = true ∧ rA A1 (fun ds A2 => ∃ d, f A2 o ds = some d ∧ Q d A2) E) E := (rfl)
@[simp] theorem tT_ap (ra : W D) (Q : Bool → AH → Prop) : tT ra A Q E = ra A (fun d A1 => ∃ b, d = .bl b ∧ Q b A1) E := (rfl)
@[simp] theorem andT_ap (t u : W Bool) (Q : Bool → AH → Prop) : andT t u A Q E = t A (fun b A1 => if b = true then u A1 Q E else Q false A1) E := by
  unfold andT bind; congr; funext b A1; cases b <;> rfl
@[simp] theorem orT_ap (t u : W Bool) (Q : Bool → AH → Prop) : orT t u A Q E = t A (fun b A1 => if b = true then Q true A1 else u A1 Q E) E := by
  unfold orT bind; congr; funext b A1; cases b <;> rfl
@[simp] theorem notT_ap (t : W Bool) (Q : Bool → AH → Prop) : notT t A Q E = t A (fun b A1 => Q (!b) A1) E := (rfl)
@[simp] theorem ite_ap (t : W Bool) (u v : W β) (Q : β → AH → Prop) : W.ite t u v A Q E = t A (fun b A1 => if b = true then u A1 Q E else v A1 Q E) E := by
  unfold W.ite bind; congr; funext b A1; cases b <;> rfl
@[simp] theorem tupA_ap (rA : W (List D)) (Q : D → AH → Prop) : tupA rA A Q E = rA A (fun ds A1 => ds.length ≤ sizeLine ∧ Q (.tup ds) A1) E := by
  unfold tupA bind tupW; congr; funext ds A1
  by_cases h : ds.length ≤ sizeLine <;> simp [h, ok, bad]
@[simp] theorem lstA_ap (rA : W (List D)) (Q : D → AH → Prop) : lstA rA A Q E = rA A (fun ds A1 => ds.length ≤ sizeLine ∧ Q (.ml ds) A1) E := by
  unfold lstA bind lstW; congr; funext ds A1
  by_cases h : ds.length ≤ sizeLine <;> simp [h, ok, bad]
@[simp] theorem oA_ap (ra : W D) (Q : Option Int → AH → Prop) : oA ra A Q E = ra A (fun d A1 => ∃ i, d = .int i ∧ Q (some i) A1) E := (rfl)
@[simp] theorem bS_ap (ra : W D) (rl rh : W (Option Int)) (Q : D → AH → Prop) : bS ra rl rh A Q E = ra A (fun d A1 => rl A1 (fun lo A2 => rh A2 (fun hi A3 => ∃ r, fSl A3 d lo hi = some r ∧ Q r A3) E) E) E := (rfl)
@[simp] theorem bR_ap (k : Ob → Bool) (g : Ob → List D → Option (Ob × D)) (ra : W D) (rA : W (List D)) (Q : D → AH → Prop) : bR k g ra rA A Q E = ra A (fun o A1 => ∃ a ob, o = .ref a ∧ A1 a = some ob ∧ k ob = true ∧ rA A1 (fun ds A2 => ∃ ob1 ob' d, A2 a = some ob1 ∧ g ob1 ds = some (ob', d) ∧ Q d (put A2 a ob')) E) E := (rfl)
@[simp] theorem iS_ap (ra : W D) (Q : W.It → AH → Prop) : W.iS ra A Q E = ra A (fun d A1 => withItems (itemsW A1 (frz d)) fun xs ws => Q (xs, ws) A1) E := (rfl)
@[simp] theorem iR1_ap (ra : W D) (Q : W.It → AH → Prop) : W.iR1 ra A Q E = ra A (fun d A1 => ∃ i, d = .int i ∧ small62 i ∧ Q (rng 0 i.toNat, []) A1) E := (rfl)
@[simp] theorem iR2_ap (ra rb : W D) (Q : W.It → AH → Prop) : W.iR2 ra rb A Q E = ra A (fun a A1 => rb A1 (fun b A2 => ∃ i j, a = .int i ∧ b = .int j ∧ small62 i ∧ small62 j ∧ Q (rng i (j - i).toNat, []) A2) E) E := (rfl)
@[simp] theorem share_ml (xs : List D) (Q : D → AH → Prop) : share (.ml xs) A Q E = ∀ a, A a = none → Q (.ref a) (put A a (.lst xs)) := (rfl)
@[simp] theorem share_md (xs : List (D × D)) (Q : D → AH → Prop) : share (.md xs) A Q E = ∀ a, A a = none → Q (.ref a) (put A a (.dct xs)) := (rfl)
@[simp] theorem s1_ap (F : D → W D) (r1 : W D) (Q : D → AH → Prop) : s1 F r1 A Q E = r1 A (fun a A1 => F a A1 Q fun _ _ _ => False) E := (rfl)
@[simp] theorem s2_ap (F : D → D → W D) (r1 r2 : W D) (Q : D → AH → Prop) : s2 F r1 r2 A Q E = r1 A (fun a A1 => r2 A1 (fun b A2 => F a b A2 Q fun _ _ _ => False) E) E := (rfl)
@[simp] theorem s3_ap (F : D → D → D → W D) (r1 r2 r3 : W D) (Q : D → AH → Prop) : s3 F r1 r2 r3 A Q E = r1 A (fun a A1 => r2 A1 (fun b A2 => r3 A2 (fun c A3 => F a b c A3 Q fun _ _ _ => False) E) E) E := (rfl)
@[simp] theorem s4_ap (F : D → D → D → D → W D) (r1 r2 r3 r4 : W D) (Q : D → AH → Prop) : s4 F r1 r2 r3 r4 A Q E = r1 A (fun a A1 => r2 A1 (fun b A2 => r3 A2 (fun c A3 => r4 A3 (fun d A4 => F a b c d A4 Q fun _ _ _ => False) E) E) E) E := (rfl)
@[simp] theorem s5_ap (F : D → D → D → D → D → W D) (r1 r2 r3 r4 r5 : W D) (Q : D → AH → Prop) : s5 F r1 r2 r3 r4 r5 A Q E = r1 A (fun a A1 => r2 A1 (fun b A2 => r3 A2 (fun c A3 => r4 A3 (fun d A4 => r5 A4 (fun e A5 => F a b c d e A5 Q fun _ _ _ => False) E) E) E) E) E := (rfl)
@[simp] theorem lc_ap {δ : Type} (ri : W W.It) (pt : D → Option δ) (tt : δ → W Bool) (te : δ → W D) (Q : D → AH → Prop) : lc ri pt tt te A Q E = ri A (fun it A1 => comp it.2 pt tt te it.1 [] A1 Q E) E := (rfl)
@[simp] theorem ptR_ap (g : Ob → D → D → Option Ob) (o k v : D) (Q : Unit → AH → Prop) : ptR g o k v A Q E = ∃ a ob ob', frz o = .ref a ∧ A a = some ob ∧ g ob (frz k) (frz v) = some ob' ∧ Q () (put A a ob') := (rfl)
@[simp] theorem un_ap {δ : Type} (pt : D → Option δ) (d : D) (k : δ → W β) (Q : β → AH → Prop) : un pt d k A Q E = ∃ y, pt d = some y ∧ k y A Q E := (rfl)
@[simp] theorem letW_ap (d : D) (Q : D → AH → Prop) : letW d A Q E = ∃ a ob, d = .ref a ∧ A a = some ob ∧ obOf (dOf ob) = some ob ∧ Q (frz (dOf ob)) (delA A a) := (rfl)
/-! loops at a heap -/
theorem each_wp {pt : D → Option δ} {body : σ → δ → W σ} {Q : σ → AH → Prop} (I : Nat → σ → AH → Prop) : ∀ (xs : List D) (k : Nat) (s : σ) (A : AH), I k s A →
    (∀ (i : Nat) (x : D) (s : σ) (A : AH), xs[i]? = some x → I (k + i) s A → ∃ y, pt x = some y ∧ ∀ K : σ → AH → Prop, (∀ s' A', I (k + i + 1) s' A' → K s' A') → body s y A K E) → (∀ s A, I (k + xs.length) s A → Q s A) → each [] pt body xs s A Q E
  | [], k, s, A, h0, _, f => by simp only [each, held_nil, ok_bind, ok_ap]; exact f s A h0
  | x :: xs, k, s, A, h0, h, f => by
    obtain ⟨y, e1, e2⟩ := h 0 x s A rfl h0
    simp only [each, held_nil, ok_bind, e1, bind_ap]
    refine e2 _ fun s' A' h1 => each_wp I xs (k + 1) s' A' h1 (fun i x' s2 A2 hx hi => ?_) fun s2 A2 h2 => f s2 A2 ?_
    · have e : k + 1 + i = k + (i + 1) := by omega
      rw [e] at hi ⊢
      exact h (i + 1) x' s2 A2 (by simpa using hx) hi
    · have e : k + 1 + xs.length = k + (x :: xs).length := by rw [List.length_cons]; omega
      rw [e] at h2; exact h2
end
end W
end T3
set_option autoImplicit false
namespace T3
open PySem PySem.Spec PyProof.Rows L2
section
variable {E : X3} {z : S3}
end
end T3
set_option autoImplicit false
namespace T3
open PySem PySem.Spec PyProof.Rows L2

/-! ### exceptions: classes by their numbers -/
def xnm : Nat → Str
  | 0 => "NoRoom" | 1 => "NoMessage" | 2 => "NoHouse" | 3 => "NotYours" | 4 => "NoSaying" | 5 => "NoName" | 6 => "NoWhat" | 7 => "NoDeed" | 8 => "Strange" | 9 => "NoRow" | 10 => "Clash" | 11 => "Gap"
  | _ => "none such"
/-- a promise in the hand layer's words; what is let out is of a class by its number -/
def lspX (K : PySem.W.Frag) (w : World) (mg : Str → Option Value) (sp : Sp3) : Sp := fun vs H Q E => ∃ ds A Q3 E3, Rps K w H ds vs ∧ AbsA K w A H ∧ sp ds A Q3 E3 ∧
  (∀ d A' v H', Q3 d A' → Rel K w ⟨H, A⟩ A' H' → RpV K w H' d v → (own d = true → ∀ a, v = V.ref a → A' a = none ∧ H a = none) → Q v H') ∧
  ∀ c A' Da H', E3 c [] A' → mg (xnm c) = some (.ref Da) → Rel K w ⟨H, A⟩ A' H' → E (.ref Da) none H'
def Def3X (P : Program) (w : World) (K : PySem.W.Frag) (mg : Str → Option Value) (base : Heap) (x : Str) (k : Nat) (ps : List Str) (sp : Sp3) : Prop :=
  ∃ (f : Addr) (fd : FuncData), FnOk P w K mg base (L2.CX P w) k f fd ps (lspX K w mg sp) ∧ mg x = some (.ref f) ∧ PySem.W.keepIn K (.ref f) = true ∧ L2.Binds K fd ps []
/-- .. where nothing is let out -/
theorem Def3X.plain {P : Program} {w : World} {K : PySem.W.Frag} {mg : Str → Option Value} {base : Heap} {x : Str} {k : Nat} {ps : List Str} {sp : Sp3} (G : Def3X P w K mg base x k ps sp) : Def3 P w K mg base x k ps sp := by
  obtain ⟨f, fd, F, hm, hk, hb⟩ := G
  have up : ∀ vs H Q E, lsp K w sp vs H Q E → lspX K w mg sp vs H Q (fun _ _ _ => False) := fun vs H Q E ⟨ds, A, Q3, h1, h2, h3, h4⟩ => ⟨ds, A, Q3, _, h1, h2, h3, h4, fun _ _ _ _ e => e.elim⟩
  refine ⟨f, fd, ⟨fun vs H Q E h => F.len vs H Q _ (up _ _ _ _ h), fun A outer s H args us vs Q E hr e0 hb r h => ?_⟩, hm, hk, hb⟩
  refine codeAny_mono (F.run A outer s H args us vs Q _ hr e0 hb r (up _ _ _ _ h)) fun r s' hq => ?_
  cases r with
  | error e =>
    obtain ⟨_, _, _, _, _, _, _, _, _, _, _, _, z⟩ := hq
    exact z.elim
  | ok fl => cases fl <;> exact hq
section
variable {P : Program} {w : World} {K : PySem.W.Frag} {mg : Str → Option Value} {base : Heap}
end

/-! ### raise -/
/-- the class x as the module holds it, without own __init__ -/
structure OwnX (K : PySem.W.Frag) (mg : Str → Option Value) (x : Str) : Prop where
  ex : ∃ Ca : Addr, mg x = some (.ref Ca) ∧ PySem.W.excIn K Ca [.type "ValueError", .type "Exception", .type "BaseException", .type "object"] "ValueError.__new__" = true ∧ PySem.W.keepIn K (.ref Ca) = true ∧
    PySem.W.subIn K (.ref Ca) (.type "BaseException") = some true ∧ PySem.W.typeIn K (.ref Ca) = some (.type "type")
section
variable {X : Cx} {C : Ct}
/-! ### a call that may let something out -/
variable {k : Nat} {ps : List Str} {sp : Sp3} {x : Str} {p pos pos' : Pos} {e : Expr} {es : List Expr} {t : TA3}
/-! ### a try's body: one call, by an if perhaps -/
/-! ### try -/
end
end T3
set_option autoImplicit false
namespace T3
open PySem PySem.Spec PyProof.Rows L2

/-! ### defs that are handed the exception that is handled: p -/
structure FnHp (P : Program) (w : World) (K : PySem.W.Frag) (mg : Str → Option Value) (base : Heap) (k : Nat) (f : Addr) (fd : FuncData) (ps : List Str) (p : Addr × Obj) (sp : Sp) : Prop where
  len : ∀ vs H Q E, sp vs H Q E → vs.length = ps.length
  run : ∀ (A : Around) (outer : List Env) (s : Shared) (H : Hp) (args : Args) (us : List Value) (vs : List V) (Q : VK) (E : XK), L2H.RoomH k A → L2H.PinOk outer H s p → Env0 P w K mg base A outer s H → BindsTo s fd args (ps.zip us) → Vals vs us → sp vs H Q E →
    codeAny (model P w) A (.call (.ref f) args) (CR CX0 outer P w H s Q E) s
section
variable {P : Program} {w : World} {K : PySem.W.Frag} {mg : Str → Option Value} {base : Heap}
end
section
variable {X : Cx} {C : Ct} {k : Nat} {ps : List Str} {sp : Sp3} {x : Str} {q pos : Pos} {e : Expr} {es : List Expr} {t : TA3} {p : Addr × Obj}
/-! ### isinstance of it -/
end
/-- the classes, as the module holds them -/
structure Clss (K : PySem.W.Frag) (mg : Str → Option Value) : Prop where
  te : ∃ T : Addr, mg "TalkError" = some (.ref T) ∧ ∀ c Da, mg (xnm c) = some (.ref Da) → PySem.W.exmOne K (.ref Da) (.ref T) = some true
  cls : ∀ c Da, mg (xnm c) = some (.ref Da) → ExcC K Da ∧ PySem.W.kitOne K (.ref Da) (.type "ValueError") = some true ∧ ∀ j Dj, j < 12 → mg (xnm j) = some (.ref Dj) → PySem.W.kitOne K (.ref Da) (.ref Dj) = some (decide (j = c))
  all : ∀ j, j < 12 → ∃ Dj : Addr, mg (xnm j) = some (.ref Dj)
structure Hld (X : Cx) (c : Nat) (p : Addr × Obj) : Prop where
  cl : Clss X.K X.mg
  ex : ∃ Da : Addr, X.mg (xnm c) = some (.ref Da) ∧ Zc (.ref Da) none p.2 ∧ ∃ vs, p.2.data = .fields vs
  mem : p ∈ X.pn
section
variable {X : Cx} {C : Ct} {i j c : Nat} {p : Addr × Obj} {e : Expr} {q q2 pos : Pos}
end

/-! ### all class facts as one look -/
end T3
set_option autoImplicit false
namespace T3
open PySem PySem.Spec PyProof.Rows L2
namespace W
variable {β σ : Type}
def raise (c : Nat) : W β := fun A _ E => E c [] A
/-- the exception's class goes to the handler; a: where it stands -/
def tryE (wb : W Unit) (s0 : σ) (h : Nat → Addr → W σ) : W σ := fun A Q E => wb A (fun _ A' => Q s0 A') fun c _ A' => ∀ a, h c a A' Q E
def isE (a : Addr) (d : D) (b : Bool) : W D := fun A Q _ => d = .ref a ∧ Q (.bl b) A
@[simp] theorem raise_ap (c : Nat) (A : AH) (Q : β → AH → Prop) (E : X3) : (raise c : W β) A Q E = E c [] A := (rfl)
@[simp] theorem tryE_ap (wb : W Unit) (s0 : σ) (h : Nat → Addr → W σ) (A : AH) (Q : σ → AH → Prop) (E : X3) : tryE wb s0 h A Q E = wb A (fun _ A' => Q s0 A') (fun c _ A' => ∀ a, h c a A' Q E) := (rfl)
@[simp] theorem isE_ok (a : Addr) (b : Bool) : isE a (.ref a) b = ok (.bl b) := by
  funext A Q E; simp [isE, ok]
@[simp] theorem isE_okf (a : Addr) (b : Bool) : isE a (frz (.ref a)) b = ok (.bl b) := isE_ok a b
@[simp] theorem c1_ok (F : D → W D) (a : D) : c1 F (ok a) = F a := (rfl)
@[simp] theorem c2_ok (F : D → D → W D) (a b : D) : c2 F (ok a) (ok b) = F a b := (rfl)
@[simp] theorem c3_ok (F : D → D → D → W D) (a b c : D) : c3 F (ok a) (ok b) (ok c) = F a b c := (rfl)
@[simp] theorem c4_ok (F : D → D → D → D → W D) (a b c d : D) : c4 F (ok a) (ok b) (ok c) (ok d) = F a b c d := (rfl)
end W
section
variable {E : X3} {z : S3} {t1 t2 t3 t4 t5 : TE3} {r1 r2 r3 r4 r5 : W D}
/-! a def that raises calls one that raises -/
/-! .. a law calls one, that raises nothing there -/
/-! a try's body -/
end
end T3
set_option autoImplicit false
namespace T3
open PySem PySem.Spec PyProof.Rows L2
/-! ### an exception that is kept behind its handler: what stands behind the try is read with it in hand -/
section
variable {X : Cx} {pins : List (Addr × Obj)} {σ : L2.St} {H : Hp} {s : Shared} {a : Addr} {oe : Obj}
end
section
variable {X : Cx} {x n : Str} {c : Value} {i : Nat} {body suite rest : List Stmt} {b₀ : Stmt} {np pos pos' : Pos} {tb : WX → TS} {ts : Addr → Value → Option Addr → TS} {u : TS} {uK : Addr → Value → Option Addr → TS}
end
end T3
set_option autoImplicit false
namespace T3
open PySem PySem.Spec PyProof.Rows L2
/-! ### try: a call / except TalkError as name: kept = name; and what stands behind it -/
section
variable {X : Cx} {C : Ct}
end
namespace W
variable {β : Type}
/-- .. with the exception in hand: h; without one: k -/
def keptE (wb : W Unit) (k : W β) (h : Nat → Addr → W β) : W β := fun A Q E => wb A (fun _ A' => k A' Q E) fun c _ A' => ∀ a, h c a A' Q E
@[simp] theorem keptE_ap (wb : W Unit) (k : W β) (h : Nat → Addr → W β) (A : AH) (Q : β → AH → Prop) (E : X3) : keptE wb k h A Q E = wb A (fun _ A' => k A' Q E) (fun c _ A' => ∀ a, h c a A' Q E) := (rfl)
end W
section
variable {E : X3} {z : S3}
end
end T3
set_option autoImplicit false
namespace T3
open PySem PySem.Spec PyProof.Rows L2
/-! ### xs[::-1] of a list or a tuple -/
section
variable {prog : Program} {w : World} {A : Around} {E : Value → Shared → Prop} {s : Shared}
end
section
variable {X : Cx} {C : Ct}
def fRevA (A : AH) (d : D) : Option D := match vw A d with
  | .lst xs => some (.ml xs.reverse)
  | .tup xs => some (.tup xs.reverse)
  | _ => none
@[simp] theorem fRevA_lst (A : AH) (xs : List D) : fRevA A (.lst xs) = some (.ml xs.reverse) := rfl
@[simp] theorem fRevA_tup (A : AH) (xs : List D) : fRevA A (.tup xs) = some (.tup xs.reverse) := rfl
end
end T3
set_option autoImplicit false
namespace T3
open PySem PySem.Spec PyProof.Rows L2

/-! ### for k in d: the keys of a let-go dict -/
def Itky (d : Addr) (o : Obj) (es : List (Int × V × V)) : It :=
  ⟨fun i H => H d = some (.frz o (dh d es)) ∧ i < es.length, fun i H x H' => H' = H ∧ ∃ n v, es[i]? = some (n, x, v), fun i H => H d = some (.frz o (dh d es)) ∧ es.length ≤ i⟩
theorem turn_itky {P : Program} {w : World} {K : PySem.W.Frag} {tg : Expr} {d : Addr} {o : Obj} {es : List (Int × V × V)} (it : Addr) {arr : Array DictEntry} {ep : Nat} (hod : o.data = .dict arr ep) :
    Turn P w K tg (Itky d o es) [it] it (fun i h => h.IsKeyIter it d i arr.size ep) where
  mem := by simp
  obj := fun i h st b hb => by
    have e : b = it := by simpa using hb
    subst e
    obtain ⟨oi, e, c, dd⟩ := st
    exact ⟨oi, e, fun v z => by rw [dd] at z; cases z⟩
  keep := fun i h h' st k => by
    obtain ⟨oi, e, c, dd⟩ := st
    exact ⟨oi, k it (by simp) oi e, c, dd⟩
  item := by
    intro X hP hw hK hc i pins s σ H E I hf st hg
    subst hP hw hK
    obtain ⟨hd, hi⟩ := hg
    obtain ⟨f0, f1, f2, f3, f4, f5⟩ := hf it (by simp)
    obtain ⟨hgd, hs, arr', ep', hdt, ea, hsz, hm, hz0⟩ := frz_dict I hd
    rw [hod] at hdt; cases hdt
    obtain ⟨⟨n, k, v⟩, hkv⟩ : ∃ p, es[i]? = some p := ⟨es[i], List.getElem?_eq_getElem hi⟩
    obtain ⟨e, he1, rk, rv⟩ := ents_get (n := 0) ea hkv
    rw [Array.getElem?_toList] at he1
    refine next_key_item st hgd hod rfl he1 fun h' st' sb => ?_
    have I1 : Inv X pins σ H { s with heap := h' } := I.turned (t' := s.toks) (fun b ob hb e => (sb.2 b hb).trans e) f0 f1 f3 f4 f5
    obtain ⟨oi, eo, c, dd⟩ := id st'
    exact ⟨e.key, rfl, go_of (s := { s with heap := h' }) eo c dd (by decide) ⟨k, H, I1, rk, ⟨rfl, n, v, hkv⟩, st', fun b hb => (hf b hb).1⟩⟩
  done := by
    intro X hP hw hK hc i pins s σ H E I hf st hg
    subst hP hw hK
    obtain ⟨hd, hi⟩ := hg
    obtain ⟨f0, f1, f2, f3, f4, f5⟩ := hf it (by simp)
    obtain ⟨hgd, hs, arr', ep', hdt, ea, hsz, hm, hz0⟩ := frz_dict I hd
    rw [hod] at hdt; cases hdt
    exact next_key_end (I.ok.hd hc) st hgd hod rfl (by omega) fun h' eb => ⟨rfl, I.turned (t' := s.toks) (fun b ob hb e => eb b ob hb e) f0 f1 f3 f4 f5⟩
  self := fun A i s Q E st h => by
    refine wpAny_pyIter_slot st.typeIs F.slot_dict_keyiterator_iter (wpAny_call_entry F.slot_dict_keyiterator_iter st.typeIs F.entry_dict_keyiterator_iter ?_ (F.args_dict_keyiterator_iter_1 _))
    show wpAny _ _ (ret (.ref it)) _ _ s
    exact wpAny_pure ⟨_, rfl, "dict_keyiterator", _, st.typeIs, F.slot_dict_keyiterator_next.lookup, h⟩
def keysD (kvs : List (D × D)) : List D := kvs.map (·.1)
theorem steady_itky {pt : Pat} {K : PySem.W.Frag} {w : World} {H : Hp} {ws : Ws} {d : Addr} {o : Obj} {es : List (Int × V × V)} {kvs : List (D × D)} (h : H d = some (.frz o (dh d es))) (r : Rpk K w H kvs es) : Steady K w pt ws (Itky d o es) (keysD kvs) H := by
  have l := rpk_len r
  refine ⟨fun H2 p _ => ⟨p.2 _ _ _ h, by simp [keysD]; omega⟩, fun i x H2 p _ hi => ?_⟩
  unfold keysD at hi
  rw [List.getElem?_map] at hi
  cases q : kvs[i]? with
  | none => rw [q] at hi; cases hi
  | some kv =>
    rw [q] at hi; cases hi
    obtain ⟨n, a, b, e1, r1, r2⟩ := rpk_get r q
    refine ⟨⟨p.2 _ _ _ h, (List.getElem?_eq_some_iff.mp e1).1⟩, fun x' H3 ⟨eH, n', v', e2⟩ => ?_⟩
    rw [e1] at e2; cases e2
    subst eH
    exact ⟨fun _ _ h => h, .of (r1.pers p)⟩
def iKy (t : TE3) : TI3 := fun z A Q => t z A fun d A' => ∃ kvs, frz d = .dct kvs ∧ Q (keysD kvs) [] A'
namespace W
def itKy (d : D) : W It := fun A Q _ => ∃ kvs, frz d = .dct kvs ∧ Q (keysD kvs, []) A
def iKy (ra : W D) : W It := bind ra itKy
@[simp] theorem iKy_dct (kvs : List (D × D)) : W.iKy (ok (.dct kvs)) = ok (keysD kvs, []) := by
  funext A Q E; simp only [W.iKy, bind, ok, itKy]
  apply propext
  constructor
  · rintro ⟨kvs', e, q⟩
    cases e; exact q
  · exact fun q => ⟨kvs, rfl, q⟩
@[simp] theorem iKy_md (kvs : List (D × D)) : W.iKy (ok (.md kvs)) = ok (keysD kvs, []) := by
  funext A Q E; simp only [W.iKy, bind, ok, itKy]
  apply propext
  constructor
  · rintro ⟨kvs', e, q⟩
    cases e; exact q
  · exact fun q => ⟨kvs, rfl, q⟩
end W
end T3
set_option autoImplicit false
namespace T3
open PySem PySem.Spec PyProof.Rows L2

/-! ### sorted(x, key=f) -/
/-- the row sorted by its keys -/
def sortKD (key : D → D) (ds : List D) : List D := ds.mergeSort (PySem.W.dataLe false fun d => pd (key d))
theorem Stands.pers {K : PySem.W.Frag} {w : World} {H H' : Hp} (p : Pers H H') {u : Value} {d : D} (h : Stands K w H u d) : Stands K w H' u d := by
  obtain ⟨x, a, b⟩ := h; exact ⟨x, a, b.pers p⟩
section
variable {X : Cx} {pins : List (Addr × Obj)} {σ : L2.St} {H : Hp} {s : Shared}
/-- records at ch have changed, all else is as it was; the one at T is known from now on -/
theorem Inv.knownAt {h' : Heap} {t' : Nat} {ch : List Addr} {T : Addr} {ob : HO} (I : Inv X pins σ H s) (k : ∀ b o, b ∉ ch → s.heap.get? b = some o → h'.get? b = some o) (hf : ∀ b ∈ ch, FpOk X pins H b) (hT : T ∈ ch) (new : ObjOk X.prog X.w (upd H T ob) h' T ob) :
    Inv X pins σ (upd H T ob) { s with heap := h', toks := t' } := by
  have hn : H T = none := (hf T hT).1
  have nc : ∀ b u, H b = some u → b ∉ ch := fun b u e z => by rw [(hf b z).1] at e; cases e
  refine I.step (g' := s.gens) (d' := s.drawn) (ch := ch) (fun b hb => ?_) (fun b o _ _ hc e _ => k b o hc e) (fun b o _ _ hc e _ => ⟨o.slots, k b o hc e⟩)
    (fun b o hc _ n => by rw [upd_ne (fun z => hc (by rw [z]; exact hT))]; exact n) (fun b o hc e => ⟨o, k b o hc e⟩)
    (fun b xs e => by rw [upd_ne (ne_of_none e hn)]; exact e) (fun b o u e => by rw [upd_ne (ne_of_none e hn)]; exact e) (fun b ps e => ⟨#[], by rw [upd_ne (ne_of_none e hn), e]; simp⟩) (fun m hm => ?_) (fun b u e => ?_) I.bare
  · obtain ⟨_, f1, _, f3, f4, f5⟩ := hf b hb
    exact ⟨f3, f1, f4, f5⟩
  · obtain ⟨o, es, ep, ho, r⟩ := hm
    exact ⟨o, es, ep, k _ o (fun z => (hf _ z).2.1 rfl) ho, r⟩
  · by_cases hb : b = T
    · subst hb; rw [upd_same] at e; cases e; exact new
    · rw [upd_ne hb] at e
      refine (I.hok b u e).stay (fun c v hc q => k c v ?_ q) (fun c q => by rw [upd_ne (ne_of_none q hn)]; exact q) fun c xs q => by rw [upd_ne (ne_of_none q hn)]; exact q
      rcases hc with z | z
      · rw [z]; exact nc b u e
      · exact nc c _ z
/-- a key's call -/
def KeyCall (X : Cx) (A : Around) (pins : List (Addr × Obj)) (σ : L2.St) (J : Hp → Prop) (fk : Addr) (key : D → D) (ds : List D) : Prop :=
  ∀ (d : D) (u : Value) (H' : Hp) (s' : Shared), d ∈ ds → Inv X pins σ H' s' → J H' → Stands X.K X.w H' u d →
    wpAny (model X.prog X.w) A (call (.ref fk) [u]) (CE X.stack X.prog X.w H' s' fun v H2 => Pers H' H2 ∧ J H2 ∧ Rp X.K X.w H2 (key d) v) (fun _ _ => False) s'
/-- between two keys: kS holds those of the first i -/
def KeysAt (X : Cx) (pins : List (Addr × Obj)) (σ : L2.St) (H : Hp) (J : Hp → Prop) (a kS : Addr) (e1 : Nat) (ks : List D) (i : Nat) (s' : Shared) : Prop :=
  ∃ (H' : Hp) (kA : Array Value) (e : Nat), Inv X pins σ H' s' ∧ J H' ∧ Pers H H' ∧ H' a = none ∧ H' kS = none ∧ s'.heap.get? kS = some (seqObj "list" kA e) ∧ s'.heap.get? a = some (seqObj "list" #[] e1) ∧
    PySem.W.EachIs (Stands X.K X.w H') kA.toList (ks.take i)
theorem keys_turn {A : Around} {J : Hp → Prop} {fk a kS : Addr} {e1 : Nat} {key : D → D} {ds : List D} {us : List Value} (turn : KeyCall X A pins σ J fk key ds) (hs : PySem.W.EachIs (Stands X.K X.w H) us ds) (hz : ds.length ≤ sizeLine) (hka : kS ≠ a) (fa : FpOk X pins H a) (fk1 : FpOk X pins H kS) (na : a ∉ frs X.stack) (nk : kS ∉ frs X.stack)
    {E : Value → Shared → Prop} {j : Nat} {x : Value} {s' : Shared} (hx : us[j]? = some x) (h : KeysAt X pins σ H J a kS e1 (ds.map key) j s') :
    wpAny (model X.prog X.w) A (call (.ref fk) [x]).attempt (fun r s2 => ∃ v, r = .ok v ∧ ∀ R : Unit → Shared → Prop, (∀ s3, KeysAt X pins σ H J a kS e1 (ds.map key) (j + 1) s3 → R () s3) → wpAny (model X.prog X.w) A (Builtin.List.listUpdate (.ref kS) (·.push v)) R E s2) E s' := by
  obtain ⟨H', kA, e, I, j0, pp, ha, hk, gk, ga, each⟩ := h
  have hj : j < ds.length := by
    rw [← hs.length]; exact (List.getElem?_eq_some_iff.mp hx).1
  obtain ⟨d, hd⟩ : ∃ d, ds[j]? = some d := ⟨_, List.getElem?_eq_getElem hj⟩
  have st : Stands X.K X.w H x d := hs.zip (x, d) (List.mem_of_getElem? (i := j) (List.getElem?_zip_eq_some.mpr ⟨hx, hd⟩))
  have hkl : kA.size = j := by
    have q := each.length
    rw [Array.length_toList, List.length_take, List.length_map] at q
    omega
  refine wpAny_attempt (wpAny_mono (turn d x H' s' (List.mem_of_getElem? hd) I j0 (st.pers pp)) (fun v s2 q => ⟨v, rfl, fun R hR => ?_⟩) fun _ _ z => z.elim)
  obtain ⟨w, H2, os, bare, un, hok, rv, p2, j2, rk⟩ := q
  have un' := un
  obtain ⟨w', H3, I3, rv', q3⟩ := I.after (Q := fun w' H3 => w' = w ∧ H3 = H2) ⟨w, H2, os, bare, un, hok, rv, rfl, rfl⟩
  obtain ⟨rfl, rfl⟩ := q3
  have gk2 := un'.keep kS _ gk hk nk (by simp)
  have ga2 := un'.keep a _ ga ha na (by simp)
  have hk2 := un'.free kS _ gk hk (by simp)
  have ha2 := un'.free a _ ga ha (by simp)
  have sb := Heap.SameBut.update s2.heap kS (Obj.mapSeq (·.push v))
  obtain ⟨c2, hc2⟩ : ∃ c2, (s2.heap.update kS (Obj.mapSeq (·.push v))).get? kS = some (seqObj "list" (kA.push v) c2) := ⟨_, get?_update_seq gk2 (·.push v)⟩
  refine listUpdate_at gk2 rfl (hR _ ?_) (by omega) (by rw [Array.size_push]; omega)
  refine ⟨H3, kA.push v, c2, I3.turned (t' := s2.toks) (fun b o hb eo => (sb.2 b hb).trans eo) hk2 fk1.2.1 fk1.2.2.2.1 fk1.2.2.2.2.1 fk1.2.2.2.2.2, j2, pp.trans p2, ha2, hk2, hc2, (sb.2 a hka.symm).trans ga2, ?_⟩
  have ek : (ds.map key).take (j + 1) = (ds.map key).take j ++ [key d] := by
    rw [List.take_add_one, List.getElem?_map, hd]; simp
  rw [ek, Array.toList_push]
  exact PySem.W.each_snoc ⟨w', rv, rk⟩ (each.mono fun u y q => q.pers p2)
/-- list.sort(key=f) on a new list of values -/
theorem sortK_new {A : Around} {E : Value → Shared → Prop} {Q : Value → Shared → Prop} {J : Hp → Prop} {fk : Addr} {key : D → D} {ds : List D} {us : List Value} (I : Inv X pins σ H s) (j : J H) (hu : A.units + 55 < cLine) (hs : PySem.W.EachIs (Stands X.K X.w H) us ds) (ok : okSort (ds.map key) = true)
    (turn : KeyCall X A.in1 pins σ J fk key ds)
    (q : ∀ (H1 : Hp) ys s1, J H1 → Pers H H1 → H1 s.heap.objs.size = none → Rps X.K X.w H1 (sortKD key ds) ys → Inv X pins σ (upd H1 s.heap.objs.size (.lst ys)) s1 → Q .none s1) :
    wpAny (model X.prog X.w) A (call (.builtin "list.sort") [.ref s.heap.objs.size] [(Str.ofString "key", .ref fk)]) Q E { s with heap := s.heap.push { cls := .type "list", data := .seq us.toArray } } := by
  obtain ⟨hp, hal, hsk, hd, hl⟩ := okSort_of ok
  rw [List.length_map] at hl
  have lus := hs.length
  have hnew : (s.heap.push { cls := .type "list", data := .seq us.toArray }).get? s.heap.objs.size = some (seqObj "list" us.toArray 0) := Heap.get?_push_size _ rfl
  refine wpAny_call_entry_kw slot_list_sort ⟨_, hnew, rfl⟩ entry_list_sort ?_ (ksk_l1 _ _)
  rw [ksk_t1]; unfold ksk_tree
  generalize ha : s.heap.objs.size = a at *
  generalize hg0 : s.heap.push { cls := .type "list", data := .seq us.toArray } = g0 at *
  have sz0 : g0.objs.size = a + 1 := by rw [← hg0, Heap.size_push, ha]
  obtain ⟨e1, ho1⟩ : ∃ e1, (g0.update a (Obj.mapSeq fun _ => (#[] : Array Value))).get? a = some (seqObj "list" #[] e1) := ⟨_, get?_update_seq hnew fun _ => #[]⟩
  refine wpAny_bind (listItems_at hnew rfl (wpAny_bind (listUpdate_at hnew rfl ?_ (by rw [List.size_toArray]; omega) (Nat.zero_le _))))
  refine wpAny_bind (seqEpoch_at ho1 rfl (wpAny_bind (wpAny_newTuple ?_ (by show us.length ≤ _; omega))))
  refine wpAny_bind (wpAny_newList (wpAny_holding ?_) (Nat.zero_le _))
  generalize hg2 : (g0.update a (Obj.mapSeq fun _ => (#[] : Array Value))).push (seqObj "tuple" us.toArray 0) = g2
  have sz2 : g2.objs.size = a + 2 := by rw [← hg2, size_push', Heap.size_update, sz0]
  have keep0 : ∀ b o, s.heap.get? b = some o → (g2.push (seqObj "list" #[] 0)).get? b = some o := fun b o e => by
    have hb : b ≠ a := by rw [← ha]; exact Nat.ne_of_lt (Heap.lt_size e)
    refine Heap.get?_push_of_some _ ?_
    rw [← hg2]
    refine Heap.get?_push_of_some _ ((Heap.get?_update_ne _ _ _ _ hb).trans ?_)
    rw [← hg0]; exact Heap.get?_push_of_some _ e
  have I2 : Inv X pins σ H { s with heap := g2.push (seqObj "list" #[] 0) } := I.kept (t' := s.toks) keep0
  have gk : (g2.push (seqObj "list" #[] 0)).get? g2.objs.size = some (seqObj "list" #[] 0) := Heap.get?_push_size _ rfl
  have ga : (g2.push (seqObj "list" #[] 0)).get? a = some (seqObj "list" #[] e1) := Heap.get?_push_of_some _ (by rw [← hg2]; exact Heap.get?_push_of_some _ ho1)
  have na0 : H a = none := I.hok.fresh (Nat.le_of_eq ha)
  have nk0 : H g2.objs.size = none := I.hok.fresh (by rw [ha, sz2]; omega)
  have fa : FpOk X pins H a := I.fpOk (Nat.le_of_eq ha) na0
  have fk1 : FpOk X pins H g2.objs.size := I.fpOk (by rw [ha, sz2]; omega) nk0
  have nost : ∀ b, FpOk X pins H b → b ∉ frs X.stack := fun b f z => (List.mem_cons.mp (I.stkSub b z)).elim f.2.1 f.2.2.1
  have hka : g2.objs.size ≠ a := by omega
  show wpAny _ _ (ksk_rest a (.ref fk) false us.toArray e1 (.ref g2.objs.size)) _ _ { s with heap := g2.push (seqObj "list" #[] 0) }
  generalize g2.objs.size = kS at *
  unfold ksk_rest
  refine wpAny_bind (wpAny_rule ?_)
  rw [List.forIn_toArray]
  refine wpAny_bind (ksk_fold (fun i s' => KeysAt X pins σ H J a kS e1 (ds.map key) i s') us 0 _ ⟨H, #[], 0, I2, j, .refl H, na0, nk0, gk, ga, by rw [List.take_zero]; exact .nil⟩ (fun i x s' hx h => ?_) fun s' h => ?_)
  · rw [Nat.zero_add] at h ⊢
    refine wpAny_bind (wpAny_mono (keys_turn turn hs (by omega) hka fa fk1 (nost _ fa) (nost _ fk1) hx h) (fun r s2 hr => ?_) fun _ _ e => e)
    obtain ⟨v, rfl, hr⟩ := hr
    exact wpAny_bind (hr _ fun s3 h3 => wpAny_pure ⟨rfl, h3⟩)
  · obtain ⟨H1, kA, e, I3, j3, pp, ha3, hk3, gk3, ga3, each⟩ := h
    rw [List.take_of_length_le (by rw [List.length_map]; omega)] at each
    have hsz : kA.size = us.length := by
      have := each.length
      rw [Array.length_toList, List.length_map] at this; omega
    have er : PySem.W.EachIs (fun v d => ∃ as, Reads s'.heap v d as) kA.toList (ds.map fun d => pd (key d)) := by
      have := PySem.W.each_map (R := fun v d => ∃ as, Reads s'.heap v d as) pd (reads_of I3 (fun _ _ h => h) hp each)
      rw [List.map_map] at this; exact this
    rw [List.map_map] at hal hsk
    refine wpAny_bind (listItems_at gk3 rfl ?_)
    obtain ⟨G, g1, g2'⟩ := restrict s'.heap fun b => decide (b ≠ kS)
    refine PySem.W.keyH_end (κ := PySem.W.dataKind s'.heap (ds.map fun d => pd (key d))) (h₁ := G) (fun b o hb e => ?_) (g2' kS (by simp)) gk3 ga3 hka (PySem.W.SortsAt.data er hal hsk fun d hd' => ?_) hsz (by omega) fun h' tk c kp hq => ⟨.none, rfl, ?_⟩
    · by_cases hbk : b = kS
      · rw [hbk, g2' kS (by simp)] at e; cases e
      · rw [g1 b (by simp [hbk])] at e; exact e
    · obtain ⟨d0, hd0, rfl⟩ := List.mem_map.mp hd'
      have := hd _ (List.mem_map.mpr ⟨d0, hd0, rfl⟩)
      show A.units + 1 + _ < _
      omega
    · have eo := PySem.W.keyedOut_each (rev := false) (fun d => pd (key d)) ⟨s'.heap, kA.toList, hal, rfl, er⟩ hs
      obtain ⟨ys, r1, r2⟩ := of_stands (each_imp (fun u d h => Stands.pers pp h) eo)
      have ly : ys.length = ds.length := by rw [r2.length]; simp
      refine q H1 ys _ j3 pp ha3 r2 (Inv.knownAt (ch := [a, kS]) I3 (fun b o hb eb => ?_) (fun b hb => ?_) (by simp) ⟨by omega, _, c, r1, hq⟩)
      · have hb1 : b ≠ a := fun z => hb (by simp [z])
        have hb2 : b ≠ kS := fun z => hb (by simp [z])
        exact kp b o hb1 (by rw [g1 b (by simp [hb2])]; exact eb)
      · have hb' : b = a ∨ b = kS := by simpa using hb
        rcases hb' with rfl | rfl
        · exact ⟨ha3, fa.2⟩
        · exact ⟨hk3, fk1.2⟩
/-- sorted(x, key=f), once the items are in a row -/
theorem sortedK_of {v : Value} {ds : List D} {J : Hp → Prop} {fk : Addr} {key : D → D} {Q : VK} (hu : X.A.units + 64 < cLine) (ok : okSort (ds.map key) = true)
    (hc : ∀ (R : List Value → Shared → Prop) (E : Value → Shared → Prop), (∀ us s1, Inv X pins σ H s1 → PySem.W.EachIs (Stands X.K X.w H) us ds → R us s1) → wpAny (model X.prog X.w) X.A.in1 (collect v) R E s) (j : J H) (turn : KeyCall X X.A.in1.in1 pins σ J fk key ds)
    (q : ∀ H1 p ys, J H1 → Pers H H1 → H1 p = none → Rps X.K X.w H1 (sortKD key ds) ys → Q (.ref p) (upd H1 p (.lst ys))) : wpAny (model X.prog X.w) X.A (call (.builtin "sorted") [v] [(Str.ofString "key", .ref fk)]) (EP X pins σ Q) X.xe s := by
  refine call_function_entry_kw kind_sorted plain_sorted entry_sorted (ksk_s1 _ _) ?_
  unfold Builtin.«sorted»
  refine wpAny_bind (m := checkCount "sorted" 1 1 _) (wpAny_pure (wpAny_bind (hc _ _ fun us s1 I1 hs => ?_)))
  have hl := (okSort_of ok).2.2.2.2
  rw [List.length_map] at hl
  refine wpAny_bind (wpAny_newList ?_ (by have := hs.length; omega))
  refine wpAny_bind (wpAny_holding (wpAny_mono (sortK_new (A := X.A.in1) (E := X.xe) (Q := fun _ s' => ∃ w, EP X pins σ Q w s' ∧ w = .ref s1.heap.objs.size) I1 j (by show X.A.units + 1 + 55 < _; omega) hs ok turn fun H1 ys s2 j2 p2 n2 r I2 => ?_) (fun _ s' x => ?_) fun _ _ e => ?_))
  · exact ⟨_, ⟨.ref s1.heap.objs.size, _, I2, rfl, q _ _ ys j2 p2 n2 r⟩, rfl⟩
  · obtain ⟨w, x, rfl⟩ := x
    exact wpAny_pure ⟨_, rfl, x⟩
  · exact e
end

theorem pok_notOwn {d : D} (h : pok d = true) : own d = false := by cases d <;> first | rfl | simp [pok] at h
def rSortK (X : Cx) : List V → List V → Hp → VK → Prop := fun xs zs H Q => ∃ v ds fk key J, xs = [v] ∧ zs = [.ref fk] ∧ Row X.K X.w H v ds ∧ okSort (ds.map key) = true ∧ J H ∧ (∀ pins σ, KeyCall X X.A.in1.in1 pins σ J fk key ds) ∧
  ∀ H1 p ys, J H1 → Pers H H1 → H1 p = none → Rps X.K X.w H1 (sortKD key ds) ys → Q (.ref p) (upd H1 p (.lst ys))
theorem Room.in2 {k : Nat} {A : Around} (r : Room (k + 1) A) : Room k A.in1.in1 :=
  ⟨r.hd, by have := r.dp; show A.depth + 3 * k + 5 < _; omega, by have := r.un; show A.units + 1 + 1 + 16 * k + 200 < _; omega⟩
section
variable {X : Cx} {C : Ct}
theorem call_sortK (hc : X.calm = true) (hu : X.A.units + 64 < cLine) : CallRK X (.builtin "sorted") [Str.ofString "key"] (rSortK X) := by
  intro pins s σ H xs zs us ws Q I r rz h
  obtain ⟨v, ds, fk, key, J, rfl, rfl, hR, ok, j, turn, q⟩ := h
  obtain ⟨u, rfl, ru⟩ := vals1 r
  obtain ⟨w1, rfl, e1⟩ := vals1 rz
  obtain rfl : w1 = Value.ref fk := e1
  exact sortedK_of (key := key) hu ok (fun R E k => collect_row hc I hR ru R E fun us s1 I1 hs => k us s1 I1 hs) j (turn pins σ) q
end
namespace W
def sortK (F : D → W D) (d : D) : W D := fun A Q _ => ∃ (row : List D) (key : D → D), rowOf A d = some row ∧ (∀ x ∈ row, F x A (fun k A2 => k = key x ∧ A2 = A) (fun _ _ _ => False)) ∧ okSort (row.map key) = true ∧ Q (.ml (sortKD key row)) A
def bSK (F : D → W D) (ra : W D) : W D := bind ra (sortK F)
@[simp] theorem bSK_ap (F : D → W D) (ra : W D) (A Q E) : bSK F ra A Q E = ra A (fun d A1 => sortK F d A1 Q E) E := (rfl)
theorem sortK_of {F : D → W D} {d : D} {A : AH} {Q : D → AH → Prop} {E : X3} (row : List D) (key : D → D) (h1 : rowOf A d = some row) (h2 : ∀ x ∈ row, ∀ Q' E', Q' (key x) A → F x A Q' E') (h3 : okSort (row.map key) = true) (q : Q (.ml (sortKD key row)) A) : sortK F d A Q E :=
  ⟨row, key, h1, fun x hx => h2 x hx _ _ ⟨rfl, rfl⟩, h3, q⟩
end W
end T3
set_option autoImplicit false
namespace T3
open PySem PySem.Spec PyProof.Rows L2

/-! ### a lambda as a key -/
/-- a table may have grown; all else that was tracked is as it was -/
structure LamStep (H H1 : Hp) : Prop where
  keep : ∀ b o, H b = some o → (∀ ps, o ≠ .tbl ps) → H1 b = some o
  none : ∀ b, H1 b = none → H b = none
  tbl : Tbl H H1
theorem LamStep.pers {H H1 : Hp} (s : LamStep H H1) : Pers H H1 := ⟨fun b xs e => s.keep b _ e (fun _ h => nomatch h), fun b o u e => s.keep b _ e (fun _ h => nomatch h)⟩
section
variable {K : PySem.W.Frag} {w : World} {C : Ct} {z : S3} {A : AH} {σ : L2.St} {H H1 : Hp}
theorem Rel.lam (r : Rel K w C A H) (s : LamStep H H1) : Rel K w C A H1 where
  heap := fun a ob h => by
    have q := r.heap a ob h
    obtain ⟨u, hu, c⟩ := q.there
    exact q.keep s.pers (by rw [hu]; exact s.keep _ _ hu c.2.2)
  prot := fun b o e1 e2 e3 => s.keep _ _ (r.prot b o e1 e2 e3) e3
  dom := r.dom
  mono := fun b h => r.mono b (s.none b h)
  tbl := r.tbl.trans s.tbl
theorem Slots.lam (t : Slots K w C z A σ H) (s : LamStep H H1) : Slots K w C z A σ H1 where
  val := fun i d h => by
    obtain ⟨v, h1, h2⟩ := t.val i d h
    refine ⟨v, h1, h2.keep s.pers fun o a ea => ?_⟩
    obtain ⟨b, ob, eb, _, rb⟩ := h2.ob o
    rw [ea] at eb; cases eb
    obtain ⟨u, hu, c⟩ := rb.there
    rw [hu]; exact s.keep _ _ hu c.2.2
  sep := t.sep
  uniq := t.uniq
  len := t.len
end
/-- a lambda's object -/
def lamO (params : Arguments) (body : Expr) (scope : Scope) (pm : Value) (c' : Addr) (ctv : Value) : Obj := PySem.W.kla_obj "<lambda>" lamQ params body scope [] pm c' ctv
section
variable {X : Cx} {pins : List (Addr × Obj)} {σ : L2.St} {H : Hp} {s : Shared}
/-- an object of ours is known from now on -/
theorem Inv.known {f : Addr} {ob : Obj} (I : Inv X pins σ H s) (F : FpOk X pins H f) (e : s.heap.get? f = some ob) : Inv X pins σ (upd H f (.frz ob (.own f))) s :=
  Inv.knownAt (h' := s.heap) (t' := s.toks) (ch := [f]) (T := f) (ob := .frz ob (.own f)) I (fun _ _ _ h => h) (fun b hb => by rw [List.mem_singleton.mp hb]; exact F) (by simp) ⟨e, ob, e⟩
/-- the lambda is made -/
theorem lam_make {c P : Addr} {params : Arguments} {body : Expr} {scope : Scope} {lpos : Pos} {E : Value → Shared → Prop} {Q : Value → Shared → Prop} (I : Inv X pins σ H s) (TB : LamX.TabB X.base X.mg c P) (hcode : X.env.code = .ref c) (hq : X.env.qual ++ "<lambda>" = lamQ)
    (hT : ∃ ps, H P = some (.tbl ps) ∧ LamT H ps) (hdef : defaultsOf params X.env = ([], [])) (hn : ∀ y ∈ scope.names, y.2 ≠ .free) (hclo : cloFrom X.env.cells scope.names [] = [])
    (h : ∀ (f c' : Addr) (oc : Obj) (pm ctv : Value) (H1 : Hp) (s1 : Shared), Inv X pins σ H1 s1 → LamStep H H1 → H1 f = some (.frz (lamO params body scope pm c' ctv) (.own f)) → H1 c' = some (.frz oc (CodeQ c')) → Q (.ref f) s1) :
    wpAny (model X.prog X.w) X.A (eval (.Lambda params body scope lpos) X.env) Q E s := by
  obtain ⟨ps, hP, good, ha⟩ := hT
  have clo := closure_ok (scope := scope) (env := X.env) fun y hy e => absurd e (hn y hy)
  rw [hclo] at clo
  have gm : s.heap.Ns mainGlobals X.mg := I.mod.glob.keeps I.bk
  have hd : PySem.W.CodeHd s.heap c P := TB.code.keeps I.bk
  have hb : s.heap.BuiltinsAt X.mg P := TB.bm.keeps I.bk
  have hPo : s.heap.get? P = some { cls := .none, data := .fields ps } := I.hok P _ hP
  refine PySem.W.kla_eval hdef ?_
  rw [hq]
  cases hc : codeAmong lpos ps.toList with
  | none =>
    refine PySem.W.kla_makeFunction clo I.ok.glob gm hcode hd hPo good hc TB.gP hb fun c1 ctv g tk hx hge hlt hrec htb => ?_
    obtain ⟨c2, oc, vs, t, e2, hoc, hdt, hv⟩ := hrec
    cases e2
    have hsz : s.heap.objs.size ≤ g.objs.size := Nat.le_trans hge (Nat.le_of_lt hlt)
    have nC : H c1 = none := I.hok.fresh hge
    have nF : H g.objs.size = none := I.hok.fresh hsz
    have nPC : P ≠ c1 := ne_of_none hP nC
    have nPF : P ≠ g.objs.size := ne_of_none hP nF
    have nCF : c1 ≠ g.objs.size := Nat.ne_of_lt hlt
    have I1 := LamX.inv_table (q := lamQ) (t' := tk) (more := #[rawInt lpos.line, rawInt lpos.col, .ref c1]) (h' := g.push (lamO params body scope ((X.mg "__name__").getD .none) c1 ctv)) I hP
      (fun b o hb e => Heap.get?_push_of_some _ (hx b o hb e)) (Heap.get?_push_of_some _ htb) hge ⟨oc, vs, t, Heap.get?_push_of_some _ hoc, hdt, hv⟩
    obtain ⟨o2, I2⟩ := Inv.freeze I1 (a := c1) upd_same rfl
    have I3 := Inv.known I2 (f := g.objs.size) (I.fpOk hsz (by rw [upd_ne nCF.symm, upd_ne nCF.symm, upd_ne nPF.symm]; exact nF)) (Heap.get?_push_size _ rfl)
    generalize hG : upd (upd (upd (upd H P (.tbl (ps ++ #[rawInt lpos.line, rawInt lpos.col, .ref c1]))) c1 (LamX.CodeO c1 lamQ)) c1 (.frz o2 (LamX.CodeO c1 lamQ))) g.objs.size (.frz (lamO params body scope ((X.mg "__name__").getD .none) c1 ctv) (.own g.objs.size)) = G at I3
    have gF : G g.objs.size = some (.frz (lamO params body scope ((X.mg "__name__").getD .none) c1 ctv) (.own g.objs.size)) := by rw [← hG]; exact upd_same
    have gC : G c1 = some (.frz o2 (CodeQ c1)) := by rw [← hG, upd_ne nCF]; exact upd_same
    have gP : G P = some (.tbl (ps ++ #[rawInt lpos.line, rawInt lpos.col, .ref c1])) := by rw [← hG, upd_ne nPF, upd_ne nPC, upd_ne nPC]; exact upd_same
    have gO : ∀ b, b ≠ g.objs.size → b ≠ c1 → b ≠ P → G b = H b := fun b h1 h2 h3 => by rw [← hG, upd_ne h1, upd_ne h2, upd_ne h2, upd_ne h3]
    have kp : ∀ b o, H b = some o → (∀ ps, o ≠ .tbl ps) → G b = some o := fun b o e n => by
      rw [gO b (ne_of_none e nF) (ne_of_none e nC) (fun q => by rw [q, hP] at e; cases e; exact n _ rfl)]; exact e
    have pe : Pers H G := ⟨fun b xs e => kp b _ e (fun _ h => nomatch h), fun b o u e => kp b _ e (fun _ h => nomatch h)⟩
    refine h _ c1 o2 _ ctv G _ I3 ⟨kp, fun b e => ?_, fun b ps0 e => ?_⟩ gF gC
    · have h1 : b ≠ g.objs.size := fun q => by rw [q, gF] at e; cases e
      have h2 : b ≠ c1 := fun q => by rw [q, gC] at e; cases e
      have h3 : b ≠ P := fun q => by rw [q, gP] at e; cases e
      rw [gO b h1 h2 h3] at e; exact e
    · by_cases hbP : b = P
      · subst hbP
        rw [hP] at e; cases e
        have eL : (ps ++ #[rawInt lpos.line, rawInt lpos.col, .ref c1]).toList = ps.toList ++ [rawInt lpos.line, rawInt lpos.col, .ref c1] := by simp
        refine ⟨_, gP, fun _ => ⟨by rw [eL]; exact PySem.TriplesOk_snoc _ _ _ _ good, fun p' cv hcv => ?_⟩⟩
        rw [eL] at hcv
        rcases LamX.among_app _ good hcv with q | q
        · obtain ⟨c0, o0, e1, e2⟩ := ha p' cv q
          exact ⟨c0, o0, e1, pe.2 _ _ _ e2⟩
        · exact ⟨c1, o2, q, gC⟩
      · exact ⟨ps0, by rw [gO b (ne_of_none e nF) (ne_of_none e nC) hbP]; exact e, LamT.pers pe⟩
  | some cv =>
    obtain ⟨c1, oc, e, hco⟩ := ha lpos cv hc
    subst e
    refine PySem.W.kla_makeFunctionHit clo I.ok.glob gm hcode hd hPo good hc hb fun ctv g tk hx hsz => ?_
    have nF : H g.objs.size = none := I.hok.fresh hsz
    have I1 : Inv X pins σ H { s with heap := g.push (lamO params body scope ((X.mg "__name__").getD .none) c1 ctv), toks := tk } := I.kept fun b o e => Heap.get?_push_of_some _ (hx b o e)
    have I2 := Inv.known I1 (f := g.objs.size) (I.fpOk hsz nF) (Heap.get?_push_size _ rfl)
    have ex := ext_upd (o := .frz (lamO params body scope ((X.mg "__name__").getD .none) c1 ctv) (.own g.objs.size)) nF
    refine h _ c1 oc _ ctv _ _ I2 ⟨fun b o e _ => ex b o e, fun b e => ?_, (Tbl.refl H).ext ex⟩ upd_same (ex _ _ hco)
    by_cases hb : b = g.objs.size
    · rw [hb, upd_same] at e; cases e
    · rw [upd_ne hb] at e; exact e
/-- what a lambda's key keeps -/
def LamJ (X : Cx) (C : Ct) (z : S3) (A1 : AH) (σ0 : L2.St) (f c' : Addr) (ob oc : Obj) (H : Hp) : Prop := Rel X.K X.w C A1 H ∧ Slots X.K X.w C z A1 σ0 H ∧ H f = some (.frz ob (.own f)) ∧ H c' = some (.frz oc (CodeQ c'))
theorem key_lam {C : Ct} {k : Nat} {f c' : Addr} {oc : Obj} {params : Arguments} {body : Expr} {scope : Scope} {pm ctv : Value} {N : List Str} {a : Str} {t : TE3} {z : S3} {A1 : AH} {σ0 : L2.St} {key : D → D} {row : List D}
    (S : FnScope N [a] scope) (hbind : ∀ u, bindArgs (PySem.W.kla_fn "<lambda>" lamQ params body scope [] pm (.ref c') ctv) ⟨[u], []⟩ = pure [(a, u)]) (hr : Room (k + 1) X.A.in1.in1)
    (hbody : ∀ (A : Around) (outer : List Env) (s : Shared) (H : Hp) (C : Ct), Room k (A.deeper (envOfC lamQ scope s.heap.objs.size f (.ref c'))) → PE3 (cxOf CX0 X.prog X.w X.K X.mg X.base N lamQ scope f (.ref c') A outer s H (fun _ _ _ => False)) C body t)
    (hs : ∀ x ∈ row, t (start3 N [x]) A1 (fun k A2 => k = key x ∧ A2 = A1)) (ok : okSort (row.map key) = true) {pins : List (Addr × Obj)} {σ : L2.St} :
    KeyCall X X.A.in1.in1 pins σ (LamJ X C z A1 σ0 f c' (lamO params body scope pm c' ctv) oc) f key row := fun d u H1 s1 hd I ⟨r1, s2, hf, hcq⟩ ⟨x, rx, rp⟩ => by
  have of1 : s1.heap.get? f = some (lamO params body scope pm c' ctv) := (I.hok f _ hf).1
  obtain ⟨_, ⟨oc2, vs, tq, hoc, hdc, hvc⟩, _⟩ := I.hok c' _ hcq
  have e0 := I.env0.in1.in1
  have lim : s1.heap.NoLimit := I.nolimit
  have hk : ∀ y ∈ [(a, u)], scope.names.lookup y.1 = some .local ∨ (scope.names.lookup y.1 = some .cell ∧ ((cellsFrom (s1.heap.objs.size + 1) scope.names []).lookup y.1).isSome = true) := fun y hy => by
    obtain rfl := List.mem_singleton.mp hy
    rcases S.par a (by simp) with q | q
    · exact .inl q
    · exact .inr ⟨q, PySem.W.cellsFrom_some _ _ _ (.inl q)⟩
  refine wpAny_call (codeAny_mono (PySem.W.kla_callFunE (R := CR CX0 X.stack X.prog X.w H1 s1 (fun v H2 => Pers H1 H2 ∧ LamJ X C z A1 σ0 f c' (lamO params body scope pm c' ctv) oc H2 ∧ Rp X.K X.w H2 (key d) v) (fun _ _ _ => False)) hr.depth of1 rfl S.co S.gen rfl ⟨c', oc2, vs, tq, rfl, hoc, hdc, hvc⟩ ?_) fun r s' hq => ?_)
  · rw [hbind u]
    refine wpAny_pure (wpAny_newFunctionEnv_cells S.kind hk fun env he s3 x3 => ?_)
    subst he
    refine ⟨lim.keeps x3.toInCall.keep, PySem.W.kla_codeExpr ?_⟩
    have I2 : Inv (cxOf CX0 X.prog X.w X.K X.mg X.base N lamQ scope f (.ref c') X.A.in1.in1 X.stack s1 H1 (fun _ _ _ => False)) [] (L2.start N [x]) H1 s3 := inv_start (ps := [a]) (us := [u]) S hr.hd e0 rfl (.cons rx .nil) x3
    refine wpAny_mono ((hbody X.A.in1.in1 X.stack s1 H1 ⟨H1, A1⟩ (hr.deeper _)).run [] s3 (L2.start N [x]) H1 (fun v H2 => Pers H1 H2 ∧ LamJ X C z A1 σ0 f c' (lamO params body scope pm c' ctv) oc H2 ∧ Rp X.K X.w H2 (key d) v) I2
      ⟨start3 N [d], A1, _, Rel.start r1.heap, slots_start (Rps.one rp), hs d hd, fun d2 A2 v H2 q r2 _ _ t2 => ?_⟩) (fun v s' hq => ?_) fun e s' hq => hq
    · obtain ⟨rfl, rfl⟩ := q
      obtain ⟨r3, s3', p3⟩ := call_back r1 s2 r2
      exact ⟨p3, ⟨r3, s3', p3.2 _ _ _ hf, p3.2 _ _ _ hcq⟩, t2.val.rp (pok_notOwn (poks_mem (okSort_of ok).1 _ (List.mem_map.mpr ⟨d, hd, rfl⟩)))⟩
    · obtain ⟨w2, H2, J2, rv, q⟩ := hq
      exact ⟨w2, H2, J2.os, J2.bare, J2.base, J2.hok, rv, q⟩
  · cases r with
    | error e => exact (show False from hq).elim
    | ok fl =>
      cases fl with
      | ret u => exact hq
      | next => exact False.elim hq
      | brk => exact False.elim hq
      | cont => exact False.elim hq
end
/-- the table at P stands -/
def HasT (P : Addr) (H : Hp) : Prop := ∃ ps, H P = some (.tbl ps) ∧ LamT H ps
theorem HasT.rel {K : PySem.W.Frag} {w : World} {C : Ct} {A : AH} {H : Hp} {P : Addr} (h : HasT P C.H0) (r : Rel K w C A H) : HasT P H := by
  obtain ⟨ps, e, g⟩ := h
  obtain ⟨p1, e1, g1⟩ := r.tbl P ps e
  exact ⟨p1, e1, g1 g⟩
def eSortL (N : List Str) (t ta : TE3) : TE3 := fun z A Q => ta z A fun d A1 => ∃ (row : List D) (key : D → D), rowOf A1 d = some row ∧ (∀ x ∈ row, t (start3 N [x]) A1 (fun k A2 => k = key x ∧ A2 = A1)) ∧ okSort (row.map key) = true ∧ Q (.ml (sortKD key row)) A1
section
variable {X : Cx} {C : Ct} {e : Expr} {ta t : TE3}
def tLamV (X : Cx) (P : Addr) (params : Arguments) (body : Expr) (scope : Scope) : TE := fun _ H Q => HasT P H ∧ ∀ (f c' : Addr) (oc : Obj) (pm ctv : Value) (H1 : Hp), LamStep H H1 → H1 f = some (.frz (lamO params body scope pm c' ctv) (.own f)) → H1 c' = some (.frz oc (CodeQ c')) → Q (.ref f) H1
theorem pe_lam {c P : Addr} {params : Arguments} {body : Expr} {scope : Scope} {lpos : Pos} (TB : LamX.TabB X.base X.mg c P) (hcode : X.env.code = .ref c) (hq : X.env.qual ++ "<lambda>" = lamQ) (hdef : defaultsOf params X.env = ([], [])) (hn : ∀ y ∈ scope.names, y.2 ≠ .free) (hclo : cloFrom X.env.cells scope.names [] = []) :
    PE X (.Lambda params body scope lpos) (tLamV X P params body scope) := ⟨fun pins s σ H Q I ⟨hT, h⟩ => lam_make I TB hcode hq hT hdef hn hclo fun f c' oc pm ctv H1 s1 I1 st hf hcq => ⟨.ref f, H1, I1, rfl, h f c' oc pm ctv H1 st hf hcq⟩⟩
theorem pe3_sortL {k : Nat} {N : List Str} {a : Str} {params : Arguments} {body : Expr} {scope : Scope} {c P : Addr} {lpos p pos kpos : Pos} (TB : LamX.TabB X.base X.mg c P) (hcode : X.env.code = .ref c) (hP : HasT P C.H0) (hr : Room (k + 2) X.A) (hc : X.calm = true) (hu : X.A.units + 64 < cLine) (hg : Gl X "sorted") (hm : X.mg "sorted" = none) (ha : PB3 X C e ta)
    (S : FnScope N [a] scope) (hbind : ∀ (pm ctv : Value) (c' : Addr) (u : Value), bindArgs (PySem.W.kla_fn "<lambda>" lamQ params body scope [] pm (.ref c') ctv) ⟨[u], []⟩ = pure [(a, u)])
    (hbody : ∀ (f c' : Addr) (A : Around) (outer : List Env) (s : Shared) (H : Hp) (C : Ct), Room k (A.deeper (envOfC lamQ scope s.heap.objs.size f (.ref c'))) → PE3 (cxOf CX0 X.prog X.w X.K X.mg X.base N lamQ scope f (.ref c') A outer s H (fun _ _ _ => False)) C body t)
    (hq : X.env.qual ++ "<lambda>" = lamQ := by rfl) (hdef : defaultsOf params X.env = ([], []) := by rfl) (hclo : cloFrom X.env.cells scope.names [] = [] := by rfl)
    (he : starEach [e] X.env = (false, eval e X.env) :: starEach [] X.env := by rfl) (he2 : backTo pos (starEach [e] X.env) = (false, eval e X.env) :: backTo pos (starEach [] X.env) := by rfl) (hpl : (backTo pos (starEach [e] X.env)).any (·.1) = false := by rfl)
    (hall : (backToKw pos (keywordEach [⟨some (Str.ofString "key"), .Lambda params body scope lpos, kpos⟩] X.env)).all (·.1.isSome) = true := by rfl) (hnone : (backToKw pos (keywordEach [⟨some (Str.ofString "key"), .Lambda params body scope lpos, kpos⟩] X.env)).any (·.1.isNone) = false := by rfl) (hks : (backToKw pos (keywordEach [⟨some (Str.ofString "key"), .Lambda params body scope lpos, kpos⟩] X.env)).filterMap (·.1) = [Str.ofString "key"] := by rfl) :
    PE3 X C (.Call (.Name "sorted" p) [e] [⟨some (Str.ofString "key"), .Lambda params body scope lpos, kpos⟩] pos) (eSortL N t ta) := by
  refine PE.imp (pe_callBK (call_sortK hc hu) hg hm (by decide +kernel) (pa_cons ha pa_nil he) (pk_cons (pe_lam TB hcode hq hdef S.nofree hclo) pk_nil) (by decide) (by decide) he2 hpl hall hnone hks) fun σ H Q hq => ?_
  obtain ⟨z, A, Q3, r0, s0, q3, g⟩ := hq
  refine ⟨z, A, _, r0, s0, q3, fun d A1 v H1 q1 r1 s1 p1 t1 => ?_⟩
  obtain ⟨row, key, hrow, hsp, ok, q2⟩ := q1
  refine ⟨hP.rel r1, fun f c' oc pm ctv H2 st hf hcq => ?_⟩
  have r2 := Rel.lam r1 st
  have s2 := Slots.lam s1 st
  show rSortK X [v] [.ref f] H2 Q
  refine ⟨v, row, f, key, LamJ X C z A1 σ f c' (lamO params body scope pm c' ctv) oc, rfl, rfl, (t1.later st.pers).row r2 s2 hrow, ok, ⟨r2, s2, hf, hcq⟩, fun pins σ' => key_lam S (hbind pm ctv c') (Room.in2 hr) (hbody f c') hsp ok, fun H3 l ys j3 p3 n3 hy => ?_⟩
  exact low.gv j3.1 j3.2.1 g ((p1.trans st.pers).trans p3) q2 (.lst n3 hy)
end
theorem je_sortL {E : X3} {z : S3} {N : List Str} {F : D → W D} {t ta : TE3} {ra : W D} (hF : ∀ (E' : X3) (x : D), JE E' t (start3 N [x]) (F x)) (h : JE E ta z ra) : JE E (eSortL N t ta) z (W.bSK F ra) := fun A Q Q' q m => h A _ _ q fun d A1 ⟨row, key, h1, h2, h3, q2⟩ =>
  ⟨row, key, h1, fun x hx => hF _ x A1 _ _ (h2 x hx) fun _ _ h => h, h3, m _ _ q2⟩

/-! ### defs that want the table -/
def lspT (K : PySem.W.Frag) (w : World) (P : Addr) (sp : Sp3) : Sp := fun vs H Q E => HasT P H ∧ lsp K w sp vs H Q E
def Def3T (Pr : Program) (w : World) (K : PySem.W.Frag) (mg : Str → Option Value) (base : Heap) (P : Addr) (x : Str) (k : Nat) (ps : List Str) (sp : Sp3) : Prop :=
  ∃ (f : Addr) (fd : FuncData), FnOk Pr w K mg base CX0 k f fd ps (lspT K w P sp) ∧ mg x = some (.ref f) ∧ PySem.W.keepIn K (.ref f) = true ∧ L2.Binds K fd ps []
section
variable {X : Cx} {C : Ct} {k : Nat} {ps : List Str} {sp : Sp3} {x : Str} {p pos : Pos} {e : Expr} {es : List Expr} {t : TA3} {P : Addr}
theorem pe3_defT (G : Def3T X.prog X.w X.K X.mg X.base P x k ps sp) (hP : HasT P C.H0) (hr : Room k X.A) (hg : Gl X x) (ha : PA3 X C (e :: es) t) (hdb : (x == ("__debug__" : Str)) = false := by decide)
    (he : starEach (e :: es) X.env = (false, eval e X.env) :: starEach es X.env := by rfl) (hpl : (backTo pos (starEach es X.env)).any (·.1) = false := by rfl) : PE3 X C (.Call (.Name x p) (e :: es) [] pos) (eCall sp [] t) := by
  obtain ⟨f, fd, F, hm, hk, hb⟩ := G
  refine PE.imp (pe_call (dvs := []) F hr hg hm hk hb .nil pass0 ha hdb he hpl) fun σ H Q hq => ?_
  obtain ⟨z, A, Q3, r, s, q, g⟩ := hq
  refine ⟨z, A, _, r, s, q, fun ds A1 vs H1 q1 r1 s1 p1 t1 => ⟨hP.rel r1, ds, A1, Q3, by rw [List.append_nil]; exact t1, r1.heap, by rw [List.append_nil] at q1; exact q1, fun d A2 v H2 q2 r2 rv al => ?_⟩⟩
  obtain ⟨r3, s3, p3⟩ := call_back r1 s1 r2
  exact g d A2 v H2 q2 r3 s3 (p1.trans p3) (call_tmp r1 s1 rv al)
end
section
variable {Pr : Program} {w : World} {K : PySem.W.Frag} {mg : Str → Option Value} {base : Heap}
theorem fn3T {P : Addr} {x : Str} {st : Stmt} {f : Addr} {N ps : List Str} {k : Nat} {sp : Sp3} {t : TS3} {dV kV doc pm cdv ct oc : Value} {an od : Option Addr} {osl : Array (Option Value)}
    (lk : K.lookup f = some ⟨oc, od, .func (PySem.W.fnOf x x (defArgs st) (defBody st) (defScope st) dV kV doc pm an cdv ct), osl⟩) (hcd : PySem.W.codeIn K cdv x = true) (S : FnScope N ps (defScope st)) (len : ∀ ds A Q E, sp ds A Q E → ds.length = ps.length)
    (hbody : ∀ (A : Around) (outer : List Env) (s : Shared) (H : Hp) (E : XK) (C : Ct), HasT P C.H0 → Room k (A.deeper (envOfC x (defScope st) s.heap.objs.size f cdv)) → PSs3 (cxOf CX0 Pr w K mg base N x (defScope st) f cdv A outer s H E).nox C (defBody st) t)
    (m : ∀ ds A Q, sp ds A Q (fun _ _ _ => False) → t { nx := fun _ A' => Q .non A', rt := Q } (start3 N ds) A) : FnOk Pr w K mg base CX0 (k + 1) f (PySem.W.fnOf x x (defArgs st) (defBody st) (defScope st) dV kV doc pm an cdv ct) ps (lspT K w P sp) := by
  have hl : ∀ vs H Q E, lspT K w P sp vs H Q E → vs.length = ps.length := fun vs H Q E h => by
    obtain ⟨_, ds, A, Q3, h1, _, h3, _⟩ := h
    rw [h1.length]; exact len _ _ _ _ h3
  refine ⟨hl, fun A outer s H args us vs Q E hr e0 hb hv hs => ?_⟩
  refine LamX.run_ofS (N := N) lk hcd S hr e0 hb hv (hl _ _ _ _ hs) fun hr2 => ?_
  obtain ⟨hT, ds, A3, Q3, h1, h2, h3, h4⟩ := hs
  refine ⟨_, (hbody A outer s H E ⟨H, A3⟩ hT hr2).nox, start3 N ds, A3, _, Rel.start h2, slots_start h1, m ds A3 Q3 h3, ?_⟩
  exact ⟨fun z A' σ H' q r _ _ => h4 .non A' .non H' q r (.of (by rw [Rp])) (fun o => by simp [own] at o), fun d A' v H' q r rv al _ => h4 d A' v H' q r rv al, fun _ _ _ _ q => q.elim, fun _ _ _ _ q => q.elim⟩
end
end T3
set_option autoImplicit false
namespace T3
open PySem PySem.Spec PyProof.Rows L2

/-! ### the end of a law that makes a lambda -/
section
variable {Pr : Program} {w : World} {K : PySem.W.Frag} {mg : Str → Option Value} {base : Heap}
theorem hok_freeze {H : Hp} {h : Heap} {a : Addr} {xs : List V} {o : Obj} (hok : HOk Pr w H h) (e : H a = some (.lst xs)) (ho : h.get? a = some o) : HOk Pr w (upd H a (.frz o (.lst xs))) h := by
  have nt : ∀ b ys, H b = some (.tup ys) → b ≠ a := fun b ys e' q => by rw [q, e] at e'; cases e'
  have nw : ∀ b y, H b = some (.own y) → b ≠ a := fun b y e' q => by rw [q, e] at e'; cases e'
  have st : ∀ b v, H b = some v → ObjOk Pr w (upd H a (.frz o (.lst xs))) h b v := fun b v e' =>
    (hok b v e').stay (fun _ _ _ q => q) (fun c q => by rw [upd_ne (nw c b q)]; exact q) fun c ys q => by rw [upd_ne (nt c ys q)]; exact q
  intro b v e'
  by_cases hb : b = a
  · subst hb
    rw [upd_same] at e'; cases e'
    exact ⟨ho, st _ _ e⟩
  · rw [upd_ne hb] at e'
    exact st _ _ e'
def spTop (K : PySem.W.Frag) (P : Addr) : Sp := fun vs H Q _ => ∃ (a : Addr) (ns : List Int), vs = [.ref a] ∧ H P = some (.tbl #[]) ∧ SqL K H a (ns.map V.int) ∧ ns.length ≤ 63 ∧ ∀ v H', v = V.bl true → Q v H'
theorem hasT_of {P : Addr} {H : Hp} (h : H P = some (.tbl #[])) : HasT P H := ⟨#[], h, trivial, fun pos cv hc => by
  have z : codeAmong pos [] = some cv := hc
  simp [codeAmong] at z⟩
theorem fnTop {k : Nat} {f P : Addr} {fd : FuncData} {x : Str} {F : D → W D} (hlaw : ∀ ns : List Int, ns.length ≤ 63 → ∀ (Q : D → AH → Prop) (E : X3) (A : AH), (∀ A, Q (.bl true) A) → F (script ns) A Q E)
    (G : FnOk Pr w K mg base CX0 k f fd [x] (lspT K w P (sp1 F))) : FnOk Pr w K mg base CX0 k f fd [x] (spTop K P) := by
  refine ⟨fun vs H Q E ⟨a, ns, e, _⟩ => by rw [e]; rfl, fun A outer s H args us vs Q E hr e0 hb hv hs => ?_⟩
  obtain ⟨a, ns, rfl, hP, hS, hl, hq⟩ := hs
  have go : ∀ H' : Hp, H' P = some (.tbl #[]) → SqF K H' a (ns.map V.int) → Env0 Pr w K mg base A outer s H' → codeAny (model Pr w) A (.call (.ref f) args) (CR CX0 outer Pr w H' s (fun v _ => v = .bl true) E) s := fun H' hP' hF e0' =>
    G.run A outer s H' args us [.ref a] _ E hr e0' hb hv ⟨hasT_of hP', [script ns], fun _ => none, fun d _ => d = .bl true, Rps.one (by unfold script; rw [Rp]; exact ⟨a, _, rfl, hF, Rps.ints ns⟩), (fun _ _ e => nomatch e),
      ⟨script ns, rfl, fun d _ => d = .bl true, fun _ _ _ => False, hlaw ns hl _ _ _ fun _ => rfl, fun _ _ h => h, fun _ _ _ h => h⟩, fun d A' v H' e _ rv _ => by subst e; exact rv⟩
  have fin : ∀ H' : Hp, (∀ b, H b = none → H' b = none) → (∀ b xs, H b = some (.tup xs) → H' b = some (.tup xs)) → (∀ b o u, H b = some (.frz o u) → H' b = some (.frz o u)) → (∀ b ps, H b = some (.tbl ps) → H' b = some (.tbl ps)) →
      codeAny (model Pr w) A (.call (.ref f) args) (CR CX0 outer Pr w H' s (fun v _ => v = .bl true) E) s → codeAny (model Pr w) A (.call (.ref f) args) (CR CX0 outer Pr w H s Q E) s := fun H' i1 i2 i3 i4 h => codeAny_mono h fun r s' h => by
    cases r with
    | error e => exact (show False from h).elim
    | ok fl =>
      cases fl with
      | next => exact False.elim h
      | brk => exact False.elim h
      | cont => exact False.elim h
      | ret u =>
        obtain ⟨v, H2, os, bare, un, hok, rv, q2⟩ := h
        exact ⟨v, H2, os, bare, ⟨fun b o e n => un.keep b o e (i1 b n), fun b o e n => un.slot b o e (i1 b n), fun b o e n => un.free b o e (i1 b n), un.there, fun b xs e => un.tups b xs (i2 b xs e), fun b o u e => un.frzs b o u (i3 b o u e), fun b ps e => un.tbls b ps (i4 b ps e)⟩, hok, rv, hq v H2 q2⟩
  rcases hS with (q | ⟨o, q⟩) | q
  · obtain ⟨_, its, n, _, ho⟩ := e0.hok a _ q
    have na : ∀ b u, H b = some u → (∀ xs, u ≠ .lst xs) → b ≠ a := fun b u e' n z => by rw [z, q] at e'; cases e'; exact n _ rfl
    refine fin (upd H a (.frz _ (.lst (ns.map V.int)))) (fun b n => ?_) (fun b xs e => ?_) (fun b o u e => ?_) (fun b ps e => ?_) (go _ ?_ (.inl ⟨_, upd_same⟩) ⟨e0.frames, e0.mod, fun b o e => ⟨(e0.bs b o e).1, ?_⟩, e0.bsz, e0.funs, fun b hb => ?_, hok_freeze e0.hok q ho, e0.bare⟩)
    · rw [upd_ne (fun z => by rw [z, q] at n; cases n)]; exact n
    · rw [upd_ne (na b _ e (fun _ h => nomatch h))]; exact e
    · rw [upd_ne (na b _ e (fun _ h => nomatch h))]; exact e
    · rw [upd_ne (na b _ e (fun _ h => nomatch h))]; exact e
    · rw [upd_ne (na P _ hP (fun _ h => nomatch h))]; exact hP
    · have n := (e0.bs b o e).2
      rw [upd_ne (fun z => by rw [z, q] at n; cases n)]; exact n
    · have n := e0.frf b hb
      rw [upd_ne (fun z => by rw [z, q] at n; cases n)]; exact n
  · exact fin H (fun _ h => h) (fun _ _ h => h) (fun _ _ _ h => h) (fun _ _ h => h) (go H hP (.inl ⟨o, q⟩) e0)
  · exact fin H (fun _ h => h) (fun _ _ h => h) (fun _ _ _ h => h) (fun _ _ h => h) (go H hP (.inr q) e0)
end
/-- no empty record in the fragment -/
def noTab (K : PySem.W.Frag) : Bool := K.all fun p => match p.2.data with
  | .fields vs => !vs.isEmpty
  | _ => true
theorem mem_lookup_frag : ∀ {K : PySem.W.Frag} {P : Addr} {o : Obj}, List.lookup P K = some o → (P, o) ∈ K
  | [], _, _, e => by cases e
  | (b, x) :: K, P, o, e => by
    rw [List.lookup_cons] at e
    split at e
    · rename_i h
      have hb : P = b := by simpa using h
      cases e
      rw [hb]; exact List.mem_cons_self
    · exact List.mem_cons_of_mem _ (mem_lookup_frag e)
theorem noTab_none {K : PySem.W.Frag} {h : Heap} {P : Addr} (X : K.In h) (n : noTab K = true) (hP : h.get? P = some { cls := .none, data := .fields #[] }) : K.lookup P = none := by
  cases e : K.lookup P with
  | none => rfl
  | some o =>
    have e1 := X P o e
    rw [hP] at e1
    cases e1
    have hm := mem_lookup_frag e
    have := List.all_eq_true.mp n _ hm
    simp at this
end T3
set_option autoImplicit false
namespace T3
open PySem PySem.Spec PyProof.Rows L2
/-! ### len of a dict -/
section
variable {prog : Program} {w : World} {A : Around} {E : Value → Shared → Prop} {s : Shared} {d : Addr} {es : Array DictEntry} {ep : Nat}
end
section
variable {X : Cx} {C : Ct}
def fLenS (A : AH) : List D → Option D
  | [d] => (rowOf A d).map fun row => .int row.length
  | _ => none
@[simp] theorem fLenS_dct (A : AH) (kvs : List (D × D)) : fLenS A [.dct kvs] = some (.int kvs.length) := by
  simp [fLenS, rowOf, vw]
end
end T3
set_option autoImplicit false
namespace T3
open PySem PySem.Spec PyProof.Rows L2
/-! ### functions of six -/
namespace W
def c6 (F : D → D → D → D → D → D → W D) (r1 r2 r3 r4 r5 r6 : W D) : W D := bind r1 fun a => bind r2 fun b => bind r3 fun c => bind r4 fun d => bind r5 fun e => bind r6 fun f => F a b c d e f
def s6 (F : D → D → D → D → D → D → W D) (r1 r2 r3 r4 r5 r6 : W D) : W D := c6 (fun a b c d e f => safe (F a b c d e f)) r1 r2 r3 r4 r5 r6
end W
section
variable {E : X3} {z : S3} {t1 t2 t3 t4 t5 t6 : TE3} {r1 r2 r3 r4 r5 r6 : W D}
open W
end
namespace W
variable {A : AH} {E : X3}
@[simp] theorem s6_ok (F : D → D → D → D → D → D → W D) (a b c d e f : D) : s6 F (ok a) (ok b) (ok c) (ok d) (ok e) (ok f) = safe (F a b c d e f) := (rfl)
@[simp] theorem s6_ap (F : D → D → D → D → D → D → W D) (r1 r2 r3 r4 r5 r6 : W D) (Q : D → AH → Prop) : s6 F r1 r2 r3 r4 r5 r6 A Q E = r1 A (fun a A1 => r2 A1 (fun b A2 => r3 A2 (fun c A3 => r4 A3 (fun d A4 => r5 A4 (fun e A5 => r6 A5 (fun f A6 => F a b c d e f A6 Q fun _ _ _ => False) E) E) E) E) E) E := (rfl)
end W
end T3
set_option autoImplicit false
namespace T3
open PySem PySem.Spec PyProof.Rows L2
/-! ### names set from a list -/
section
variable {X : Cx} {pos : Pos}
end
section
variable {X : Cx} {C : Ct}
end
namespace W
end W
section
variable {E : X3} {z : S3} {β : Type} {N B C : S3 → W β → Prop} {R : D → W β} {u : TS3} {ta : TE3} {ra : W D}
open W
end
end T3
set_option autoImplicit false
namespace T3
open PySem PySem.Spec PyProof.Rows L2
theorem str_append_length (x y : Str) : (x ++ y).length = x.length + y.length := by
  show (x.cps ++ y.cps).size = _
  rw [Array.size_append]; rfl
theorem one_length (c : Nat) : (⟨#[c]⟩ : Str).length = 1 := rfl
theorem atI_nat {α : Type} (xs : List α) (j : Nat) (h : j < xs.length) : L2.atI xs (j : Int) = some xs[j] := by
  unfold L2.atI
  rw [show L2.ixN xs.length (j : Int) = some j from by unfold L2.ixN; rw [if_pos (by omega), if_pos (by omega)]; simp]
  exact List.getElem?_eq_getElem h
theorem atI_int {α : Type} (xs : List α) (i : Int) (h0 : 0 ≤ i) (h : i < xs.length) : ∃ x, L2.atI xs i = some x ∧ x ∈ xs := by
  obtain ⟨j, rfl⟩ : ∃ j : Nat, i = j := ⟨i.toNat, by omega⟩
  exact ⟨_, atI_nat xs j (by omega), List.getElem_mem _⟩
theorem fIsi_str (T : String) (A : AH) (x : Str) : fIsi T A (.str x) = some (.bl (isT "str" T)) := rfl
theorem fIsi_int (T : String) (A : AH) (x : Int) : fIsi T A (.int x) = some (.bl (isT "int" T)) := rfl
theorem fIsi_bl (T : String) (A : AH) (x : Bool) : fIsi T A (.bl x) = some (.bl (isT "bool" T)) := rfl
theorem fIsi_tup (T : String) (A : AH) (x : List D) : fIsi T A (.tup x) = some (.bl (isT "tuple" T)) := rfl
theorem fMul_small {A : AH} {a b : Int} (h : big64 a = true ∨ big64 b = true) : fMul A (.int a) (.int b) = some (.int (a * b)) := by
  rw [fMul_int]
  rcases h with h | h <;> simp [h]
theorem big_of {a : Int} (h1 : -(2 ^ 64) < a) (h2 : a < 2 ^ 64) : big64 a = true := by
  unfold big64
  rw [decide_eq_true h1, decide_eq_true h2]; rfl
def letters : Str := "abcdefghijklmnopqrstuvwxyz"
theorem letters_at : ∀ j : Fin 26, letters.cps.toList[j.1]? = some (97 + j.1) := by decide +kernel
theorem letters_length : letters.cps.toList.length = 26 := by decide +kernel
theorem letters_len : letters.length = 26 := by decide +kernel
def isLet (x : Str) : Prop := ∀ c ∈ x.cps.toList, 97 ≤ c ∧ c ≤ 122
structure NameOk (x : Str) : Prop where
  one : 1 ≤ x.length
  eight : x.length ≤ 8
  lets : isLet x
theorem snoc_list (x : Str) (c : Nat) : (x ++ (⟨#[c]⟩ : Str)).cps.toList = x.cps.toList ++ [c] := by
  show (x.cps ++ #[c]).toList = _
  simp
theorem isLet_snoc {x : Str} {c : Nat} (h : isLet x) (hc : 97 ≤ c ∧ c ≤ 122) : isLet (x ++ ⟨#[c]⟩) := fun d hd => by
  rw [snoc_list] at hd
  rcases List.mem_append.mp hd with hd | hd
  · exact h d hd
  · rw [List.mem_singleton.mp hd]; exact hc
theorem empty_cps : ("" : Str).cps.toList = [] := by decide +kernel
theorem nodup_set {α : Type} {y : α} : ∀ {l : List α} {i : Nat}, l.Nodup → y ∉ l → (l.set i y).Nodup
  | [], _, _, _ => by simp
  | a :: l, 0, h, hy => by
    rw [List.nodup_cons] at h
    simp only [List.mem_cons, not_or] at hy
    show (y :: l).Nodup
    exact List.nodup_cons.mpr ⟨hy.2, h.2⟩
  | a :: l, i + 1, h, hy => by
    rw [List.nodup_cons] at h
    simp only [List.mem_cons, not_or] at hy
    show (a :: l.set i y).Nodup
    refine List.nodup_cons.mpr ⟨fun hm => ?_, nodup_set h.2 hy.2⟩
    rcases List.mem_or_eq_of_mem_set hm with q | q
    · exact h.1 q
    · exact hy.1 q.symm
theorem range_snoc {α : Type} (f : Nat → α) (n : Nat) : (List.range (n + 1)).map f = (List.range n).map f ++ [f n] := by
  rw [List.range_succ, List.map_append]; rfl
structure House where
  people : List (Str × Int)
  rooms : List (Str × List Str)
def memD (ms : List Str) : D := .tup (ms.map .str)
def House.pD (h : House) : D := .tup (h.people.map fun p => .tup [.str p.1, .int p.2])
def House.rD (h : House) : D := .tup (h.rooms.map fun r => .tup [.str r.1, memD r.2])
def House.toD (h : House) : D := .tup [h.pD, h.rD]
structure House.Ok (h : House) : Prop where
  p1 : 1 ≤ h.people.length
  p4 : h.people.length ≤ 4
  pr : (h.people.map (·.1)).Pairwise strLt
  pn : ∀ p ∈ h.people, NameOk p.1 ∧ 1 ≤ p.2 ∧ p.2 ≤ 3
  r1 : 1 ≤ h.rooms.length
  r4 : h.rooms.length ≤ 4
  rr : (h.rooms.map (·.1)).Pairwise strLt
  rn : ∀ r ∈ h.rooms, NameOk r.1 ∧ r.2 ≠ [] ∧ r.2.Sublist (h.people.map (·.1))
section
variable {α : Type}
def putS : List (Str × α) → Str → α → List (Str × α)
  | [], k, d => [(k, d)]
  | (k', d') :: r, k, d => if k' = k then (k, d) :: r else (k', d') :: putS r k d
def ledD (f : α → D) (ps : List (Str × α)) : List (D × D) := ps.map fun p => (.str p.1, f p.2)
theorem ledD_put (f : α → D) (k : Str) (d : α) : ∀ ps : List (Str × α), dput (ledD f ps) (.str k) (f d) = ledD f (putS ps k d)
  | [] => rfl
  | (k', d') :: r => by
    show dput ((.str k', f d') :: ledD f r) _ _ = _
    rw [dput, putS]
    by_cases e : k' = k
    · subst e; rw [if_pos rfl, if_pos rfl]; rfl
    · rw [if_neg e, if_neg (fun z => e (D.str.inj z)), ledD_put f k d r]; rfl
theorem putS_mem {k : Str} {d : α} {p : Str × α} : ∀ {ps : List (Str × α)}, p ∈ putS ps k d → p = (k, d) ∨ p ∈ ps
  | [], h => by simp [putS] at h; exact .inl h
  | (k', d') :: r, h => by
    rw [putS] at h
    split at h
    · rcases List.mem_cons.mp h with h | h
      · exact .inl h
      · exact .inr (List.mem_cons_of_mem _ h)
    · rcases List.mem_cons.mp h with h | h
      · rw [h]; exact .inr List.mem_cons_self
      · rcases putS_mem h with h | h
        · exact .inl h
        · exact .inr (List.mem_cons_of_mem _ h)
theorem putS_keys {k x : Str} {d : α} : ∀ {ps : List (Str × α)}, x ∈ (putS ps k d).map (·.1) → x = k ∨ x ∈ ps.map (·.1)
  | ps, h => by
    obtain ⟨p, hp, rfl⟩ := List.mem_map.mp h
    rcases putS_mem hp with rfl | hp
    · exact .inl rfl
    · exact .inr (List.mem_map.mpr ⟨p, hp, rfl⟩)
theorem putS_nodup {k : Str} {d : α} : ∀ {ps : List (Str × α)}, (ps.map (·.1)).Nodup → ((putS ps k d).map (·.1)).Nodup
  | [], _ => by simp [putS]
  | (k', d') :: r, h => by
    rw [List.map_cons, List.nodup_cons] at h
    rw [putS]
    split
    · rename_i e; subst e; rw [List.map_cons, List.nodup_cons]; exact h
    · rename_i e
      rw [List.map_cons, List.nodup_cons]
      refine ⟨fun hm => ?_, putS_nodup h.2⟩
      rcases putS_keys hm with z | z
      · exact e z
      · exact h.1 z
theorem putS_length {k : Str} {d : α} : ∀ {ps : List (Str × α)}, 1 ≤ (putS ps k d).length ∧ (putS ps k d).length ≤ ps.length + 1
  | [] => by simp [putS]
  | (k', d') :: r => by
    rw [putS]
    split
    · simp
    · have := putS_length (k := k) (d := d) (ps := r)
      simp only [List.length_cons]; omega
def getS : List (Str × α) → Str → Option α
  | [], _ => none
  | (k', d) :: r, k => if k' = k then some d else getS r k
theorem ledD_get (f : α → D) (k : Str) : ∀ ps : List (Str × α), dget (ledD f ps) (.str k) = (getS ps k).map f
  | [] => rfl
  | (k', d') :: r => by
    show dget ((.str k', f d') :: ledD f r) _ = _
    rw [dget, getS]
    by_cases e : k' = k
    · subst e; rw [if_pos rfl, if_pos rfl]; rfl
    · rw [if_neg e, if_neg (fun z => e (D.str.inj z)), ledD_get f k r]
theorem getS_mem {k : Str} : ∀ {ps : List (Str × α)}, k ∈ ps.map (·.1) → ∃ d, getS ps k = some d ∧ (k, d) ∈ ps
  | (k', d') :: r, h => by
    rw [getS]
    by_cases e : k' = k
    · subst e; rw [if_pos rfl]; exact ⟨d', rfl, List.mem_cons_self⟩
    · rw [if_neg e]
      rw [List.map_cons, List.mem_cons] at h
      obtain ⟨d, h1, h2⟩ := getS_mem (h.resolve_left fun z => e z.symm)
      exact ⟨d, h1, List.mem_cons_of_mem _ h2⟩
  | [], h => by cases h
theorem ledD_keys (f : α → D) (ps : List (Str × α)) : (ledD f ps).map (·.1) = (ps.map (·.1)).map D.str := by
  unfold ledD; rw [List.map_map, List.map_map]; rfl
theorem pick_row [Inhabited α] (ps : List (Str × α)) (ys : List Str) (h : ∀ y ∈ ys, y ∈ ps.map (·.1)) : ∃ qs : List (Str × α), qs.map (·.1) = ys ∧ (∀ q ∈ qs, q ∈ ps) ∧ ∀ q ∈ qs, getS ps q.1 = some q.2 := by
  induction ys with
  | nil => exact ⟨[], rfl, (fun _ h => nomatch h), (fun _ h => nomatch h)⟩
  | cons y ys ih =>
    obtain ⟨qs, h1, h2, h3⟩ := ih fun x hx => h x (List.mem_cons_of_mem _ hx)
    obtain ⟨d, e1, e2⟩ := getS_mem (h y List.mem_cons_self)
    refine ⟨(y, d) :: qs, by rw [List.map_cons, h1], fun q hq => ?_, fun q hq => ?_⟩
    · rcases List.mem_cons.mp hq with rfl | hq
      · exact e2
      · exact h2 q hq
    · rcases List.mem_cons.mp hq with rfl | hq
      · exact e1
      · exact h3 q hq
end
theorem okSort_strs (xs : List Str) (h : xs.length ≤ 1000) : okSort (xs.map D.str) = true := by
  have hz : xs.length ≤ sizeLine := line_of (by omega)
  have hp : ∀ l : List Str, poks (l.map D.str) = true := by
    intro l
    induction l with
    | nil => rfl
    | cons a l ih => rw [List.map_cons, poks, ih]; rfl
  simp only [okSort, hp, Bool.true_and, List.length_map, hz, decide_true, Bool.and_true, Bool.and_eq_true, Bool.or_eq_true, List.all_eq_true, decide_eq_true_eq]
  refine ⟨⟨fun a ha b hb => ?_, .inr fun a ha => ?_⟩, fun a ha => ?_⟩
  · obtain ⟨x, _, rfl⟩ := List.mem_map.mp ha
    obtain ⟨y, _, rfl⟩ := List.mem_map.mp hb
    simp [pd, PySem.W.alike]
  · obtain ⟨x, _, rfl⟩ := List.mem_map.mp ha; rfl
  · obtain ⟨x, _, rfl⟩ := List.mem_map.mp ha
    simp [dep]
theorem range_get (names : List Str) : (List.range names.length).map (fun j => names.getD j ⟨#[]⟩) = names := by
  apply List.ext_getElem?
  intro j
  rw [List.getElem?_map]
  by_cases h : j < names.length
  · rw [List.getElem?_range h, List.getElem?_eq_getElem h]
    simp [List.getD, List.getElem?_eq_getElem h]
  · rw [List.getElem?_eq_none (by simp; omega), List.getElem?_eq_none (by omega)]; rfl
theorem poks_strs : ∀ l : List Str, poks (l.map D.str) = true
  | [] => rfl
  | a :: l => by rw [List.map_cons, poks, poks_strs l]; rfl
theorem fEq_nil (A : AH) (xs : List D) (h : poks xs = true) : fEq A (.lst xs) (.lst []) = some (.bl (decide (xs = []))) := by
  have e : eqD (.lst xs) (.lst []) = decide (xs = []) := by
    unfold eqD
    rw [pd, pd, PyData.eqv]
    cases xs <;> simp [pds, PyData.eqvAll]
  simp [fEq, okEq, pok, h, poks, dep, deps, e]
theorem perm_map_ex {α β : Type} {g : α → β} : ∀ {m : List β} {l : List α}, m.Perm (l.map g) → ∃ l' : List α, l'.Perm l ∧ m = l'.map g
  | [], l, h => by
    have : l = [] := by simpa using h.symm.eq_nil
    subst this
    exact ⟨[], .refl _, rfl⟩
  | b :: m, l, h => by
    obtain ⟨a, ha, rfl⟩ := List.mem_map.mp (h.mem_iff.mp List.mem_cons_self)
    obtain ⟨s, t, rfl⟩ := List.append_of_mem ha
    have h2 : (g a :: m).Perm (g a :: (s ++ t).map g) := by
      refine h.trans ?_
      rw [List.map_append, List.map_cons, List.map_append]
      exact List.perm_middle
    obtain ⟨l', h3, rfl⟩ := perm_map_ex h2.cons_inv
    exact ⟨a :: l', (h3.cons a).trans List.perm_middle.symm, rfl⟩
theorem sort_ledF {α : Type} (f : α → D) (P : List (Str × α)) (hn : (P.map (·.1)).Nodup) (hal : ∀ p ∈ P, ∀ q ∈ P, PySem.W.alike (pd (f p.2)) (pd (f q.2)) = true) : ∃ P' : List (Str × α), sortD (P.map fun p => .tup [.str p.1, f p.2]) = P'.map (fun p => .tup [.str p.1, f p.2]) ∧ P'.Perm P ∧ (P'.map (·.1)).Pairwise strLt := by
  obtain ⟨qs, h1, h2, h3⟩ := sort_led (P.map fun p => (p.1, f p.2)) (by rw [List.map_map]; exact hn) fun p hp q hq => by
    obtain ⟨a, ha, rfl⟩ := List.mem_map.mp hp
    obtain ⟨b, hb, rfl⟩ := List.mem_map.mp hq
    exact hal a ha b hb
  obtain ⟨P', h4, rfl⟩ := perm_map_ex h2
  rw [List.map_map] at h1 h3
  rw [List.map_map] at h1
  exact ⟨P', h1, h4, h3⟩
theorem okSort_led (ps : List (Str × D)) (h : ps.length ≤ 1000) (hp : ∀ p ∈ ps, pok p.2 = true ∧ dep p.2 ≤ 40) (hal : ∀ p ∈ ps, ∀ q ∈ ps, PySem.W.alike (pd p.2) (pd q.2) = true) : okSort (ps.map fun p => .tup [.str p.1, p.2]) = true := by
  have hz : ps.length ≤ sizeLine := line_of (by omega)
  have hk : ∀ l : List (Str × D), (∀ p ∈ l, pok p.2 = true ∧ dep p.2 ≤ 40) → poks (l.map fun p => D.tup [.str p.1, p.2]) = true := by
    intro l
    induction l with
    | nil => intro _; rfl
    | cons a l ih =>
      intro h
      rw [List.map_cons, poks, ih fun p hp => h p (List.mem_cons_of_mem _ hp)]
      simp [pok, poks, (h a List.mem_cons_self).1]
  simp only [okSort, hk ps hp, Bool.true_and, List.length_map, hz, decide_true, Bool.and_true, Bool.and_eq_true, Bool.or_eq_true, List.all_eq_true, decide_eq_true_eq]
  refine ⟨⟨fun a ha b hb => ?_, .inl fun a ha => ?_⟩, fun a ha => ?_⟩
  · obtain ⟨x, hx, rfl⟩ := List.mem_map.mp ha
    obtain ⟨y, hy, rfl⟩ := List.mem_map.mp hb
    simp [pd, pds, PySem.W.alike, PySem.W.alikeAll, hal x hx y hy]
  · obtain ⟨x, _, rfl⟩ := List.mem_map.mp ha; rfl
  · obtain ⟨x, hx, rfl⟩ := List.mem_map.mp ha
    have := (hp x hx).2
    simp [dep, deps]; omega
theorem take_get {α : Type} (ws : List α) (d : α) (n : Nat) (h : n ≤ ws.length) : (List.range n).map (fun k => ws.getD k d) = ws.take n := by
  apply List.ext_getElem?
  intro j
  rw [List.getElem?_map, List.getElem?_take]
  by_cases hj : j < n
  · rw [List.getElem?_range hj, if_pos hj, List.getElem?_eq_getElem (by omega)]
    simp [List.getD, List.getElem?_eq_getElem (show j < ws.length by omega)]
  · rw [List.getElem?_eq_none (by simp; omega), if_neg hj]; rfl
theorem getD_at {α : Type} (ws : List α) (d : α) (j : Nat) (h : j < ws.length) : ws.getD j d = ws[j] := by
  simp [List.getD, List.getElem?_eq_getElem h]
theorem memD_alike (a b : List Str) : PySem.W.alike (pd (memD a)) (pd (memD b)) = true := by
  have : ∀ a b : List Str, PySem.W.alikeAll (pds (a.map D.str)) (pds (b.map D.str)) = true := by
    intro a
    induction a with
    | nil => intro b; simp [pds, PySem.W.alikeAll]
    | cons x a ih =>
      intro b
      cases b with
      | nil => simp [pds, PySem.W.alikeAll]
      | cons y b => simp [pds, pd, PySem.W.alikeAll, PySem.W.alike, ih b]
  unfold memD
  rw [pd, pd, PySem.W.alike]
  exact this a b
theorem memD_pok (a : List Str) : pok (memD a) = true ∧ dep (memD a) ≤ 40 := by
  unfold memD
  refine ⟨by rw [pok]; exact poks_strs a, ?_⟩
  have : ∀ a : List Str, deps (a.map D.str) = 0 := by
    intro a
    induction a with
    | nil => rfl
    | cons x a ih => rw [List.map_cons, deps, ih]; simp [dep]
  rw [dep, this]; omega
theorem rise_unique : ∀ {xs ys : List Str}, xs.Perm ys → xs.Pairwise strLt → ys.Pairwise strLt → xs = ys
  | [], ys, h, _, _ => by rw [h.symm.eq_nil]
  | a :: xs, [], h, _, _ => by cases h.eq_nil
  | a :: xs, b :: ys, h, h1, h2 => by
    rw [List.pairwise_cons] at h1 h2
    have e : a = b := by
      rcases List.mem_cons.mp (h.mem_iff.mp List.mem_cons_self) with e | ha
      · exact e
      rcases List.mem_cons.mp (h.mem_iff.mpr List.mem_cons_self) with e | hb
      · exact e.symm
      exact absurd (h1.1 b hb) (List.lt_asymm (h2.1 a ha))
    subst e
    rw [rise_unique h.cons_inv h1.2 h2.2]
end T3
set_option autoImplicit false
namespace T3
open PySem PySem.Spec PyProof.Rows L2

/-! ### texts as rows of numbers -/
def S (l : List Nat) : Str := ⟨l.toArray⟩
@[simp] theorem S_cps (l : List Nat) : (S l).cps.toList = l := rfl
theorem S_of (x : Str) : S x.cps.toList = x := by cases x; simp [S]
@[simp] theorem S_len (l : List Nat) : (S l).length = l.length := by simp [S, Str.length]
theorem S_app (a b : List Nat) : S a ++ S b = S (a ++ b) := by
  show (⟨(S a).cps ++ (S b).cps⟩ : Str) = _
  simp [S]
theorem S_one (c : Nat) : (⟨#[c]⟩ : Str) = S [c] := rfl
theorem sIx_of (n : Nat) (d : Nat) (i : Int) (h0 : 0 ≤ i) (h : i ≤ n) : HT.sIx n d (some i) = i.toNat := by
  unfold HT.sIx
  simp only
  split <;> omega
theorem cutS_take (l : List Nat) (i : Int) (h0 : 0 ≤ i) (h : i ≤ l.length) : cutS (S l) none (some i) = S (l.take i.toNat) := by
  unfold cutS
  rw [S_len, sIx_of l.length _ i h0 h]
  simp [HT.sIx, S]
theorem cutD_to (xs : List D) (i : Int) (h0 : 0 ≤ i) (h : i ≤ xs.length) : cutD xs none (some i) = xs.take i.toNat := by
  unfold cutD
  rw [sIx_of xs.length _ i h0 h]
  simp [HT.sIx]
@[simp] theorem at0 {α : Type} (a : α) (r : List α) : L2.atI (a :: r) 0 = some a := (atI_nat (a :: r) 0 (by simp)).trans rfl
@[simp] theorem at1 {α : Type} (a b : α) (r : List α) : L2.atI (a :: b :: r) 1 = some b := (atI_nat (a :: b :: r) 1 (by simp)).trans rfl
@[simp] theorem at2 {α : Type} (a b c : α) (r : List α) : L2.atI (a :: b :: c :: r) 2 = some c := (atI_nat (a :: b :: c :: r) 2 (by simp)).trans rfl
@[simp] theorem at3 {α : Type} (a b c d : α) (r : List α) : L2.atI (a :: b :: c :: d :: r) 3 = some d := (atI_nat (a :: b :: c :: d :: r) 3 (by simp)).trans rfl
@[simp] theorem at4 {α : Type} (a b c d e : α) (r : List α) : L2.atI (a :: b :: c :: d :: e :: r) 4 = some e := (atI_nat (a :: b :: c :: d :: e :: r) 4 (by simp)).trans rfl
@[simp] theorem at5 {α : Type} (a b c d e f : α) (r : List α) : L2.atI (a :: b :: c :: d :: e :: f :: r) 5 = some f := (atI_nat (a :: b :: c :: d :: e :: f :: r) 5 (by simp)).trans rfl
@[simp] theorem sl_1 : 1 ≤ sizeLine := line_of (by decide)
@[simp] theorem sl_2 : 2 ≤ sizeLine := line_of (by decide)
@[simp] theorem sl_3 : 3 ≤ sizeLine := line_of (by decide)
@[simp] theorem sl_4 : 4 ≤ sizeLine := line_of (by decide)
@[simp] theorem sl_5 : 5 ≤ sizeLine := line_of (by decide)
@[simp] theorem sl_6 : 6 ≤ sizeLine := line_of (by decide)
@[simp] theorem sl_7 : 7 ≤ sizeLine := line_of (by decide)
@[simp] theorem sl_8 : 8 ≤ sizeLine := line_of (by decide)
@[simp] theorem sl_9 : 9 ≤ sizeLine := line_of (by decide)
@[simp] theorem sl_10 : 10 ≤ sizeLine := line_of (by decide)
@[simp] theorem sl_11 : 11 ≤ sizeLine := line_of (by decide)
@[simp] theorem sl_12 : 12 ≤ sizeLine := line_of (by decide)
@[simp] theorem sl_s : 0 < sizeLine := line_of (n := 1) (by decide)
@[simp] theorem frz_memD (ms : List Str) : frz (memD ms) = memD ms := (rfl)
@[simp] theorem fSortedS_one (A : AH) (d : D) : fSortedS A [d] = (rowOf A d).bind fun ds => if okSrt ds = true then some (.ml (sortD ds)) else none := (rfl)
@[simp] theorem fShl_int (A : AH) (i j : Int) : fShl A (.int i) (.int j) = if 0 ≤ j ∧ j ≤ 1000 ∧ i.natAbs < 2 ^ 64 then some (D.int (i * 2 ^ j.toNat)) else none := (rfl)
theorem rng_eq (lo : Int) (n : Nat) : rng lo n = (List.range n).map fun (k : Nat) => D.int (lo + (k : Int)) := rfl
theorem rng_at {lo : Int} {n i : Nat} {d : D} (h : (rng lo n)[i]? = some d) : i < n ∧ d = .int (lo + (i : Int)) := by
  unfold rng at h
  have hl : i < n := by
    have := (List.getElem?_eq_some_iff.mp h).1
    simpa using this
  rw [List.getElem?_map, List.getElem?_range hl] at h
  cases h
  exact ⟨hl, rfl⟩
theorem rng_len (lo : Int) (n : Nat) : (rng lo n).length = n := by simp [rng]
theorem comp_rng (g : Nat → D) {te : D → W D} {lo : Int} {n : Nat} (hl : n ≤ sizeLine) (h : ∀ k : Nat, k < n → te (.int (lo + (k : Int))) = W.ok (g k)) : W.comp [] W.p1 (fun _ => W.ok true) te (rng lo n) [] = W.ok (.ml ((List.range n).map fun k => frz (g k))) := by
  rw [rng_eq]
  exact W.comp_mapT _ g _ (by simpa using hl) fun k hk => ⟨_, rfl, h k (List.mem_range.mp hk)⟩
/-! ### what is coded by data -/
structure Enc {α : Type} (f : α → D) : Prop where
  inj : ∀ a b, f a = f b → a = b
  nb : ∀ a, nb (f a) = true
  dep : ∀ a, dep (f a) ≤ 8
  fit : ∀ a, kfit (f a) = true
section
variable {α : Type} {f : α → D}
theorem Enc.pok (e : Enc f) (a : α) : pok (f a) = true := nb_pok _ (e.nb a)
theorem Enc.own (e : Enc f) (a : α) : own (f a) = false := by
  have := e.pok a
  cases h : f a <;> first | rfl | (rw [h] at this; simp [T3.pok] at this)
theorem Enc.frz (e : Enc f) (a : α) : T3.frz (f a) = f a := frz_of (e.own a)
theorem Enc.vw (e : Enc f) (A : AH) (a : α) : T3.vw A (f a) = f a := by
  have := e.pok a
  cases h : f a <;> first | rfl | (rw [h] at this; simp [T3.pok] at this)
theorem Enc.eqD [DecidableEq α] (e : Enc f) (a b : α) : eqD (f a) (f b) = decide (a = b) := by
  rw [eqD_nb (e.nb a) (e.nb b)]
  exact decide_eq_decide.mpr ⟨e.inj a b, fun h => by rw [h]⟩
theorem Enc.fEq [DecidableEq α] (e : Enc f) (A : AH) (a b : α) : fEq A (f a) (f b) = some (.bl (decide (a = b))) := by
  rw [fEq_nb A (by rw [e.vw]; exact e.nb a) (by rw [e.vw]; exact e.nb b) (by rw [e.vw]; have := e.dep a; omega), e.vw, e.vw]
  congr 2
  exact decide_eq_decide.mpr ⟨e.inj a b, fun h => by rw [h]⟩
theorem Enc.fNe [DecidableEq α] (e : Enc f) (A : AH) (a b : α) : fNe A (f a) (f b) = some (.bl (!decide (a = b))) := by
  rw [fNe_nb A (by rw [e.vw]; exact e.nb a) (by rw [e.vw]; exact e.nb b) (by rw [e.vw]; have := e.dep a; omega), e.vw, e.vw]
  congr 3
  exact decide_eq_decide.mpr ⟨e.inj a b, fun h => by rw [h]⟩
theorem Enc.nbs (e : Enc f) : ∀ l : List α, nbs (l.map f) = true
  | [] => rfl
  | a :: l => by rw [List.map_cons, T3.nbs, e.nb, e.nbs l]; rfl
theorem Enc.deps (e : Enc f) : ∀ l : List α, deps (l.map f) ≤ 8
  | [] => by simp [T3.deps]
  | a :: l => by
    rw [List.map_cons, T3.deps]
    have := e.dep a
    have := e.deps l
    omega
theorem Enc.mem (e : Enc f) {a : α} {l : List α} : f a ∈ l.map f ↔ a ∈ l := ⟨fun h => by
  obtain ⟨b, hb, q⟩ := List.mem_map.mp h
  rw [← e.inj b a q]; exact hb, fun h => List.mem_map.mpr ⟨a, h, rfl⟩⟩
theorem Enc.fIn [DecidableEq α] (e : Enc f) (A : AH) (g : Bool → Bool) (a : α) (l : List α) : fInA g A (f a) (.lst (l.map f)) = some (.bl (g (decide (a ∈ l)))) := by
  rw [fInA_lst, fInB_lst A g (e.vw A a) (e.nb a) (e.nbs l) (by have := e.deps l; omega)]
  congr 3
  exact decide_eq_decide.mpr e.mem
theorem Enc.fInT [DecidableEq α] (e : Enc f) (A : AH) (g : Bool → Bool) (a : α) (l : List α) : fInA g A (f a) (.tup (l.map f)) = some (.bl (g (decide (a ∈ l)))) := by
  rw [fInA_tup, fInB_tup A g (e.vw A a) (e.nb a) (e.nbs l) (by have := e.deps l; omega)]
  congr 3
  exact decide_eq_decide.mpr e.mem
end
theorem encStr : Enc D.str := ⟨fun _ _ h => D.str.inj h, fun _ => rfl, fun _ => by simp [dep], kfit_str⟩
theorem encInt : Enc D.int := ⟨fun _ _ h => D.int.inj h, fun _ => rfl, fun _ => by simp [dep], kfit_int⟩

/-! ### hands, stamps, acts, deeds -/
abbrev Hnd := Str × Int
abbrev Stamp := Int × Hnd
def handD (h : Hnd) : D := .tup [.str h.1, .int h.2]
def stampD (s : Stamp) : D := .tup [.int s.1, handD s.2]
def underD : Option Stamp → D
  | none => .non
  | some s => stampD s
inductive What where
  | room (r : Str) | person (n : Str) | under (s : Stamp)
  deriving DecidableEq
def What.toD : What → D
  | .room r => .tup [.str "room", .str r]
  | .person n => .tup [.str "person", .str n]
  | .under s => .tup [.str "under", stampD s]
abbrev Vec := List (Hnd × Int)
def vecD (v : Vec) : D := .tup (v.map fun p => .tup [handD p.1, .int p.2])
inductive Act where
  | say (room : Str) (under : Option Stamp) (saying : Str)
  | change (m : Stamp) (saying : Str)
  | back (m : Stamp)
  | like (m : Stamp) (sort : Str) (on : Bool)
  | read (room : Str) (v : Vec)
  | seen (m : Stamp)
  | hush (w : What) (on : Bool)
  | rung (m : Stamp)
  deriving DecidableEq
def Act.toD : Act → D
  | .say r u s => .tup [.str "say", .str r, underD u, .str s]
  | .change m s => .tup [.str "change", stampD m, .str s]
  | .back m => .tup [.str "back", stampD m]
  | .like m s b => .tup [.str "like", stampD m, .str s, .bl b]
  | .read r v => .tup [.str "read", .str r, vecD v]
  | .seen m => .tup [.str "seen", stampD m]
  | .hush w b => .tup [.str "hush", w.toD, .bl b]
  | .rung m => .tup [.str "rung", stampD m]
structure Deed where
  time : Int
  hand : Hnd
  num : Int
  act : Act
  deriving DecidableEq
def Deed.stamp (d : Deed) : Stamp := (d.time, d.hand)
def Deed.toD (d : Deed) : D := .tup [.int d.time, handD d.hand, .int d.num, d.act.toD]
def logD (l : List Deed) : D := .tup (l.map Deed.toD)
theorem encHand : Enc handD := ⟨fun a b h => by
    simp [handD] at h; exact Prod.ext h.1 h.2, fun _ => rfl, fun a => by simp [handD, dep, deps], fun a => kfit_si _ _⟩
theorem encStamp : Enc stampD := ⟨fun a b h => by
    simp only [stampD, D.tup.injEq, List.cons.injEq, D.int.injEq, and_true] at h; exact Prod.ext h.1 (encHand.inj _ _ h.2), fun _ => rfl, fun a => by simp [stampD, handD, dep, deps], fun a => by
    simp [stampD, handD, kfit, kok, koks, dk, dks, NestedKey.depth, NestedKey.depthAll]⟩
theorem encUnder : Enc underD := ⟨fun a b h => by
    cases a <;> cases b <;> simp [underD, stampD] at h ⊢
    exact Prod.ext h.1 (encHand.inj _ _ h.2), fun a => by cases a <;> rfl, fun a => by cases a <;> simp [underD, stampD, handD, dep, deps], fun a => by
    cases a
    · exact kfit_non
    · exact encStamp.fit _⟩
theorem str_rp : ("room" : Str) ≠ "person" := by decide +kernel
theorem str_ru : ("room" : Str) ≠ "under" := by decide +kernel
theorem str_pu : ("person" : Str) ≠ "under" := by decide +kernel
theorem encWhat : Enc What.toD := ⟨fun a b h => by
    cases a <;> cases b <;> simp [What.toD, str_rp, str_ru, str_pu, str_rp.symm, str_ru.symm, str_pu.symm] at h ⊢ <;> first | exact h | exact encStamp.inj _ _ h, fun a => by cases a <;> rfl, fun a => by cases a <;> simp [What.toD, stampD, handD, dep, deps], fun a => by
    cases a <;> simp [What.toD, stampD, handD, kfit, kok, koks, dk, dks, NestedKey.depth, NestedKey.depthAll]⟩

/-! ### rows of pairs as dicts -/
section
variable {κ α : Type} [DecidableEq κ]
def kD (f : κ → D) (g : α → D) (ps : List (κ × α)) : List (D × D) := ps.map fun p => (f p.1, g p.2)
def putK : List (κ × α) → κ → α → List (κ × α)
  | [], k, d => [(k, d)]
  | (k', d') :: r, k, d => if k' = k then (k, d) :: r else (k', d') :: putK r k d
def getK : List (κ × α) → κ → Option α
  | [], _ => none
  | (k', d) :: r, k => if k' = k then some d else getK r k
theorem kD_put {f : κ → D} (e : Enc f) (g : α → D) (k : κ) (d : α) : ∀ ps : List (κ × α), dput (kD f g ps) (f k) (g d) = kD f g (putK ps k d)
  | [] => rfl
  | (k', d') :: r => by
    show dput ((f k', g d') :: kD f g r) _ _ = _
    rw [dput, putK]
    by_cases h : k' = k
    · subst h; rw [if_pos rfl, if_pos rfl]; rfl
    · rw [if_neg h, if_neg (fun z => h (e.inj _ _ z)), kD_put e g k d r]; rfl
theorem kD_get {f : κ → D} (e : Enc f) (g : α → D) (k : κ) : ∀ ps : List (κ × α), dget (kD f g ps) (f k) = (getK ps k).map g
  | [] => rfl
  | (k', d') :: r => by
    show dget ((f k', g d') :: kD f g r) _ = _
    rw [dget, getK]
    by_cases h : k' = k
    · subst h; rw [if_pos rfl, if_pos rfl]; rfl
    · rw [if_neg h, if_neg (fun z => h (e.inj _ _ z)), kD_get e g k r]
theorem kD_len (f : κ → D) (g : α → D) (ps : List (κ × α)) : (kD f g ps).length = ps.length := by simp [kD]
theorem getK_put_same (k : κ) (d : α) : ∀ ps : List (κ × α), getK (putK ps k d) k = some d
  | [] => by simp [putK, getK]
  | (k', d') :: r => by
    rw [putK]
    split
    · simp [getK]
    · rename_i h; rw [getK, if_neg h, getK_put_same k d r]
theorem getK_put_ne {k k2 : κ} (h : k2 ≠ k) (d : α) : ∀ ps : List (κ × α), getK (putK ps k d) k2 = getK ps k2
  | [] => by simp [putK, getK, Ne.symm h]
  | (k', d') :: r => by
    rw [putK]
    split
    · rename_i e; subst e; rw [getK, getK, if_neg (Ne.symm h), if_neg (Ne.symm h)]
    · rw [getK, getK, getK_put_ne h d r]
theorem putK_len (k : κ) (d : α) : ∀ ps : List (κ × α), (putK ps k d).length ≤ ps.length + 1
  | [] => by simp [putK]
  | (k', d') :: r => by
    rw [putK]
    split
    · simp
    · have := putK_len k d r
      simp only [List.length_cons]; omega
theorem putK_mem {k : κ} {d : α} {p : κ × α} : ∀ {ps : List (κ × α)}, p ∈ putK ps k d → p = (k, d) ∨ p ∈ ps
  | [], h => by simp [putK] at h; exact .inl h
  | (k', d') :: r, h => by
    rw [putK] at h
    split at h
    · rcases List.mem_cons.mp h with h | h
      · exact .inl h
      · exact .inr (List.mem_cons_of_mem _ h)
    · rcases List.mem_cons.mp h with h | h
      · rw [h]; exact .inr List.mem_cons_self
      · rcases putK_mem h with h | h
        · exact .inl h
        · exact .inr (List.mem_cons_of_mem _ h)
theorem putK_keys {k : κ} {d : α} : ∀ {ps : List (κ × α)}, (putK ps k d).map (·.1) = if k ∈ ps.map (·.1) then ps.map (·.1) else ps.map (·.1) ++ [k]
  | [] => by simp [putK]
  | (k', d') :: r => by
    rw [putK]
    by_cases h : k' = k
    · subst h; simp
    · rw [if_neg h, List.map_cons, putK_keys]
      have h' : ¬ k = k' := fun e => h e.symm
      simp only [List.map_cons, List.mem_cons, h', false_or]
      split <;> simp
theorem putK_new {k : κ} {d : α} : ∀ {ps : List (κ × α)}, k ∉ ps.map (·.1) → putK ps k d = ps ++ [(k, d)]
  | [], _ => rfl
  | (k', d') :: r, h => by
    rw [List.map_cons, List.mem_cons, not_or] at h
    rw [putK, if_neg (fun e => h.1 e.symm), putK_new h.2]; rfl
theorem getK_none {k : κ} : ∀ {ps : List (κ × α)}, getK ps k = none ↔ k ∉ ps.map (·.1)
  | [] => by simp [getK]
  | (k', d') :: r => by
    rw [getK, List.map_cons, List.mem_cons, not_or]
    by_cases h : k' = k
    · subst h; simp
    · rw [if_neg h, getK_none]
      exact ⟨fun q => ⟨fun e => h e.symm, q⟩, fun q => q.2⟩
theorem getK_mem {k : κ} {d : α} : ∀ {ps : List (κ × α)}, getK ps k = some d → (k, d) ∈ ps
  | [], h => by simp [getK] at h
  | (k', d') :: r, h => by
    rw [getK] at h
    by_cases e : k' = k
    · subst e; rw [if_pos rfl] at h; cases h; exact List.mem_cons_self
    · rw [if_neg e] at h; exact List.mem_cons_of_mem _ (getK_mem h)
theorem putK_nodup {k : κ} {d : α} {ps : List (κ × α)} (h : (ps.map (·.1)).Nodup) : ((putK ps k d).map (·.1)).Nodup := by
  rw [putK_keys]
  split
  · exact h
  · rename_i n
    rw [List.nodup_append]
    exact ⟨h, by simp, fun a ha b hb => by
      simp at hb; subst hb
      intro e; subst e; exact n ha⟩
theorem getK_of_mem {k : κ} {d : α} : ∀ {ps : List (κ × α)}, (ps.map (·.1)).Nodup → (k, d) ∈ ps → getK ps k = some d
  | (k', d') :: r, hn, h => by
    rw [List.map_cons, List.nodup_cons] at hn
    rw [getK]
    rcases List.mem_cons.mp h with e | h
    · cases e; rw [if_pos rfl]
    · rw [if_neg, getK_of_mem hn.2 h]
      intro e; subst e
      exact hn.1 (List.mem_map.mpr ⟨_, h, rfl⟩)
end
end T3
set_option autoImplicit false
namespace T3
open PySem PySem.Spec PyProof.Rows L2
theorem W.each_mapB {σ δ τ ι β : Type} {pt : D → Option δ} {body : σ → δ → W σ} {k : σ → W β} {s0 : σ} {inj : ι → D} {xs : List ι} (emb : τ → σ) (step : τ → ι → τ) (I : Nat → τ → Prop) (t0 : τ) (hs : s0 = emb t0) (h0 : I 0 t0)
    (h : ∀ (i : Nat) (x : ι) (t : τ), xs[i]? = some x → I i t → I (i + 1) (step t x) ∧ ∃ y, pt (inj x) = some y ∧ body (emb t) y = W.ok (emb (step t x))) : W.bind (W.each [] pt body (xs.map inj) s0) k = k (emb (xs.foldl step t0)) := by
  subst hs
  rw [W.each_map emb step inj I xs 0 t0 h0 fun i x t hx hi => by rw [Nat.zero_add] at hi ⊢; exact h i x t hx hi]
  rfl
/-! ### things at references -/
section
variable {A : AH} {a : Addr}
theorem vw_refL {xs : List D} (h : A a = some (.lst xs)) : vw A (.ref a) = .lst xs := by simp [vw, h]
theorem fLen_refL {xs : List D} (h : A a = some (.lst xs)) : fLen A [.ref a] = some (.int xs.length) := by simp [fLen, vw, h]
theorem fIxA_refL {xs : List D} (h : A a = some (.lst xs)) (i : Int) : fIxA A (.ref a) (.int i) = L2.atI xs i := by simp [fIxA, fIx, vw, h]
theorem fIxA_refD {xs : List (D × D)} (h : A a = some (.dct xs)) (k : D) : fIxA A (.ref a) k = if kfit k = true then dget xs k else none := by simp [fIxA, vw, h]
end
/-! ### coded things are read as they are -/
@[simp] theorem frz_handD (a : Hnd) : frz (handD a) = handD a := (rfl)
@[simp] theorem rd_handD (a : Hnd) : W.rd (handD a) = W.ok (handD a) := (rfl)
@[simp] theorem own_handD (a : Hnd) : own (handD a) = false := (rfl)
@[simp] theorem frz_stampD (a : Stamp) : frz (stampD a) = stampD a := (rfl)
@[simp] theorem rd_stampD (a : Stamp) : W.rd (stampD a) = W.ok (stampD a) := (rfl)
@[simp] theorem own_stampD (a : Stamp) : own (stampD a) = false := (rfl)
@[simp] theorem frz_vecD (a : Vec) : frz (vecD a) = vecD a := (rfl)
@[simp] theorem rd_vecD (a : Vec) : W.rd (vecD a) = W.ok (vecD a) := (rfl)
@[simp] theorem own_vecD (a : Vec) : own (vecD a) = false := (rfl)
@[simp] theorem frz_logD (a : List Deed) : frz (logD a) = logD a := (rfl)
@[simp] theorem rd_logD (a : List Deed) : W.rd (logD a) = W.ok (logD a) := (rfl)
@[simp] theorem own_logD (a : List Deed) : own (logD a) = false := (rfl)
@[simp] theorem frz_Deed_toD (a : Deed) : frz (Deed.toD a) = Deed.toD a := (rfl)
@[simp] theorem rd_Deed_toD (a : Deed) : W.rd (Deed.toD a) = W.ok (Deed.toD a) := (rfl)
@[simp] theorem own_Deed_toD (a : Deed) : own (Deed.toD a) = false := (rfl)
@[simp] theorem frz_underD (a : Option Stamp) : frz (underD a) = underD a := by cases a <;> rfl
@[simp] theorem rd_underD (a : Option Stamp) : W.rd (underD a) = W.ok (underD a) := by cases a <;> rfl
@[simp] theorem own_underD (a : Option Stamp) : own (underD a) = false := by cases a <;> rfl
@[simp] theorem frz_What_toD (a : What) : frz (What.toD a) = What.toD a := by cases a <;> rfl
@[simp] theorem rd_What_toD (a : What) : W.rd (What.toD a) = W.ok (What.toD a) := by cases a <;> rfl
@[simp] theorem own_What_toD (a : What) : own (What.toD a) = false := by cases a <;> rfl
@[simp] theorem frz_Act_toD (a : Act) : frz (Act.toD a) = Act.toD a := by cases a <;> rfl
@[simp] theorem rd_Act_toD (a : Act) : W.rd (Act.toD a) = W.ok (Act.toD a) := by cases a <;> rfl
@[simp] theorem own_Act_toD (a : Act) : own (Act.toD a) = false := by cases a <;> rfl
@[simp] theorem rd_memD (a : List Str) : W.rd (memD a) = W.ok (memD a) := (rfl)
@[simp] theorem own_memD (a : List Str) : own (memD a) = false := (rfl)
@[simp] theorem frz_House_toD (a : House) : frz (House.toD a) = House.toD a := (rfl)
@[simp] theorem rd_House_toD (a : House) : W.rd (House.toD a) = W.ok (House.toD a) := (rfl)
@[simp] theorem own_House_toD (a : House) : own (House.toD a) = false := (rfl)
theorem stampD_mk (t : Int) (h : Hnd) : D.tup [.int t, handD h] = stampD (t, h) := rfl
def Act.kind : Act → Str
  | .say _ _ _ => "say"
  | .change _ _ => "change"
  | .back _ => "back"
  | .like _ _ _ => "like"
  | .read _ _ => "read"
  | .seen _ => "seen"
  | .hush _ _ => "hush"
  | .rung _ => "rung"
@[simp] theorem ix_act0 (A : AH) (w : Act) : fIxA A w.toD (.int 0) = some (.str w.kind) := by cases w <;> simp [Act.toD, Act.kind]
@[simp] theorem fMax2_int (A : AH) (i j : Int) : fMax2 A [.int i, .int j] = some (.int (if j > i then j else i)) := (rfl)
@[simp] theorem append_ap (xs : List D) (rA : W (List D)) (A : AH) (Q : D → AH → Prop) (E : X3) : W.mu okL gAppend (.ml xs) rA A Q E = rA A (fun ds A2 => ∃ ob' d, gAppend (.lst xs) ds = some (ob', d) ∧ obOf (dOf ob') = some ob' ∧ Q (dOf ob') A2) E := by
  unfold W.mu
  simp [obOf, okL]
section
variable (A : AH) (l : List Deed) (d : Deed)
@[simp] theorem itS_logD : W.itS (logD l) = W.ok (l.map Deed.toD, []) := (rfl)
@[simp] theorem items_logD : itemsW A (logD l) = some (l.map Deed.toD, []) := (rfl)
@[simp] theorem len_logD : fLen A [logD l] = some (.int l.length) := by simp [logD]
@[simp] theorem ix_logD (i : Int) : fIxA A (logD l) (.int i) = L2.atI (l.map Deed.toD) i := by simp [logD]
@[simp] theorem ix_deed0 : fIxA A d.toD (.int 0) = some (.int d.time) := by simp [Deed.toD]
@[simp] theorem ix_deed1 : fIxA A d.toD (.int 1) = some (handD d.hand) := by simp [Deed.toD]
@[simp] theorem ix_deed2 : fIxA A d.toD (.int 2) = some (.int d.num) := by simp [Deed.toD]
@[simp] theorem ix_deed3 : fIxA A d.toD (.int 3) = some d.act.toD := by simp [Deed.toD]
@[simp] theorem ix_hand0 (h : Hnd) : fIxA A (handD h) (.int 0) = some (.str h.1) := by simp [handD]
@[simp] theorem ix_hand1 (h : Hnd) : fIxA A (handD h) (.int 1) = some (.int h.2) := by simp [handD]
@[simp] theorem ix_stamp0 (s : Stamp) : fIxA A (stampD s) (.int 0) = some (.int s.1) := by simp [stampD]
@[simp] theorem ix_stamp1 (s : Stamp) : fIxA A (stampD s) (.int 1) = some (handD s.2) := by simp [stampD]
end
/-! ### the parts of a house -/
def House.ns (h : House) : List Str := h.people.map (·.1)
theorem House.ns_len (h : House) : h.ns.length = h.people.length := by simp [House.ns]
def pairI (p : Str × Int) : D := .tup [.str p.1, .int p.2]
def pairM (r : Str × List Str) : D := .tup [.str r.1, memD r.2]
section
variable (A : AH) (h : House)
@[simp] theorem hD_0 : fIxA A h.toD (.int 0) = some h.pD := by simp [House.toD]
@[simp] theorem hD_1 : fIxA A h.toD (.int 1) = some h.rD := by simp [House.toD]
@[simp] theorem frz_pD : frz h.pD = h.pD := (rfl)
@[simp] theorem rd_pD : W.rd h.pD = W.ok h.pD := (rfl)
@[simp] theorem own_pD : own h.pD = false := (rfl)
@[simp] theorem frz_rD : frz h.rD = h.rD := (rfl)
@[simp] theorem rd_rD : W.rd h.rD = W.ok h.rD := (rfl)
@[simp] theorem own_rD : own h.rD = false := (rfl)
@[simp] theorem len_pD : fLen A [h.pD] = some (.int h.people.length) := by simp [House.pD]
@[simp] theorem len_rD : fLen A [h.rD] = some (.int h.rooms.length) := by simp [House.rD]
@[simp] theorem ix_pD (i : Int) : fIxA A h.pD (.int i) = L2.atI (h.people.map pairI) i := by simp [House.pD]; rfl
@[simp] theorem ix_rD (i : Int) : fIxA A h.rD (.int i) = L2.atI (h.rooms.map pairM) i := by simp [House.rD]; rfl
@[simp] theorem itS_pD : W.itS h.pD = W.ok (h.people.map pairI, []) := (rfl)
@[simp] theorem itS_rD : W.itS h.rD = W.ok (h.rooms.map pairM, []) := (rfl)
@[simp] theorem items_pD : itemsW A h.pD = some (h.people.map pairI, []) := (rfl)
@[simp] theorem items_rD : itemsW A h.rD = some (h.rooms.map pairM, []) := (rfl)
@[simp] theorem pairI_0 (p : Str × Int) : fIxA A (pairI p) (.int 0) = some (.str p.1) := by simp [pairI]
@[simp] theorem pairI_1 (p : Str × Int) : fIxA A (pairI p) (.int 1) = some (.int p.2) := by simp [pairI]
@[simp] theorem pairM_0 (p : Str × List Str) : fIxA A (pairM p) (.int 0) = some (.str p.1) := by simp [pairM]
@[simp] theorem pairM_1 (p : Str × List Str) : fIxA A (pairM p) (.int 1) = some (memD p.2) := by simp [pairM]
@[simp] theorem frz_pairI (p : Str × Int) : frz (pairI p) = pairI p := (rfl)
@[simp] theorem frz_pairM (p : Str × List Str) : frz (pairM p) = pairM p := (rfl)
end
def handsD (hs : List Hnd) : D := .lst (hs.map handD)
section
variable (A : AH) (hs : List Hnd)
@[simp] theorem frz_handsD : frz (handsD hs) = handsD hs := (rfl)
@[simp] theorem rd_handsD : W.rd (handsD hs) = W.ok (handsD hs) := (rfl)
@[simp] theorem own_handsD : own (handsD hs) = false := (rfl)
@[simp] theorem len_handsD : fLen A [handsD hs] = some (.int hs.length) := by simp [handsD]
@[simp] theorem ix_handsD (i : Int) : fIxA A (handsD hs) (.int i) = L2.atI (hs.map handD) i := by simp [handsD]
@[simp] theorem itS_handsD : W.itS (handsD hs) = W.ok (hs.map handD, []) := (rfl)
@[simp] theorem items_handsD : itemsW A (handsD hs) = some (hs.map handD, []) := (rfl)
end
/-! ### texts of signs -/
theorem app_list (x y : Str) : (x ++ y).cps.toList = x.cps.toList ++ y.cps.toList := by
  show (x.cps ++ y.cps).toList = _
  simp
def Prn (x : Str) : Prop := ∀ c ∈ x.cps.toList, 32 ≤ c ∧ c ≤ 126
theorem Prn.app {x y : Str} (hx : Prn x) (hy : Prn y) : Prn (x ++ y) := fun c hc => by
  rw [app_list] at hc
  rcases List.mem_append.mp hc with h | h
  · exact hx c h
  · exact hy c h
theorem NameOk.prn {x : Str} (h : NameOk x) : Prn x := fun c hc => by have := h.lets c hc; omega
structure SayOk (x : Str) : Prop where
  one : 1 ≤ x.length
  most : x.length ≤ 60
  prn : Prn x
end T3
set_option autoImplicit false
namespace T3
open PySem PySem.Spec PyProof.Rows L2
/-! ### sorted rows of coded things -/
theorem pw_unique {α : Type} {r : α → α → Prop} (anti : ∀ a b, r a b → r b a → a = b) : ∀ {l l' : List α}, l.Perm l' → l.Pairwise r → l'.Pairwise r → l = l'
  | [], l', h, _, _ => by rw [List.nil_perm.mp h]
  | a :: l, [], h, _, _ => absurd h.length_eq (by simp)
  | a :: l, b :: l', h, h1, h2 => by
    have e : a = b := by
      have ha : a ∈ b :: l' := h.mem_iff.mp List.mem_cons_self
      have hb : b ∈ a :: l := h.mem_iff.mpr List.mem_cons_self
      rcases List.mem_cons.mp ha with e | ha
      · exact e
      · rcases List.mem_cons.mp hb with e | hb
        · exact e.symm
        · exact anti a b ((List.pairwise_cons.mp h1).1 b hb) ((List.pairwise_cons.mp h2).1 a ha)
    subst e
    rw [pw_unique anti h.cons_inv (List.pairwise_cons.mp h1).2 (List.pairwise_cons.mp h2).2]
def leD (a b : D) : Prop := PySem.W.dataLe false pd a b = true
theorem leD_anti {a b : D} (h1 : leD a b) (h2 : leD b a) : PySem.W.keyToks (pd a) = PySem.W.keyToks (pd b) := by
  have e1 : (!PyProof.Rows.lexLt PyProof.Rows.itemOrd (PySem.W.keyToks (pd b)) (PySem.W.keyToks (pd a))) = true := h1
  have e2 : (!PyProof.Rows.lexLt PyProof.Rows.itemOrd (PySem.W.keyToks (pd a)) (PySem.W.keyToks (pd b))) = true := h2
  rw [Bool.not_eq_true'] at e1 e2
  exact lex_total (O := PyProof.Rows.itemOrd) _ _ e2 e1
/-- codes whose keys differ -/
structure Key {α : Type} (f : α → D) : Prop extends Enc f where
  tok : ∀ a b, PySem.W.keyToks (pd (f a)) = PySem.W.keyToks (pd (f b)) → a = b
theorem sortD_map {α : Type} (f : α → D) (l : List α) : ∃ l' : List α, sortD (l.map f) = l'.map f ∧ l'.Perm l ∧ l'.Pairwise fun a b => leD (f a) (f b) := by
  obtain ⟨l', hp, e⟩ := perm_map_ex (sortD_perm (l.map f))
  refine ⟨l', e, hp, ?_⟩
  have hs := sortD_sorted (l.map f)
  rw [e, List.pairwise_map] at hs
  exact hs
theorem sortD_same {α : Type} {f : α → D} (k : Key f) {l l' : List α} (h : l.Perm l') : sortD (l.map f) = sortD (l'.map f) := by
  obtain ⟨a, ea, pa, ra⟩ := sortD_map f l
  obtain ⟨b, eb, pb, rb⟩ := sortD_map f l'
  rw [ea, eb, pw_unique (fun x y h1 h2 => k.tok x y (leD_anti h1 h2)) (pa.trans (h.trans pb.symm)) ra rb]
theorem cps_inj {x y : Str} : x.cps = y.cps ↔ x = y := ⟨fun h => PySem.W.str_of_cps (congrArg Array.toList h), fun h => by rw [h]⟩
theorem keyHand : Key handD := ⟨encHand, fun a b h => by
  simp [handD, pd, pds, PySem.W.keyToks, PySem.W.keyToksAll, cps_inj] at h
  exact Prod.ext h.1 h.2⟩
theorem keyStamp : Key stampD := ⟨encStamp, fun a b h => by
  simp [stampD, handD, pd, pds, PySem.W.keyToks, PySem.W.keyToksAll, cps_inj] at h
  exact Prod.ext h.1 (Prod.ext h.2.1 h.2.2)⟩
/-! rows that may be sorted -/
theorem okCmp_mk {α : Type} {f : α → D} {l : List α} (hn : ∀ a ∈ l, pok (f a) = true) (hd : ∀ a ∈ l, dep (f a) ≤ 50) (hc : ∀ a ∈ l, ∀ b ∈ l, cmpP (pd (f a)) (pd (f b)) = true) (hl : l.length ≤ 1000) : okSrt (l.map f) = true := by
  have hp : ∀ l : List α, (∀ a ∈ l, pok (f a) = true) → poks (l.map f) = true := by
    intro l
    induction l with
    | nil => intro _; rfl
    | cons a l ih => intro h; rw [List.map_cons, poks, h a List.mem_cons_self, ih fun b hb => h b (List.mem_cons_of_mem _ hb)]; rfl
  have hz : l.length ≤ sizeLine := by have := sizeLine_eq; omega
  have : okCmp (l.map f) = true := by
    simp only [okCmp, hp l hn, Bool.true_and, List.length_map, hz, decide_true, Bool.and_true, Bool.and_eq_true, List.all_eq_true, decide_eq_true_eq]
    refine ⟨fun a ha b hb => ?_, fun a ha => ?_⟩
    · obtain ⟨x, hx, rfl⟩ := List.mem_map.mp ha
      obtain ⟨y, hy, rfl⟩ := List.mem_map.mp hb
      exact hc x hx y hy
    · obtain ⟨x, hx, rfl⟩ := List.mem_map.mp ha
      exact hd x hx
  unfold okSrt
  rw [this, Bool.or_true]
end T3
set_option autoImplicit false
namespace T3
open PySem PySem.Spec PyProof.Rows L2
theorem toNat_inj : ∀ {a b : List Char}, a.map Char.toNat = b.map Char.toNat → a = b
  | [], [], _ => rfl
  | [], _ :: _, h => by simp at h
  | _ :: _, [], h => by simp at h
  | a :: as, b :: bs, h => by
    simp only [List.map_cons, List.cons.injEq] at h
    rw [toNat_inj h.2, Char.ext (UInt32.toNat_inj.mp h.1)]
@[simp] theorem ofS_inj {a b : String} : Str.ofString a = Str.ofString b ↔ a = b := by
  constructor
  · intro h
    rw [Str.ofString_eq_toList, Str.ofString_eq_toList, Str.mk.injEq] at h
    have := congrArg Array.toList h
    simp only at this
    exact String.toList_injective (toNat_inj this)
  · intro h; rw [h]
/-! ### what is compared by == -/
theorem eqD_tup (a b : D) (as bs : List D) : eqD (.tup (a :: as)) (.tup (b :: bs)) = (eqD a b && eqD (.tup as) (.tup bs)) := by simp [eqD, pd, pds, PyData.eqv, PyData.eqvAll]
theorem eqD_nil : eqD (.tup []) (.tup []) = true := by simp [eqD, pd, pds, PyData.eqv, PyData.eqvAll]
theorem eqD_nc (b : D) (bs : List D) : eqD (.tup []) (.tup (b :: bs)) = false := by simp [eqD, pd, pds, PyData.eqv, PyData.eqvAll]
theorem eqD_cn (b : D) (bs : List D) : eqD (.tup (b :: bs)) (.tup []) = false := by simp [eqD, pd, pds, PyData.eqv, PyData.eqvAll]
/-- coded, and compared as it is coded -/
structure Cod {α : Type} [DecidableEq α] (f : α → D) : Prop where
  pok : ∀ a, pok (f a) = true
  dep : ∀ a, dep (f a) ≤ 22
  eq : ∀ a b, eqD (f a) (f b) = decide (a = b)
section
variable {α : Type} [DecidableEq α] {f : α → D}
theorem Enc.cod (e : Enc f) : Cod f := ⟨e.pok, fun a => by have := e.dep a; omega, e.eqD⟩
theorem Cod.own (e : Cod f) (a : α) : own (f a) = false := by
  have := e.pok a
  cases h : f a <;> first | rfl | (rw [h] at this; simp [T3.pok] at this)
theorem Cod.frz (e : Cod f) (a : α) : T3.frz (f a) = f a := frz_of (e.own a)
theorem Cod.vw (e : Cod f) (A : AH) (a : α) : T3.vw A (f a) = f a := by
  have := e.pok a
  cases h : f a <;> first | rfl | (rw [h] at this; simp [T3.pok] at this)
theorem Cod.inj (e : Cod f) {a b : α} (h : f a = f b) : a = b := by
  have h1 := e.eq a b
  have h2 := e.eq b b
  rw [h, h2] at h1
  simpa using h1
theorem Cod.poks (e : Cod f) : ∀ l : List α, poks (l.map f) = true
  | [] => rfl
  | a :: l => by rw [List.map_cons, T3.poks, e.pok, e.poks l]; rfl
theorem Cod.deps (e : Cod f) : ∀ l : List α, deps (l.map f) ≤ 22
  | [] => by simp [T3.deps]
  | a :: l => by
    rw [List.map_cons, T3.deps]
    have := e.dep a
    have := e.deps l
    omega
theorem Cod.rows (e : Cod f) : ∀ l l' : List α, eqD (.tup (l.map f)) (.tup (l'.map f)) = decide (l = l')
  | [], [] => by simp [eqD_nil]
  | [], _ :: _ => by simp [eqD_nc]
  | _ :: _, [] => by simp [eqD_cn]
  | a :: l, b :: l' => by
    rw [List.map_cons, List.map_cons, eqD_tup, e.eq, e.rows l l']
    by_cases h : a = b <;> by_cases h2 : l = l' <;> simp [h, h2]
theorem Cod.any (e : Cod f) (a : α) : ∀ l : List α, ((l.map f).any fun y => eqD y (f a)) = decide (a ∈ l)
  | [] => by simp
  | b :: l => by
    rw [List.map_cons, List.any_cons, e.eq, e.any a l]
    by_cases h : b = a
    · subst h; simp
    · have : ¬ a = b := fun z => h z.symm
      simp [h, this]
theorem Cod.fEq (e : Cod f) (A : AH) (a b : α) : fEq A (f a) (f b) = some (.bl (decide (a = b))) := by
  have h1 := e.dep a
  have : okEq (f a) (f b) = true := by simp [okEq, e.pok]; omega
  rw [T3.fEq, e.vw, e.vw, if_pos this, e.eq]
theorem Cod.fNe (e : Cod f) (A : AH) (a b : α) : fNe A (f a) (f b) = some (.bl (!decide (a = b))) := by
  have h1 := e.dep a
  have : okEq (f a) (f b) = true := by simp [okEq, e.pok]; omega
  rw [T3.fNe, e.vw, e.vw, if_pos this, e.eq]
theorem Cod.tup (e : Cod f) (a : List α) : T3.pok (.tup (a.map f)) = true ∧ T3.dep (.tup (a.map f)) ≤ 30 := by
  refine ⟨?_, ?_⟩
  · rw [T3.pok]; exact e.poks a
  · rw [T3.dep]; have := e.deps a; omega
theorem Cod.lst (e : Cod f) (a : List α) : T3.pok (.lst (a.map f)) = true ∧ T3.dep (.lst (a.map f)) ≤ 30 := by
  refine ⟨?_, ?_⟩
  · rw [T3.pok]; exact e.poks a
  · rw [T3.dep]; have := e.deps a; omega
theorem Cod.fInT (e : Cod f) (A : AH) (g : Bool → Bool) (a : α) (l : List α) : fInA g A (f a) (.tup (l.map f)) = some (.bl (g (decide (a ∈ l)))) := by
  have := e.deps l
  rw [fInA_tup]
  simp [fInB, fIn, e.vw, e.pok, e.poks, e.any, show T3.deps (l.map f) ≤ 60 by omega]
end
theorem codStr : Cod D.str := encStr.cod
theorem codHand : Cod handD := encHand.cod
theorem codStamp : Cod stampD := encStamp.cod
theorem codUnder : Cod underD := encUnder.cod
theorem codWhat : Cod What.toD := encWhat.cod
def pairV (p : Hnd × Int) : D := .tup [handD p.1, .int p.2]
theorem vecD_eq (v : Vec) : vecD v = .tup (v.map pairV) := rfl
theorem encPairV : Enc pairV := ⟨fun a b h => by
    simp only [pairV, D.tup.injEq, List.cons.injEq, D.int.injEq, and_true] at h; exact Prod.ext (encHand.inj _ _ h.1) h.2, fun a => rfl, fun a => by simp [pairV, handD, dep, deps], fun a => by
    simp [pairV, handD, kfit, kok, koks, dk, dks, NestedKey.depth, NestedKey.depthAll]⟩
theorem codPairV : Cod pairV := encPairV.cod
theorem codVec : Cod vecD := ⟨fun a => (codPairV.tup a).1, fun a => by
  rw [vecD_eq, dep]; have := encPairV.deps a; omega, codPairV.rows⟩
theorem codAct : Cod Act.toD := ⟨fun a => by
    cases a <;> simp [Act.toD, pok, poks, codStamp.pok, codUnder.pok, codVec.pok, codWhat.pok], fun a => by
    cases a with
    | say r u s => simp only [Act.toD, dep, deps]; have := encUnder.dep u; omega
    | read r v => simp only [Act.toD, dep, deps]; have h := encPairV.deps v; rw [vecD_eq, dep]; omega
    | change m s => simp only [Act.toD, dep, deps]; have := encStamp.dep m; omega
    | back m => simp only [Act.toD, dep, deps]; have := encStamp.dep m; omega
    | like m s b => simp only [Act.toD, dep, deps]; have := encStamp.dep m; omega
    | seen m => simp only [Act.toD, dep, deps]; have := encStamp.dep m; omega
    | rung m => simp only [Act.toD, dep, deps]; have := encStamp.dep m; omega
    | hush w b => simp only [Act.toD, dep, deps]; have := encWhat.dep w; omega, fun a b => by
    cases a <;> cases b <;> simp [Act.toD, eqD_tup, eqD_nil, eqD_nc, eqD_cn, eqD_str, eqD_bl, codStamp.eq, codUnder.eq, codVec.eq, codWhat.eq, Bool.beq_eq_decide_eq]⟩
theorem deed_dep (a : Deed) : dep a.toD ≤ 15 := by
    have hx : dep a.act.toD ≤ 12 := by
      cases a.act with
      | say r u s => simp only [Act.toD, dep, deps]; have := encUnder.dep u; omega
      | read r v => simp only [Act.toD, dep, deps]; have h := encPairV.deps v; rw [vecD_eq, dep]; omega
      | change m s => simp only [Act.toD, dep, deps]; have := encStamp.dep m; omega
      | back m => simp only [Act.toD, dep, deps]; have := encStamp.dep m; omega
      | like m s b => simp only [Act.toD, dep, deps]; have := encStamp.dep m; omega
      | seen m => simp only [Act.toD, dep, deps]; have := encStamp.dep m; omega
      | rung m => simp only [Act.toD, dep, deps]; have := encStamp.dep m; omega
      | hush w b => simp only [Act.toD, dep, deps]; have := encWhat.dep w; omega
    have := encHand.dep a.hand
    simp only [Deed.toD, dep, deps]; omega
theorem codDeed : Cod Deed.toD := ⟨fun a => by
    simp [Deed.toD, pok, poks, codHand.pok, codAct.pok], fun a => by
    have := deed_dep a
    omega, fun a b => by
    obtain ⟨t, h, n, x⟩ := a
    obtain ⟨t', h', n', x'⟩ := b
    simp [Deed.toD, eqD_tup, eqD_nil, eqD_int, codHand.eq, codAct.eq]⟩
end T3
set_option autoImplicit false
namespace T3
open PySem PySem.Spec PyProof.Rows L2
theorem W.loop_wp {σ δ : Type} (E : X3) {pt : D → Option δ} {body : σ → δ → W (Fl σ)} {Q : Fl σ → AH → Prop} (I : Nat → σ → AH → Prop) : ∀ (xs : List D) (k : Nat) (s : σ) (A : AH), I k s A →
    (∀ (i : Nat) (x : D) (s : σ) (A : AH), xs[i]? = some x → I (k + i) s A → ∃ y, pt x = some y ∧ ∀ K : Fl σ → AH → Prop, (∀ s' A', I (k + i + 1) s' A' → K (.nx s') A') → body s y A K E) → (∀ s A, I (k + xs.length) s A → Q (.nx s) A) → W.loop [] pt body xs s A Q E
  | [], k, s, A, h0, _, f => by simp only [W.loop, W.held_nil, W.ok_bind, W.ok_ap]; exact f s A h0
  | x :: xs, k, s, A, h0, h, f => by
    obtain ⟨y, e1, e2⟩ := h 0 x s A rfl h0
    simp only [W.loop, W.held_nil, W.ok_bind, e1, W.bind_ap]
    refine e2 _ fun s' A' h1 => W.loop_wp E I xs (k + 1) s' A' h1 (fun i x' s2 A2 hx hi => ?_) fun s2 A2 h2 => f s2 A2 ?_
    · have e : k + 1 + i = k + (i + 1) := by omega
      rw [e] at hi ⊢
      exact h (i + 1) x' s2 A2 (by simpa using hx) hi
    · have e : k + 1 + xs.length = k + (x :: xs).length := by rw [List.length_cons]; omega
      rw [e] at h2; exact h2
@[simp] theorem entsD_kD {κ α : Type} (f : κ → D) (g : α → D) (m : List (κ × α)) : entsD (kD f g m) = m.map fun p => D.tup [f p.1, g p.2] := by simp [entsD, kD, pairD]
@[simp] theorem W.andE_ap (t u : W D) (A : AH) (Q : D → AH → Prop) (E : X3) : W.andE t u A Q E = t A (fun d A1 => ∃ b, d = .bl b ∧ if b = true then u A1 Q E else Q (.bl false) A1) E := by
  unfold W.andE W.bind W.tst
  congr; funext d A1
  simp only [eq_iff_iff]
  constructor
  · rintro ⟨b, e, h⟩; refine ⟨b, e, ?_⟩; cases b <;> exact h
  · rintro ⟨b, e, h⟩; refine ⟨b, e, ?_⟩; cases b <;> exact h
@[simp] theorem W.orE_ap (t u : W D) (A : AH) (Q : D → AH → Prop) (E : X3) : W.orE t u A Q E = t A (fun d A1 => ∃ b, d = .bl b ∧ if b = true then Q (.bl true) A1 else u A1 Q E) E := by
  unfold W.orE W.bind W.tst
  congr; funext d A1
  simp only [eq_iff_iff]
  constructor
  · rintro ⟨b, e, h⟩; refine ⟨b, e, ?_⟩; cases b <;> exact h
  · rintro ⟨b, e, h⟩; refine ⟨b, e, ?_⟩; cases b <;> exact h
@[simp] theorem W.notE_ap (t : W D) (A : AH) (Q : D → AH → Prop) (E : X3) : W.notE t A Q E = t A (fun d A1 => ∃ b, d = .bl b ∧ Q (.bl (!b)) A1) E := (rfl)
/-! ### comprehensions over coded rows -/
section
variable {ι : Type} {f : ι → D} {xs : List ι}
theorem comp1T (g : ι → D) {te : D → W D} (hl : xs.length ≤ sizeLine) (h : ∀ x ∈ xs, te (f x) = W.ok (g x)) : W.comp [] W.p1 (fun _ => W.ok true) te (xs.map f) [] = W.ok (.ml (xs.map fun x => frz (g x))) :=
  W.comp_mapT f g xs hl fun x hx => ⟨_, rfl, h x hx⟩
end
end T3
set_option autoImplicit false
namespace T3
open PySem PySem.Spec PyProof.Rows L2
/-! ### dict(pairs) -/
theorem fold_put {κ α : Type} [DecidableEq κ] {f : κ → D} (e : Enc f) (g : α → D) : ∀ (ps acc : List (κ × α)), (kD f g ps).foldl (fun acc p => dput acc p.1 p.2) (kD f g acc) = kD f g (ps.foldl (fun acc p => putK acc p.1 p.2) acc)
  | [], acc => rfl
  | p :: ps, acc => by
    show (kD f g ps).foldl _ (dput (kD f g acc) (f p.1) (g p.2)) = _
    rw [kD_put e, fold_put e g ps]; rfl
theorem put_all {κ α : Type} [DecidableEq κ] : ∀ (ps acc : List (κ × α)), ((acc ++ ps).map (·.1)).Nodup → ps.foldl (fun acc p => putK acc p.1 p.2) acc = acc ++ ps
  | [], acc, _ => by simp
  | p :: ps, acc, h => by
    have hn : p.1 ∉ acc.map (·.1) := fun hm => by
      rw [List.map_append, List.nodup_append] at h
      exact h.2.2 _ hm _ (by simp) rfl
    rw [List.foldl_cons, putK_new hn, put_all ps _ (by simpa using h)]
    simp
theorem mkD_kD {κ α : Type} [DecidableEq κ] {f : κ → D} (e : Enc f) (g : α → D) (ps : List (κ × α)) (h : (ps.map (·.1)).Nodup) : mkD (kD f g ps) = kD f g ps := by
  have := fold_put e g ps []
  unfold mkD
  show (kD f g ps).foldl (fun acc p => dput acc p.1 p.2) (kD f g []) = _
  rw [this, put_all ps [] (by simpa using h)]
  rfl
theorem pairsOf_map {κ α : Type} {f : κ → D} {g : α → D} {e : κ × α → D} (hf : ∀ k, kfit (f k) = true) (he : ∀ p, e p = .tup [f p.1, g p.2]) : ∀ ps : List (κ × α), pairsOf (ps.map e) = some (kD f g ps)
  | [] => rfl
  | p :: ps => by
    rw [List.map_cons, he, pairsOf, if_pos (hf _), pairsOf_map hf he ps]; rfl
end T3
set_option autoImplicit false
namespace T3
open PySem PySem.Spec PyProof.Rows L2
/-! ### what the laws' texts share -/
@[simp] theorem own_script (ns : List Int) : own (script ns) = false := rfl
@[simp] theorem frz_script (ns : List Int) : frz (script ns) = script ns := rfl
@[simp] theorem vw_script (A : AH) (ns : List Int) : vw A (script ns) = script ns := rfl
/-- a place between two statements where ways meet -/
theorem seq_mid {t u : TS3} {E : Ends3} {z : S3} {A : AH} (M : S3 → AH → Prop) (h : ∀ E' : Ends3, (∀ d A, E.rt d A → E'.rt d A) → (∀ z A, E.bk z A → E'.bk z A) → (∀ z A, E.ct z A → E'.ct z A) → (∀ z A, M z A → E'.nx z A) → t E' z A)
    (k : ∀ z A, M z A → u E z A) : sSeq t u E z A := h { E with nx := u E } (fun _ _ h => h) (fun _ _ h => h) (fun _ _ h => h) k
/-! ### stream(cell, many) -/
def N_streamS : List Str := ["_law_cell", "_law_many", "_law_found", "_law_rest", "_law_k", "_law_number", "_law_other"]
def b_streamS : TS3 := sSeq (sSet 2 (eLst (aNil))) (sSeq (sSet 3 (T3.e2 fFdiv (eB 0) (fz (eC (.int 2))))) (sSeq (sIf (tV (T3.e2 fEq (fz (T3.e2 fMod (eB 0) (fz (eC (.int 2))))) (fz (eC (.int 0))))) (sSeq (sFor (iR1 (aCons (fz (eV 1)) (aNil))) (.nm 4) (sSeq (sM 2 okL gAppend (aCons (fz (T3.e2 fMod (eB 3) (fz (eC (.int 1000000))))) (aNil)) kDrop) (sSeq (sSet 3 (T3.e2 fFdiv (eB 3) (fz (eC (.int 1000000))))) (sNil)))) (sSeq (sRetV 2) (sNil))) (sNil)) (sSeq (sSet 5 (T3.e2 fMod (eB 3) (fz (eC (.int 2147483647))))) (sSeq (sFor (iR1 (aCons (fz (eV 1)) (aNil))) (.nm 4) (sSeq (sSet 5 (T3.e2 fMod (fz (T3.e2 fAdd (fz (T3.e2 fAdd (fz (T3.e2 fMul (eB 5) (fz (eC (.int 48271))))) (fz (T3.e2 fMul (fz (eC (.int 7919))) (eB 4))))) (fz (eC (.int 11))))) (fz (eC (.int 2147483647))))) (sSeq (sSet 6 (T3.e2 fMod (fz (T3.e2 fMul (eB 5) (eB 5))) (fz (eC (.int 2147483629))))) (sSeq (sM 2 okL gAppend (aCons (fz (T3.e2 fMod (fz (T3.e2 fFdiv (fz (T3.e2 fMod (fz (T3.e2 fMul (eB 6) (fz (eC (.int 69621))))) (fz (eC (.int 2147483587))))) (fz (eC (.int 16))))) (fz (eC (.int 1000000))))) (aNil)) kDrop) (sNil))))) (sSeq (sRetV 2) (sNil))))))
def cells6 (ns : List Int) : Prop := ∀ n ∈ ns, 0 ≤ n ∧ n < 1000000
def sp_streamS : Sp3 := fun ds A Q _ => ∃ c m, ds = [.int c, .int m] ∧ (0 ≤ m ∧ m ≤ 1000) ∧ ∀ ns : List Int, (ns.length : Int) = m → cells6 ns → Q (.ml (ns.map .int)) A
theorem cells6_snoc {ns : List Int} {n : Int} (h : cells6 ns) (h1 : 0 ≤ n) (h2 : n < 1000000) : cells6 (ns ++ [n]) := fun x hx => by
  rcases List.mem_append.mp hx with hx | hx
  · exact h x hx
  · rw [List.mem_singleton.mp hx]; exact ⟨h1, h2⟩
theorem m_streamS (ds A Q) (h : sp_streamS ds A Q (fun _ _ _ => False)) : b_streamS { nx := fun _ A' => Q .non A', rt := Q } (start3 N_streamS ds) A := by
  obtain ⟨c, m, rfl, hm, q⟩ := h
  have h62 : small62 m := ⟨by omega, by omega⟩
  by_cases h0 : c % 2 = 0
  · simp [b_streamS, start3, N_streamS, h0, h62]
    refine for_inv (fun i z A' => A' = A ∧ ∃ (ns : List Int) (r : Int) (o : Option D), ns.length = i ∧ cells6 ns ∧ z = [some (.int c), some (.int m), some (.ml (ns.map .int)), some (.int r), o, none, none]) ⟨rfl, [], _, _, rfl, (fun _ h => nomatch h), rfl⟩ ?_ ?_
    · rintro i y hy z A1 ⟨rfl, ns, r, o, hl, hc, rfl⟩
      obtain ⟨hi, rfl⟩ := rng_get hy
      refine ⟨_, rfl, fun E' hr hb hn hct => ?_⟩
      have hz : ns.length < sizeLine := by have := line_of (n := 2000) (by omega); omega
      simp [hz]
      refine hn _ _ ⟨rfl, ns ++ [r % 1000000], r / 1000000, some (.int i), by simp [hl], cells6_snoc hc (by omega) (by omega), by simp⟩
    · rintro z A1 ⟨rfl, ns, r, o, hl, hc, rfl⟩
      simp
      exact q ns (by rw [hl, rng_length]; omega) hc
  · simp [b_streamS, start3, N_streamS, h0, h62]
    refine for_inv (fun i z A' => A' = A ∧ ∃ (ns : List Int) (r n : Int) (o o' : Option D), ns.length = i ∧ cells6 ns ∧ (0 ≤ n ∧ n < 2147483647) ∧ z = [some (.int c), some (.int m), some (.ml (ns.map .int)), some (.int r), o, some (.int n), o']) ⟨rfl, [], _, _, _, _, rfl, (fun _ h => nomatch h), ⟨Int.emod_nonneg _ (by decide), Int.emod_lt_of_pos _ (by decide)⟩, rfl⟩ ?_ ?_
    · rintro i y hy z A1 ⟨rfl, ns, r, n, o, o', hl, hc, hn, rfl⟩
      obtain ⟨hi, rfl⟩ := rng_get hy
      refine ⟨_, rfl, fun E' hr hb hnx hct => ?_⟩
      have hz : ns.length < sizeLine := by have := line_of (n := 2000) (by omega); omega
      have k1 : fMul A1 (.int n) (.int 48271) = some (.int (n * 48271)) := fMul_small (.inr (by decide))
      have k2 : fMul A1 (.int 7919) (.int i) = some (.int (7919 * i)) := fMul_small (.inl (by decide))
      obtain ⟨n2, hn2⟩ : ∃ n2, (n * 48271 + 7919 * (i : Int) + 11) % 2147483647 = n2 := ⟨_, rfl⟩
      have b2 : 0 ≤ n2 ∧ n2 < 2147483647 := ⟨by omega, by omega⟩
      have k3 : fMul A1 (.int n2) (.int n2) = some (.int (n2 * n2)) := fMul_small (.inl (big_of (by omega) (by omega)))
      obtain ⟨n3, hn3⟩ : ∃ n3, n2 * n2 % 2147483629 = n3 := ⟨_, rfl⟩
      have k4 : fMul A1 (.int n3) (.int 69621) = some (.int (n3 * 69621)) := fMul_small (.inr (by decide))
      simp [k1, k2, hn2, k3, hn3, k4, hz]
      refine hnx _ _ ⟨rfl, ns ++ [n3 * 69621 % 2147483587 / 16 % 1000000], r, n2, some (.int i), some (.int n3), by simp [hl], cells6_snoc hc (by omega) (by omega), b2, by simp⟩
    · rintro z A1 ⟨rfl, ns, r, n, o, o', hl, hc, hn, rfl⟩
      simp
      exact q ns (by rw [hl, rng_length]; omega) hc

/-! ### letters, names -/
/-- the letter of a number -/
def letC (i : Int) : Nat := 97 + (i % 26).toNat
theorem letC_ok (i : Int) : 97 ≤ letC i ∧ letC i ≤ 122 := by unfold letC; omega
theorem letters_ix (i : Int) : L2.atI letters.cps.toList (i % 26) = some (letC i) := by
  have h1 := Int.emod_nonneg i (show (26 : Int) ≠ 0 by omega)
  have h2 := Int.emod_lt_of_pos i (show (0 : Int) < 26 by omega)
  have hl := letters_length
  obtain ⟨j, hj⟩ : ∃ j : Nat, i % 26 = j := ⟨(i % 26).toNat, by omega⟩
  have hjl : j < 26 := by omega
  have e := atI_nat letters.cps.toList j (by omega)
  have e2 := letters_at ⟨j, hjl⟩
  simp only at e2
  rw [List.getElem?_eq_getElem (by omega)] at e2
  rw [hj, e, Option.some.inj e2]
  unfold letC
  congr 1; omega
theorem isLet_empty : isLet ("" : Str) := fun c hc => by
  have : ("" : Str).cps.toList = [] := by decide +kernel
  rw [this] at hc; cases hc
theorem empty_len : ("" : Str).length = 0 := by decide +kernel
theorem one_snoc (x : Str) (c : Nat) : (x ++ (⟨#[c]⟩ : Str)).length = x.length + 1 := by rw [str_append_length]; rfl

/-! ### name_in(rest) -/
def N_name_inS : List Str := ["_law_rest", "_law_letters", "_law_many", "_law_name", "_law_k"]
def b_name_inS : TS3 := sSeq (sSet 1 (eC (.str "abcdefghijklmnopqrstuvwxyz"))) (sSeq (sSet 2 (fz (T3.e2 fAdd (fz (eC (.int 1))) (fz (T3.e2 fMod (eB 0) (fz (eC (.int 8)))))))) (sSeq (sSet 0 (T3.e2 fFdiv (eB 0) (fz (eC (.int 8))))) (sSeq (sSet 3 (eC (.str ""))) (sSeq (sFor (iR1 (aCons (fz (eV 2)) (aNil))) (.nm 4) (sSeq (sSet 3 (fz (T3.e2 fAdd (eB 3) (fz (T3.e2 fIxA (eB 1) (fz (T3.e2 fMod (eB 0) (fz (eC (.int 26)))))))))) (sSeq (sSet 0 (T3.e2 fFdiv (eB 0) (fz (eC (.int 26))))) (sNil)))) (sSeq (sRet (eTup (aCons (fz (eV 3)) (aCons (fz (eV 0)) (aNil))))) (sNil))))))
def sp_name_inS : Sp3 := fun ds A Q _ => ∃ r, ds = [.int r] ∧ ∀ (x : Str) (r' : Int), NameOk x → Q (.tup [.str x, .int r']) A
theorem m_name_inS (ds A Q) (h : sp_name_inS ds A Q (fun _ _ _ => False)) : b_name_inS { nx := fun _ A' => Q .non A', rt := Q } (start3 N_name_inS ds) A := by
  obtain ⟨r, rfl, q⟩ := h
  have h62 : small62 (1 + r % 8) := ⟨by omega, by omega⟩
  have hll := letters_len
  have hlim : lim 26 = true := lim_of (by omega)
  have z2 : 2 ≤ sizeLine := line_of (by omega)
  simp [b_name_inS, start3, N_name_inS, h62]
  refine for_inv (fun i z A' => A' = A ∧ ∃ (x : Str) (r' : Int) (o : Option D), x.length = i ∧ isLet x ∧ z = [some (.int r'), some (.str letters), some (.int (1 + r % 8)), some (.str x), o]) ⟨rfl, "", _, _, empty_len, isLet_empty, rfl⟩ ?_ ?_
  · rintro i y hy z A1 ⟨rfl, x, r', o, hl, hx, rfl⟩
    obtain ⟨hi, rfl⟩ := rng_get hy
    refine ⟨_, rfl, fun E' hr hb hn hct => ?_⟩
    have hlx : lim (x.length + 1) = true := lim_of (by omega)
    simp [hll, hlim, letters_ix, one_length, hlx]
    exact hn _ _ ⟨rfl, _, _, _, by rw [one_snoc, hl], isLet_snoc hx (letC_ok r'), rfl⟩
  · rintro z A1 ⟨rfl, x, r', o, hl, hx, rfl⟩
    rw [rng_length] at hl
    simp [z2]
    exact q x r' ⟨by omega, by omega, hx⟩
/-! ### words(cell, many) -/
def N_wordsS : List Str := ["_law_cell", "_law_many", "_law_letters", "_law_long", "_law_spot", "_law_words_here", "_law_k", "_law_word", "_law_j", "_law_sign"]
def b_wordsS : TS3 := sSeq (sSet 2 (eC (.str "abcdefghijklmnopqrstuvwxyz"))) (sSeq (sSet 3 (fz (T3.e2 fAdd (fz (eC (.int 1))) (fz (T3.e2 fMod (eB 0) (fz (eC (.int 7)))))))) (sSeq (sSet 4 (T3.e2 fMod (fz (T3.e2 fFdiv (eB 0) (fz (eC (.int 7))))) (eB 3))) (sSeq (sSet 5 (eLst (aNil))) (sSeq (sFor (iR1 (aCons (fz (eV 1)) (aNil))) (.nm 6) (sSeq (sSet 7 (eC (.str ""))) (sSeq (sFor (iR1 (aCons (fz (eV 3)) (aNil))) (.nm 8) (sSeq (sSet 9 (fz (T3.e2 fAdd (fz (T3.e2 fFdiv (eB 0) (fz (T3.e2 fAdd (fz (eC (.int 49))) (fz (T3.e2 fMul (fz (eC (.int 5))) (eB 8))))))) (fz (T3.e2 fMul (eB 8) (fz (T3.e2 fMod (fz (T3.e2 fFdiv (eB 0) (fz (eC (.int 49))))) (fz (eC (.int 3)))))))))) (sSeq (sIf (tV (T3.e2 fEq (eB 8) (eB 4))) (sSeq (sSet 9 (fz (T3.e2 fAdd (eB 9) (fz (T3.e2 fMul (fz (eC (.int 3))) (eB 6)))))) (sNil)) (sNil)) (sSeq (sSet 7 (fz (T3.e2 fAdd (eB 7) (fz (T3.e2 fIxA (eB 2) (fz (T3.e2 fMod (eB 9) (fz (eC (.int 26)))))))))) (sNil))))) (sSeq (sM 5 okL gAppend (aCons (fz (eV 7)) (aNil)) kDrop) (sNil))))) (sSeq (sIf (tV (T3.e2 fEq (fz (T3.e2 fMod (fz (T3.e2 fFdiv (eB 0) (fz (eC (.int 49))))) (fz (eC (.int 4))))) (fz (eC (.int 1))))) (sSeq (sPut 5 gSet (eC (.int 1)) (T3.e2 fAdd (fz (T3.e2 fIxA (eB 5) (fz (eC (.int 0))))) (fz (T3.e2 fIxA (eB 2) (fz (T3.e2 fMod (fz (T3.e2 fFdiv (eB 0) (fz (eC (.int 196))))) (fz (eC (.int 26))))))))) (sNil)) (sNil)) (sSeq (sRetV 5) (sNil)))))))
/-- the letter at place j of word k -/
def wl (c : Int) (spot : Nat) (k j : Nat) : Nat := letC (c / (49 + 5 * (j : Int)) + (j : Int) * (c / 49 % 3) + if j = spot then 3 * (k : Int) else 0)
def wcps (c : Int) (long spot k : Nat) : List Nat := (List.range long).map (wl c spot k)
def wordS (c : Int) (long spot k : Nat) : Str := ⟨(wcps c long spot k).toArray⟩
theorem wcps_length (c : Int) (long spot k : Nat) : (wcps c long spot k).length = long := by simp [wcps]
theorem wordS_length (c : Int) (long spot k : Nat) : (wordS c long spot k).length = long := by
  show (wcps c long spot k).toArray.size = _
  simp [wcps_length]
theorem wordS_let (c : Int) (long spot k : Nat) : isLet (wordS c long spot k) := fun d hd => by
  have hd' : d ∈ wcps c long spot k := by simpa [wordS] using hd
  obtain ⟨j, _, rfl⟩ := List.mem_map.mp hd'
  exact letC_ok _
theorem wordS_inj {c : Int} {long spot k k' : Nat} (hs : spot < long) (hk : k < 6) (hk' : k' < 6) (h : wordS c long spot k = wordS c long spot k') : k = k' := by
  have e : wcps c long spot k = wcps c long spot k' := by
    have := congrArg (fun x : Str => x.cps.toList) h
    simpa [wordS] using this
  have e2 := congrArg (fun l => l[spot]?) e
  simp only [wcps, List.getElem?_map, List.getElem?_range hs, Option.map_some, Option.some.injEq] at e2
  unfold wl letC at e2
  rw [if_pos rfl, if_pos rfl] at e2
  generalize c / (49 + 5 * (spot : Int)) + (spot : Int) * (c / 49 % 3) = g at e2
  omega
def sp_wordsS : Sp3 := fun ds A Q _ => ∃ c m, ds = [.int c, .int m] ∧ (2 ≤ m ∧ m ≤ 6) ∧ ∀ ws : List Str, (ws.length : Int) = m → ws.Nodup → (∀ x ∈ ws, NameOk x) → Q (.ml (ws.map .str)) A
theorem m_wordsS (ds A Q) (h : sp_wordsS ds A Q (fun _ _ _ => False)) : b_wordsS { nx := fun _ A' => Q .non A', rt := Q } (start3 N_wordsS ds) A := by
  obtain ⟨c, m, rfl, hm, q⟩ := h
  have h62 : small62 m := ⟨by omega, by omega⟩
  obtain ⟨long, hlong⟩ : ∃ long : Nat, 1 + c % 7 = long := ⟨(1 + c % 7).toNat, by omega⟩
  have hl1 : 1 ≤ long ∧ long ≤ 7 := by omega
  have hlp : (0 : Int) < long := by omega
  have hs0 := Int.emod_nonneg (c / 7) (show (long : Int) ≠ 0 by omega)
  have hs1 := Int.emod_lt_of_pos (c / 7) hlp
  obtain ⟨spot, hspot⟩ : ∃ spot : Nat, c / 7 % (long : Int) = spot := ⟨(c / 7 % (long : Int)).toNat, by omega⟩
  have hsp : spot < long := by omega
  have h62l : small62 (long : Int) := ⟨by omega, by omega⟩
  have hll := letters_len
  have hlim : lim 26 = true := lim_of (by omega)
  have hpos : 0 < long := hl1.1
  simp [b_wordsS, start3, N_wordsS, h62, hlong, hspot, hpos]
  refine for_inv (fun i z A' => A' = A ∧ ∃ (o6 o7 o8 o9 : Option D), z = [some (.int c), some (.int m), some (.str letters), some (.int long), some (.int spot), some (.ml ((List.range i).map fun k => .str (wordS c long spot k))), o6, o7, o8, o9]) ⟨rfl, _, _, _, _, rfl⟩ ?_ ?_
  · rintro k y hy z A1 ⟨rfl, o6, o7, o8, o9, rfl⟩
    obtain ⟨hk, rfl⟩ := rng_get hy
    refine ⟨_, rfl, fun E' hr hb hn hct => ?_⟩
    simp [h62l]
    refine for_inv (fun j z A' => A' = A1 ∧ ∃ (x : Str) (o8 o9 : Option D), x.cps.toList = (List.range j).map (wl c spot k) ∧ z = [some (.int c), some (.int m), some (.str letters), some (.int long), some (.int spot), some (.ml ((List.range k).map fun k => .str (wordS c long spot k))), some (.int k), some (.str x), o8, o9]) ⟨rfl, "", _, _, by rw [empty_cps]; rfl, rfl⟩ ?_ ?_
    · rintro j y hy z A1 ⟨rfl, x, o8, o9, hx, rfl⟩
      obtain ⟨hj, rfl⟩ := rng_get hy
      refine ⟨_, rfl, fun E2 hr2 hb2 hn2 hct2 => ?_⟩
      have k1 : fMul A1 (.int 5) (.int j) = some (.int (5 * j)) := fMul_small (.inl (by decide))
      have k2 : fMul A1 (.int j) (.int (c / 49 % 3)) = some (.int (j * (c / 49 % 3))) := fMul_small (.inr (big_of (by omega) (by omega)))
      have k3 : fMul A1 (.int 3) (.int k) = some (.int (3 * k)) := fMul_small (.inl (by decide))
      have p1 : (0 : Int) < 49 + 5 * (j : Int) := by omega
      have p2 : 49 + 5 * (j : Int) < 340282366920938463463374607431768211456 := by omega
      have hxl : x.length = j := by
        have := congrArg List.length hx
        simpa [Str.length] using this
      have hlx : lim (x.length + 1) = true := lim_of (by omega)
      by_cases e : j = spot
      · subst e
        simp [k1, k2, k3, p1, p2, hll, hlim, letters_ix, one_length, hlx]
        refine hn2 _ _ ⟨rfl, _, _, _, ?_, rfl⟩
        have hw : wl c j k j = letC (c / (49 + 5 * (j : Int)) + (j : Int) * (c / 49 % 3) + 3 * (k : Int)) := by unfold wl; rw [if_pos rfl]
        rw [snoc_list, hx, range_snoc, hw]
      · have e1 : ¬ (j : Int) = spot := by omega
        simp [k1, k2, k3, p1, p2, e1, hll, hlim, letters_ix, one_length, hlx]
        refine hn2 _ _ ⟨rfl, _, _, _, ?_, rfl⟩
        have hw : wl c spot k j = letC (c / (49 + 5 * (j : Int)) + (j : Int) * (c / 49 % 3)) := by unfold wl; rw [if_neg e, Int.add_zero]
        rw [snoc_list, hx, range_snoc, hw]
    · rintro z A1 ⟨rfl, x, o8, o9, hx, rfl⟩
      rw [rng_length] at hx
      have ex : x = wordS c long spot k := str_ext (by rw [hx]; simp [wordS, wcps])
      subst ex
      have hz : k < sizeLine := by have := line_of (n := 100) (by omega); omega
      simp [hz]
      exact hn _ _ ⟨rfl, _, _, _, _, by rw [range_snoc]⟩
  · rintro z A1 ⟨rfl, o6, o7, o8, o9, rfl⟩
    rw [rng_length]
    obtain ⟨n, hn⟩ : ∃ n : Nat, m.toNat = n := ⟨_, rfl⟩
    have hn2 : 2 ≤ n ∧ n ≤ 6 := by omega
    rw [hn]
    have nd : ((List.range n).map (wordS c long spot)).Nodup := by
      refine List.pairwise_map.mpr ((List.Pairwise.and_mem.mp List.nodup_range).imp fun {a b} h e => h.2.2 (wordS_inj hsp ?_ ?_ e))
      · have := List.mem_range.mp h.1; omega
      · have := List.mem_range.mp h.2.1; omega
    have ok : ∀ x ∈ (List.range n).map (wordS c long spot), NameOk x := fun x hx => by
      obtain ⟨k, _, rfl⟩ := List.mem_map.mp hx
      exact ⟨by rw [wordS_length]; omega, by rw [wordS_length]; omega, wordS_let _ _ _ _⟩
    have e0 : L2.atI ((List.range n).map fun k => D.str (wordS c long spot k)) 0 = some (.str (wordS c long spot 0)) := by
      have := atI_nat ((List.range n).map fun k => D.str (wordS c long spot k)) 0 (by simp; omega)
      rw [show ((0 : Nat) : Int) = 0 from rfl] at this
      rw [this]; simp
    have e1 : L2.ixN n 1 = some 1 := by unfold L2.ixN; rw [if_pos (by omega), if_pos (by omega)]; rfl
    have hlx : lim (long + 1) = true := lim_of (by omega)
    by_cases h4 : c / 49 % 4 = 1
    · simp [h4, e0, e1, hll, hlim, letters_ix, one_length, wordS_length, hlx]
      have := q (((List.range n).map (wordS c long spot)).set 1 (wordS c long spot 0 ++ ⟨#[letC (c / 196)]⟩)) (by simp; omega) ?_ ?_
      · rw [List.map_set, List.map_map] at this
        exact this
      · refine nodup_set nd fun hm => ?_
        obtain ⟨k, _, e⟩ := List.mem_map.mp hm
        have := congrArg Str.length e
        rw [one_snoc, wordS_length, wordS_length] at this
        omega
      · intro x hx
        rcases List.mem_or_eq_of_mem_set hx with hx | rfl
        · exact ok x hx
        · exact ⟨by rw [one_snoc]; omega, by rw [one_snoc, wordS_length]; omega, isLet_snoc (wordS_let _ _ _ _) (letC_ok _)⟩
    · simp [h4]
      have := q ((List.range n).map (wordS c long spot)) (by simp; omega) nd ok
      rw [List.map_map] at this
      exact this
/-! ### houses -/
def sp_houseS : Sp3 := fun ds A Q _ => ∃ c, ds = [.int c] ∧ ∀ h : House, h.Ok → Q h.toD A
def sp_house_by_digitsS : Sp3 := sp_houseS

/-! ### who of the names is a member, by a number's bits -/
def pw2 : Nat → Int
  | 0 => 1 | 1 => 2 | 2 => 4 | _ => 8
def bitG (r : Int) : D → Bool
  | .int j => decide (r / pw2 j.toNat % 2 = 1)
  | _ => false
def nameF (names : List Str) : D → D
  | .int j => .str (names.getD j.toNat ⟨#[]⟩)
  | d => d
theorem bits_row (names : List Str) (r : Int) : ∃ ms : List Str, ms.Sublist names ∧ ((rng 0 names.length).filter (bitG r)).map (fun d => frz (nameF names d)) = ms.map .str := by
  refine ⟨((List.range names.length).filter fun j : Nat => bitG r (.int j)).map (fun j => names.getD j ⟨#[]⟩), ?_, ?_⟩
  · conv => rhs; rw [← range_get names]
    exact (List.filter_sublist).map _
  · unfold rng
    rw [List.filter_map, List.map_map, List.map_map]
    have e : (bitG r ∘ fun k : Nat => D.int (0 + (k : Int))) = fun j : Nat => bitG r (.int j) := by
      funext j; simp
    rw [e]
    apply List.map_congr_left
    intro j _
    simp [nameF]
theorem members_lc {z : S3} {A : AH} {Q : D → AH → Prop} {ir iN iJ : Nat} {names : List Str} {r : Int} (hl : names.length ≤ 4) (h1 : z[ir]? = some (some (.int r))) (h2 : z[iN]? = some (some (.lst (names.map .str)))) (n1 : iJ ≠ ir) (n2 : iJ ≠ iN) (hJ : iJ < z.length) (h3 : ∀ d, z[iJ]? = some (some d) → own d = false)
    (q : ∀ ms : List Str, ms.Sublist names → Q (.ml (ms.map .str)) A) : eLc (iR1 (aCons (fz (eN fLen (aCons (eB iN) (aNil)))) (aNil))) (.nm iJ) (tV (T3.e2 fEq (fz (T3.e2 fMod (fz (T3.e2 fFdiv (eB ir) (fz (T3.e2 fIxA (fz (eLst (aCons (fz (eC (.int 1))) (aCons (fz (eC (.int 2))) (aCons (fz (eC (.int 4))) (aCons (fz (eC (.int 8))) (aNil))))))) (eB iJ))))) (fz (eC (.int 2))))) (fz (eC (.int 1))))) (T3.e2 fIxA (eB iN) (eB iJ)) [iJ] z A Q := by
  have h62 : small62 (names.length : Int) := ⟨by omega, by omega⟩
  have z4 : 4 ≤ sizeLine := line_of (by omega)
  rw [ap_eLc]
  refine ⟨fun i hi d hd => ?_, ?_⟩
  · rw [List.mem_singleton.mp hi] at hd
    exact h3 d hd
  · simp [h2, h62]
    refine lc_filter (bitG r) (nameF names) _ [] (by rw [rng_length]; simp; have := line_of (n := 4) (by omega); omega) (fun x hx => ?_) ?_
    · obtain ⟨j, hj⟩ := List.mem_iff_getElem?.mp hx
      obtain ⟨hlt, rfl⟩ := rng_get hj
      have w1 : (z.set iJ (some (D.int (0 + (j : Int)))))[ir]? = some (some (.int r)) := by rw [List.getElem?_set_ne n1]; exact h1
      have w2 : (z.set iJ (some (D.int (0 + (j : Int)))))[iN]? = some (some (.lst (names.map .str))) := by rw [List.getElem?_set_ne n2]; exact h2
      have w3 : (z.set iJ (some (D.int (0 + (j : Int)))))[iJ]? = some (some (.int (0 + (j : Int)))) := by rw [List.getElem?_set_self (by simpa using hJ)]
      refine ⟨_, rfl, fun R k => ?_, fun _ R k => ?_⟩
      · have e4 : L2.atI [D.int 1, .int 2, .int 4, .int 8] (j : Int) = some (.int (pw2 j)) ∧ 0 < pw2 j ∧ pw2 j < 340282366920938463463374607431768211456 := by
          have : j = 0 ∨ j = 1 ∨ j = 2 ∨ j = 3 := by omega
          rcases this with rfl | rfl | rfl | rfl <;> exact ⟨rfl, by decide, by decide⟩
        obtain ⟨e4, p1, p2⟩ := e4
        simp only [Int.zero_add] at w1 w2 w3 k ⊢
        have kb : bitG r (.int j) = decide (r / pw2 j % 2 = 1) := by simp [bitG]
        rw [kb] at k
        by_cases hb : r / pw2 j % 2 = 1
        · rw [decide_eq_true hb] at k
          simp [w1, w3, z4, e4, p1, p2, hb]
          exact k
        · rw [decide_eq_false hb] at k
          simp [w1, w3, z4, e4, p1, p2, hb]
          exact k
      · simp only [Int.zero_add] at w1 w2 w3 k ⊢
        have e5 := atI_nat (names.map D.str) j (by simpa using hlt)
        simp [w2, w3, e5]
        simpa [nameF, List.getD, List.getElem?_eq_getElem hlt] using k
    · rw [List.nil_append]
      obtain ⟨ms, h1, h2⟩ := bits_row names r
      have e : (rng 0 names.length) = rng 0 (names.length) := rfl
      rw [h2]
      exact q ms h1
/-- xs == [] -/
def N_house_by_digitsS : List Str := ["_law_rest", "_law_people", "_law_many", "_law_k", "_law_name", "_law_names", "_law_rooms", "_law_room", "_law_members", "_law_j"]
def b_house_by_digitsS : TS3 := sSeq (sSet 1 (eDNew)) (sSeq (sSet 2 (fz (T3.e2 fAdd (fz (eC (.int 1))) (fz (T3.e2 fMod (eB 0) (fz (eC (.int 4)))))))) (sSeq (sSet 0 (T3.e2 fFdiv (eB 0) (fz (eC (.int 4))))) (sSeq (sFor (iR1 (aCons (fz (eV 2)) (aNil))) (.nm 3) (sSeq (sAsgP (.tp [4, 0]) (eCall sp_name_inS [] (aCons (fz (eV 0)) (aNil)))) (sSeq (sPut 1 gDSet (eV 4) (T3.e2 fAdd (fz (eC (.int 1))) (fz (T3.e2 fMod (eB 0) (fz (eC (.int 3))))))) (sSeq (sSet 0 (T3.e2 fFdiv (eB 0) (fz (eC (.int 3))))) (sNil))))) (sSeq (sSet 5 (fz (eN fSorted (aCons (eB 1) (aNil))))) (sSeq (sSet 6 (eDNew)) (sSeq (sSet 2 (fz (T3.e2 fAdd (fz (eC (.int 1))) (fz (T3.e2 fMod (eB 0) (fz (eC (.int 4)))))))) (sSeq (sSet 0 (T3.e2 fFdiv (eB 0) (fz (eC (.int 4))))) (sSeq (sFor (iR1 (aCons (fz (eV 2)) (aNil))) (.nm 3) (sSeq (sAsgP (.tp [7, 0]) (eCall sp_name_inS [] (aCons (fz (eV 0)) (aNil)))) (sSeq (sSet 8 (eLc (iR1 (aCons (fz (eN fLen (aCons (eB 5) (aNil)))) (aNil))) (.nm 9) (tV (T3.e2 fEq (fz (T3.e2 fMod (fz (T3.e2 fFdiv (eB 0) (fz (T3.e2 fIxA (fz (eLst (aCons (fz (eC (.int 1))) (aCons (fz (eC (.int 2))) (aCons (fz (eC (.int 4))) (aCons (fz (eC (.int 8))) (aNil))))))) (eB 9))))) (fz (eC (.int 2))))) (fz (eC (.int 1))))) (T3.e2 fIxA (eB 5) (eB 9)) [9])) (sFz 8 (sSeq (sIf (tV (T3.e2 fEq (eB 8) (fz (eLst (aNil))))) (sSeq (sSet 8 (fz (eSl (eB 5) (oNo) (oAt (eC (.int 1)))))) (sNil)) (sNil)) (sSeq (sPut 6 gDSet (eV 7) (eN fTuple (aCons (eB 8) (aNil)))) (sSeq (sSet 0 (T3.e2 fFdiv (eB 0) (fz (eC (.int 16))))) (sNil)))))))) (sFz 6 (sSeq (sRet (eTup (aCons (fz (eN fTuple (aCons (fz (eLc (iS (eV 5)) (.nm 4) (tYes3) (eTup (aCons (fz (eV 4)) (aCons (fz (T3.e2 fIxA (eB 1) (eB 4))) (aNil)))) [4])) (aNil)))) (aCons (fz (eN fTuple (aCons (fz (eLc (iS (eN fSorted (aCons (eB 6) (aNil)))) (.nm 7) (tYes3) (eTup (aCons (fz (eV 7)) (aCons (fz (T3.e2 fIxA (eB 6) (eB 7))) (aNil)))) [7])) (aNil)))) (aNil))))) (sNil)))))))))))
theorem cut_one (xs : List D) : cutD xs none (some 1) = xs.take 1 := by
  unfold cutD
  cases xs with
  | nil => simp
  | cons x xs => simp [HT.sIx]
def notOwn (o : Option D) : Prop := ∀ d, o = some d → own d = false
theorem notOwn_none : notOwn none := fun _ h => nomatch h
theorem notOwn_str (x : Str) : notOwn (some (.str x)) := fun _ h => by cases h; rfl
theorem sub_take1 (xs : List Str) (h : 1 ≤ xs.length) : (xs.take 1) ≠ [] ∧ (xs.take 1).Sublist xs := by
  cases xs with
  | nil => simp at h
  | cons a xs => exact ⟨by simp, by simp⟩
theorem m_house_by_digitsS (ds A Q) (h : sp_house_by_digitsS ds A Q (fun _ _ _ => False)) : b_house_by_digitsS { nx := fun _ A' => Q .non A', rt := Q } (start3 N_house_by_digitsS ds) A := by
  obtain ⟨c, rfl, q⟩ := h
  have h62 : small62 (1 + c % 4) := ⟨by omega, by omega⟩
  have zz : ∀ n, n ≤ 1000 → n < sizeLine := fun n hn => by have := line_of (n := 2000) (by omega); omega
  simp only [b_house_by_digitsS]
  refine seq_mid (fun z A' => A' = A ∧ z = [some (.int c), some (.md []), none, none, none, none, none, none, none, none]) (fun E' hr _ _ hn => ?_) ?_
  · simp [start3, N_house_by_digitsS]
    exact hn _ _ ⟨rfl, rfl⟩
  rintro z A1 ⟨rfl, rfl⟩
  refine seq_mid (fun z A' => A' = A1 ∧ z = [some (.int c), some (.md []), some (.int (1 + c % 4)), none, none, none, none, none, none, none]) (fun E' hr _ _ hn => ?_) ?_
  · simp
    exact hn _ _ ⟨rfl, rfl⟩
  rintro z A1 ⟨rfl, rfl⟩
  refine seq_mid (fun z A' => A' = A1 ∧ ∃ r, z = [some (.int r), some (.md []), some (.int (1 + c % 4)), none, none, none, none, none, none, none]) (fun E' hr _ _ hn => ?_) ?_
  · simp
    exact hn _ _ ⟨rfl, _, rfl⟩
  rintro z A1 ⟨rfl, r0, rfl⟩
  refine seq_mid (fun z A' => A' = A1 ∧ ∃ (P : List (Str × Int)) (r : Int) (o3 o4 : Option D), 1 ≤ P.length ∧ P.length ≤ 4 ∧ (P.map (·.1)).Nodup ∧ (∀ p ∈ P, NameOk p.1 ∧ 1 ≤ p.2 ∧ p.2 ≤ 3) ∧ notOwn o4 ∧ z = [some (.int r), some (.md (ledD .int P)), some (.int (1 + c % 4)), o3, o4, none, none, none, none, none]) (fun E' hr _ _ hn => ?_) ?_
  · simp [h62]
    refine for_inv (fun i z A' => A' = A1 ∧ ∃ (P : List (Str × Int)) (r : Int) (o3 o4 : Option D), (1 ≤ i → 1 ≤ P.length) ∧ P.length ≤ i ∧ (P.map (·.1)).Nodup ∧ (∀ p ∈ P, NameOk p.1 ∧ 1 ≤ p.2 ∧ p.2 ≤ 3) ∧ notOwn o4 ∧ z = [some (.int r), some (.md (ledD .int P)), some (.int (1 + c % 4)), o3, o4, none, none, none, none, none]) ⟨rfl, [], _, _, _, by omega, by simp, by simp, (fun _ h => nomatch h), notOwn_none, rfl⟩ ?_ ?_
    · rintro i y hy z A2 ⟨rfl, P, r, o3, o4, h1, h2, h3, h4, h5, rfl⟩
      obtain ⟨hi, rfl⟩ := rng_get hy
      refine ⟨_, rfl, fun E2 hr2 hb2 hn2 hc2 => ?_⟩
      simp
      refine ⟨_, rfl, fun x r' hx => ?_⟩
      have hz : (ledD D.int P).length < sizeLine := by have : (ledD D.int P).length = P.length := by simp [ledD]
                                                       have := zz P.length (by omega); omega
      simp [ap_tp, hz]
      rw [ledD_put D.int]
      refine hn2 _ _ ⟨rfl, putS P x (1 + r' % 3), r' / 3, _, _, fun _ => putS_length.1, by have := (putS_length (k := x) (d := 1 + r' % 3) (ps := P)).2; omega, putS_nodup h3, fun p hp => ?_, notOwn_str x, rfl⟩
      rcases putS_mem hp with rfl | hp
      · exact ⟨hx, by omega, by omega⟩
      · exact h4 p hp
    · rintro z A2 ⟨rfl, P, r, o3, o4, h1, h2, h3, h4, h5, rfl⟩
      rw [rng_length] at h1 h2
      exact hn _ _ ⟨rfl, P, r, o3, o4, h1 (by omega), by omega, h3, h4, h5, rfl⟩
  rintro z A1 ⟨rfl, P, r1, o3, o4, p1, p4, pn, pk, ho4, rfl⟩
  obtain ⟨ys, ey, hperm, hrise⟩ := sort_strs (P.map (·.1)) pn
  have hyl : ys.length = P.length := by rw [hperm.length_eq]; simp
  have hok : okSort ((P.map (·.1)).map D.str) = true := okSort_strs _ (by simp; omega)
  refine seq_mid (fun z A' => A' = A1 ∧ z = [some (.int r1), some (.md (ledD .int P)), some (.int (1 + c % 4)), o3, o4, some (.lst (ys.map .str)), none, none, none, none]) (fun E' hr _ _ hn => ?_) ?_
  · simp only [ap_sSet, ap_fz, ap_eN, ap_aCons, ap_eB, ap_aNil, List.getElem?_cons_succ, List.getElem?_cons_zero]
    refine ⟨_, rfl, .ml (ys.map .str), ?_, hn _ _ ⟨rfl, rfl⟩⟩
    rw [frz_md, fSorted_dct, ledD_keys, if_pos hok, ey]
  rintro z A1 ⟨rfl, rfl⟩
  refine seq_mid (fun z A' => A' = A1 ∧ z = [some (.int r1), some (.md (ledD .int P)), some (.int (1 + c % 4)), o3, o4, some (.lst (ys.map .str)), some (.md []), none, none, none]) (fun E' hr _ _ hn => ?_) ?_
  · simp
    exact hn _ _ ⟨rfl, rfl⟩
  rintro z A1 ⟨rfl, rfl⟩
  obtain ⟨m2, hm2⟩ : ∃ m2, 1 + r1 % 4 = m2 := ⟨_, rfl⟩
  have h62b : small62 m2 := ⟨by omega, by omega⟩
  refine seq_mid (fun z A' => A' = A1 ∧ ∃ r, z = [some (.int r), some (.md (ledD .int P)), some (.int m2), o3, o4, some (.lst (ys.map .str)), some (.md []), none, none, none]) (fun E' hr _ _ hn => ?_) ?_
  · simp [hm2]
    exact hn _ _ ⟨rfl, _, rfl⟩
  rintro z A1 ⟨rfl, r2, rfl⟩
  refine seq_mid (fun z A' => A' = A1 ∧ ∃ r, z = [some (.int r), some (.md (ledD .int P)), some (.int m2), o3, o4, some (.lst (ys.map .str)), some (.md []), none, none, none]) (fun E' hr _ _ hn => ?_) ?_
  · simp
    exact hn _ _ ⟨rfl, _, rfl⟩
  rintro z A1 ⟨rfl, r3, rfl⟩
  refine seq_mid (fun z A' => A' = A1 ∧ ∃ (R : List (Str × List Str)) (r : Int) (o3 o7 o8 : Option D), 1 ≤ R.length ∧ R.length ≤ 4 ∧ (R.map (·.1)).Nodup ∧ (∀ p ∈ R, NameOk p.1 ∧ p.2 ≠ [] ∧ p.2.Sublist ys) ∧ notOwn o7 ∧ z = [some (.int r), some (.md (ledD .int P)), some (.int m2), o3, o4, some (.lst (ys.map .str)), some (.md (ledD memD R)), o7, o8, none]) (fun E' hr _ _ hn => ?_) ?_
  · simp [h62b]
    refine for_inv (fun i z A' => A' = A1 ∧ ∃ (R : List (Str × List Str)) (r : Int) (o3 o7 o8 : Option D), (1 ≤ i → 1 ≤ R.length) ∧ R.length ≤ i ∧ (R.map (·.1)).Nodup ∧ (∀ p ∈ R, NameOk p.1 ∧ p.2 ≠ [] ∧ p.2.Sublist ys) ∧ notOwn o7 ∧ z = [some (.int r), some (.md (ledD .int P)), some (.int m2), o3, o4, some (.lst (ys.map .str)), some (.md (ledD memD R)), o7, o8, none]) ⟨rfl, [], _, _, _, _, by omega, by simp, by simp, (fun _ h => nomatch h), notOwn_none, rfl⟩ ?_ ?_
    · rintro i y hy z A2 ⟨rfl, R, r, o3, o7, o8, h1, h2, h3, h4, h5, rfl⟩
      obtain ⟨hi, rfl⟩ := rng_get hy
      refine ⟨_, rfl, fun E2 hr2 hb2 hn2 hc2 => ?_⟩
      have hz : R.length < sizeLine := zz _ (by omega)
      have hzl : (ledD memD R).length = R.length := by simp [ledD]
      refine seq_mid (fun z A' => A' = A2 ∧ ∃ (x : Str) (r' : Int), NameOk x ∧ z = [some (.int r'), some (.md (ledD .int P)), some (.int m2), some (.int (i : Int)), o4, some (.lst (ys.map .str)), some (.md (ledD memD R)), some (.str x), o8, none]) (fun E3 hr3 _ _ hn3 => ?_) ?_
      · simp
        refine ⟨_, rfl, fun x r' hx => ?_⟩
        simp [ap_tp]
        exact hn3 _ _ ⟨rfl, x, r', hx, by simp⟩
      rintro z A3 ⟨rfl, x, r', hx, rfl⟩
      refine seq_mid (fun z A' => A' = A3 ∧ ∃ ms : List Str, ms.Sublist ys ∧ z = [some (.int r'), some (.md (ledD .int P)), some (.int m2), some (.int (i : Int)), o4, some (.lst (ys.map .str)), some (.md (ledD memD R)), some (.str x), some (.ml (ms.map .str)), none]) (fun E3 hr3 _ _ hn3 => ?_) ?_
      · rw [ap_sSet]
        refine members_lc (r := r') (by omega) rfl rfl (by decide) (by decide) (by simp) (fun d hd => by simp at hd) fun ms hms => ?_
        exact hn3 _ _ ⟨rfl, ms, hms, rfl⟩
      rintro z A3 ⟨rfl, ms, hms, rfl⟩
      rw [ap_sFz]
      refine ⟨_, rfl, ?_⟩
      refine seq_mid (fun z A' => A' = A3 ∧ ∃ ms : List Str, ms ≠ [] ∧ ms.Sublist ys ∧ z = [some (.int r'), some (.md (ledD .int P)), some (.int m2), some (.int (i : Int)), o4, some (.lst (ys.map .str)), some (.md (ledD memD R)), some (.str x), some (.lst (ms.map .str)), none]) (fun E3 hr3 _ _ hn3 => ?_) ?_
      · have hp : poks (ms.map D.str) = true := poks_strs ms
        by_cases he : ms = []
        · subst he
          have ht := sub_take1 ys (by omega)
          have e0 : ∀ A, fEq A (.lst []) (.lst []) = some (.bl true) := fun A => by rw [fEq_nil A [] rfl]; rfl
          simp [e0, cut_one]
          refine hn3 _ _ ⟨rfl, ys.take 1, ht.1, ht.2, ?_⟩
          rw [List.map_take]
        · have hne : ¬ (ms.map D.str = []) := by simpa using he
          simp [fEq_nil _ _ hp, he]
          exact hn3 _ _ ⟨rfl, ms, he, hms, rfl⟩
      rintro z A3 ⟨rfl, ms, hne, hms, rfl⟩
      simp [hzl, hz]
      rw [show D.tup (ms.map D.str) = memD ms from rfl, ledD_put memD]
      refine hn2 _ _ ⟨rfl, putS R x ms, r' / 16, _, _, _, fun _ => putS_length.1, by have := (putS_length (k := x) (d := ms) (ps := R)).2; omega, putS_nodup h3, fun p hp => ?_, notOwn_str x, rfl⟩
      rcases putS_mem hp with rfl | hp
      · exact ⟨hx, hne, hms⟩
      · exact h4 p hp
    · rintro z A2 ⟨rfl, R, r, o3, o7, o8, h1, h2, h3, h4, h5, rfl⟩
      rw [rng_length] at h1 h2
      exact hn _ _ ⟨rfl, R, r, o3, o7, o8, h1 (by omega), by omega, h3, h4, h5, rfl⟩
  rintro z A1 ⟨rfl, R, r4, o3, o7, o8, q1, q4, qn, qk, ho7, rfl⟩
  rw [ap_sFz]
  refine ⟨_, rfl, ?_⟩
  obtain ⟨zs, ez, hpermz, hrisez⟩ := sort_strs (R.map (·.1)) qn
  have hzsl : zs.length = R.length := by rw [hpermz.length_eq]; simp
  have hokz : okSort ((R.map (·.1)).map D.str) = true := okSort_strs _ (by simp; omega)
  obtain ⟨ps, eps, hps, hgp⟩ := pick_row P ys fun y hy => hperm.mem_iff.mp hy
  obtain ⟨rs, ers, hrs, hgr⟩ := pick_row R zs fun y hy => hpermz.mem_iff.mp hy
  have lps : ps.length = ys.length := by rw [← eps]; simp
  have lrs : rs.length = zs.length := by rw [← ers]; simp
  have z2 : 2 ≤ sizeLine := line_of (by omega)
  have H : (House.mk ps rs).Ok := by
    refine ⟨by show 1 ≤ ps.length; omega, by show ps.length ≤ 4; omega, by show (ps.map (·.1)).Pairwise _; rw [eps]; exact hrise, fun p hp => pk p (hps p hp), by show 1 ≤ rs.length; omega, by show rs.length ≤ 4; omega, by show (rs.map (·.1)).Pairwise _; rw [ers]; exact hrisez, fun r hr => ?_⟩
    have := qk r (hrs r hr)
    exact ⟨this.1, this.2.1, by show r.2.Sublist (ps.map (·.1)); rw [eps]; exact this.2.2⟩
  simp [z2]
  refine ⟨fun d hd => ho4 d hd, ?_⟩
  refine lc_map (fun d => .tup [d, (dget (ledD .int P) d).getD .non]) (ys.map .str) [] (by simp; have := zz ys.length (by omega); omega) (fun x hx => ?_) ?_
  · obtain ⟨y, hy, rfl⟩ := List.mem_map.mp hx
    obtain ⟨n, hn1, _⟩ := getS_mem (hperm.mem_iff.mp hy)
    refine ⟨_, rfl, fun R' k => ?_⟩
    rw [ledD_get, hn1] at k
    simp [z2, ledD_get, hn1]
    exact k
  · simp
    refine ⟨fun d hd => ho7 d hd, _, ⟨by rw [ledD_keys]; exact hokz, rfl⟩, ?_⟩
    rw [ledD_keys, ez]
    simp
    refine lc_map (fun d => .tup [d, (dget (ledD memD R) d).getD .non]) (zs.map .str) [] (by simp; have := zz zs.length (by omega); omega) (fun x hx => ?_) ?_
    · obtain ⟨y, hy, rfl⟩ := List.mem_map.mp hx
      obtain ⟨n, hn1, _⟩ := getS_mem (hpermz.mem_iff.mp hy)
      refine ⟨_, rfl, fun R' k => ?_⟩
      rw [ledD_get, hn1] at k
      simp [z2, ledD_get, hn1]
      exact k
    · have e1 : ys.map (fun x => D.tup [.str x, (dget (ledD .int P) (.str x)).getD .non]) = ps.map fun p => .tup [.str p.1, .int p.2] := by
        rw [← eps, List.map_map]
        apply List.map_congr_left
        intro p hp
        simp [ledD_get, hgp p hp]
      have e2 : zs.map (fun x => D.tup [.str x, (dget (ledD memD R) (.str x)).getD .non]) = rs.map fun r => .tup [.str r.1, memD r.2] := by
        rw [← ers, List.map_map]
        apply List.map_congr_left
        intro p hp
        simp [ledD_get, hgr p hp]
      have hq := q ⟨ps, rs⟩ H
      unfold House.toD House.pD House.rD at hq
      rw [← e1, ← e2] at hq
      simp
      exact hq
def N_houseS : List Str := ["_law_cell", "_law_numbers", "_law_words_here", "_law_people", "_law_names", "_law_rooms", "_law_k", "_law_bits", "_law_members", "_law_name", "_law_many", "_law_j"]
def b_houseS : TS3 := sSeq (sIf (tV (T3.e2 fEq (fz (T3.e2 fMod (eB 0) (fz (eC (.int 2))))) (fz (eC (.int 0))))) (sSeq (sRet (eCall sp_house_by_digitsS [] (aCons (fz (T3.e2 fFdiv (eB 0) (fz (eC (.int 2))))) (aNil)))) (sNil)) (sNil)) (sSeq (sSet 1 (fz (eCall sp_streamS [] (aCons (fz (eV 0)) (aCons (fz (eC (.int 12))) (aNil)))))) (sSeq (sSet 2 (fz (eCall sp_wordsS [] (aCons (fz (T3.e2 fIxA (eB 1) (fz (eC (.int 0))))) (aCons (fz (eC (.int 6))) (aNil)))))) (sSeq (sSet 3 (eLc (iR1 (aCons (fz (T3.e2 fAdd (fz (eC (.int 1))) (fz (T3.e2 fMod (fz (T3.e2 fIxA (eB 1) (fz (eC (.int 1))))) (fz (eC (.int 4))))))) (aNil))) (.nm 6) (tYes3) (eTup (aCons (fz (T3.e2 fIxA (eB 2) (eB 6))) (aCons (fz (T3.e2 fAdd (fz (eC (.int 1))) (fz (T3.e2 fMod (fz (T3.e2 fIxA (eB 1) (fz (T3.e2 fAdd (fz (eC (.int 2))) (eB 6))))) (fz (eC (.int 3))))))) (aNil)))) [6])) (sFz 3 (sSeq (sSet 4 (fz (eN fSorted (aCons (fz (eLc (iS (eV 3)) (.tp [9, 10]) (tYes3) (eV 9) [9, 10])) (aNil))))) (sSeq (sSet 5 (eLst (aNil))) (sSeq (sFor (iR1 (aCons (fz (T3.e2 fAdd (fz (eC (.int 1))) (fz (T3.e2 fMod (fz (T3.e2 fFdiv (fz (T3.e2 fIxA (eB 1) (fz (eC (.int 1))))) (fz (eC (.int 4))))) (fz (eC (.int 4))))))) (aNil))) (.nm 6) (sSeq (sSet 7 (T3.e2 fIxA (eB 1) (fz (T3.e2 fAdd (fz (eC (.int 6))) (eB 6))))) (sSeq (sSet 8 (eLc (iR1 (aCons (fz (eN fLen (aCons (eB 4) (aNil)))) (aNil))) (.nm 11) (tV (T3.e2 fEq (fz (T3.e2 fMod (fz (T3.e2 fFdiv (eB 7) (fz (T3.e2 fIxA (fz (eLst (aCons (fz (eC (.int 1))) (aCons (fz (eC (.int 2))) (aCons (fz (eC (.int 4))) (aCons (fz (eC (.int 8))) (aNil))))))) (eB 11))))) (fz (eC (.int 2))))) (fz (eC (.int 1))))) (T3.e2 fIxA (eB 4) (eB 11)) [11])) (sFz 8 (sSeq (sIf (tV (T3.e2 fEq (eB 8) (fz (eLst (aNil))))) (sSeq (sSet 8 (fz (eLst (aCons (fz (T3.e2 fIxA (eB 4) (fz (T3.e2 fMod (fz (T3.e2 fFdiv (eB 7) (fz (eC (.int 16))))) (fz (eN fLen (aCons (eB 4) (aNil)))))))) (aNil))))) (sNil)) (sNil)) (sSeq (sM 5 okL gAppend (aCons (fz (eTup (aCons (fz (T3.e2 fIxA (eB 2) (fz (T3.e2 fSub (fz (eC (.int 5))) (eB 6))))) (aCons (fz (eN fTuple (aCons (eB 8) (aNil)))) (aNil))))) (aNil)) kDrop) (sNil))))))) (sSeq (sRet (eTup (aCons (fz (eN fTuple (aCons (fz (eN fSorted (aCons (eB 3) (aNil)))) (aNil)))) (aCons (fz (eN fTuple (aCons (fz (eN fSorted (aCons (eB 5) (aNil)))) (aNil)))) (aNil))))) (sNil)))))))))
def pairF (ws : List Str) (ns : List Int) : D → D
  | .int k => .tup [.str (ws.getD k.toNat ⟨#[]⟩), .int (1 + ns.getD (2 + k.toNat) 0 % 3)]
  | d => d
def firstF : D → D
  | .tup [a, _] => a
  | d => d
theorem m_house0 (ds A Q) (h : sp_houseS ds A Q (fun _ _ _ => False)) : b_houseS { nx := fun _ A' => Q .non A', rt := Q } (start3 N_houseS ds) A := by
  obtain ⟨c, rfl, q⟩ := h
  have zz : ∀ n, n ≤ 1000 → n < sizeLine := fun n hn => by have := line_of (n := 2000) (by omega); omega
  by_cases h0 : c % 2 = 0
  · simp [b_houseS, start3, N_houseS, h0]
    exact ⟨_, rfl, q⟩
  simp only [b_houseS, ap_sSeq]
  refine seq_mid (t := sIf _ _ _) (fun z A' => A' = A ∧ z = [some (.int c), none, none, none, none, none, none, none, none, none, none, none]) (fun E' hr _ _ hn => ?_) ?_
  · simp [start3, N_houseS, h0]
    exact hn _ _ ⟨rfl, rfl⟩
  rintro z A1 ⟨rfl, rfl⟩
  refine seq_mid (fun z A' => A' = A1 ∧ ∃ ns : List Int, ns.length = 12 ∧ z = [some (.int c), some (.lst (ns.map .int)), none, none, none, none, none, none, none, none, none, none]) (fun E' hr _ _ hn => ?_) ?_
  · simp
    exact ⟨c, 12, rfl, by omega, fun ns hns hcs => hn _ _ ⟨rfl, ns, by omega, by simp⟩⟩
  rintro z A1 ⟨rfl, ns, hn12, rfl⟩
  have at12 : ∀ j : Nat, j < 12 → L2.atI (ns.map D.int) (j : Int) = some (.int (ns.getD j 0)) := fun j hj => by
    rw [atI_nat _ _ (by simp; omega), getD_at _ _ _ (by omega)]; simp
  obtain ⟨n0, hn0⟩ : ∃ n, ns.getD 0 0 = n := ⟨_, rfl⟩
  obtain ⟨n1, hn1⟩ : ∃ n, ns.getD 1 0 = n := ⟨_, rfl⟩
  have a0 : L2.atI (ns.map D.int) 0 = some (.int n0) := by have := at12 0 (by omega); rw [hn0] at this; exact this
  have a1 : L2.atI (ns.map D.int) 1 = some (.int n1) := by have := at12 1 (by omega); rw [hn1] at this; exact this
  refine seq_mid (fun z A' => A' = A1 ∧ ∃ ws : List Str, ws.length = 6 ∧ ws.Nodup ∧ (∀ x ∈ ws, NameOk x) ∧ z = [some (.int c), some (.lst (ns.map .int)), some (.lst (ws.map .str)), none, none, none, none, none, none, none, none, none]) (fun E' hr _ _ hn => ?_) ?_
  · simp [a0]
    exact ⟨n0, 6, rfl, by omega, fun ws h1 h2 h3 => hn _ _ ⟨rfl, ws, by omega, h2, h3, by simp⟩⟩
  rintro z A1 ⟨rfl, ws, hw6, hwn, hwk, rfl⟩
  have atW : ∀ j : Nat, j < 6 → L2.atI (ws.map D.str) (j : Int) = some (.str (ws.getD j ⟨#[]⟩)) := fun j hj => by
    rw [atI_nat _ _ (by simp; omega), getD_at _ _ _ (by omega)]; simp
  -- people
  obtain ⟨m, hm⟩ : ∃ m : Nat, 1 + n1 % 4 = m := ⟨(1 + n1 % 4).toNat, by omega⟩
  have hm4 : 1 ≤ m ∧ m ≤ 4 := by omega
  have h62 : small62 (m : Int) := ⟨by omega, by omega⟩
  have z2 : 2 ≤ sizeLine := line_of (by omega)
  obtain ⟨P, hP⟩ : ∃ P : List (Str × Int), (List.range m).map (fun k => (ws.getD k ⟨#[]⟩, 1 + ns.getD (2 + k) 0 % 3)) = P := ⟨_, rfl⟩
  have hPl : P.length = m := by rw [← hP]; simp
  have hPn : P.map (·.1) = ws.take m := by
    rw [← hP, List.map_map]
    exact take_get ws ⟨#[]⟩ m (by omega)
  have hPk : ∀ p ∈ P, NameOk p.1 ∧ 1 ≤ p.2 ∧ p.2 ≤ 3 := fun p hp => by
    rw [← hP] at hp
    obtain ⟨k, hk, rfl⟩ := List.mem_map.mp hp
    have := List.mem_range.mp hk
    refine ⟨hwk _ ?_, by simp only; omega, by simp only; omega⟩
    simp only
    rw [getD_at _ _ _ (by omega)]
    exact List.getElem_mem _
  refine seq_mid (fun z A' => A' = A1 ∧ z = [some (.int c), some (.lst (ns.map .int)), some (.lst (ws.map .str)), some (.ml (P.map fun p => .tup [.str p.1, .int p.2])), none, none, none, none, none, none, none, none]) (fun E' hr _ _ hn => ?_) ?_
  · simp [a1, hm, h62]
    refine lc_map (pairF ws ns) (rng 0 m) [] (by rw [rng_length]; have := zz m (by omega); simp; omega) (fun x hx => ?_) ?_
    · obtain ⟨j, hj⟩ := List.mem_iff_getElem?.mp hx
      obtain ⟨hlt, rfl⟩ := rng_get hj
      refine ⟨_, rfl, fun R k => ?_⟩
      have b1 := atW j (by omega)
      have b2 := at12 (2 + j) (by omega)
      have b2' : L2.atI (ns.map D.int) (2 + (j : Int)) = some (.int (ns.getD (2 + j) 0)) := by rw [← b2]; congr 1
      simp only [Int.zero_add] at k
      simp [b1, b2', z2]
      simpa [pairF] using k
    · rw [List.nil_append]
      have e : (rng 0 m).map (fun x => frz (pairF ws ns x)) = P.map fun p => .tup [.str p.1, .int p.2] := by
        rw [← hP]
        unfold rng
        rw [List.map_map, List.map_map]
        apply List.map_congr_left
        intro k _
        simp [pairF]
      rw [e]
      exact hn _ _ ⟨rfl, rfl⟩
  rintro z A1 ⟨rfl, rfl⟩
  rw [ap_sFz]
  refine ⟨_, rfl, ?_⟩
  -- names
  have hPnd : (P.map (·.1)).Nodup := by rw [hPn]; exact (List.take_sublist m ws).nodup hwn
  obtain ⟨ys, ey, hperm, hrise⟩ := sort_strs (P.map (·.1)) hPnd
  have hyl : ys.length = m := by rw [hperm.length_eq]; simp [hPl]
  have hok : okSort ((P.map (·.1)).map D.str) = true := okSort_strs _ (by simp; omega)
  refine seq_mid (fun z A' => A' = A1 ∧ z = [some (.int c), some (.lst (ns.map .int)), some (.lst (ws.map .str)), some (.lst (P.map fun p => .tup [.str p.1, .int p.2])), some (.lst (ys.map .str)), none, none, none, none, none, none, none]) (fun E' hr _ _ hn => ?_) ?_
  · simp
    refine lc_map firstF (P.map fun p => .tup [.str p.1, .int p.2]) [] (by simp; have := zz m (by omega); omega) (fun x hx => ?_) ?_
    · obtain ⟨p, hp, rfl⟩ := List.mem_map.mp hx
      refine ⟨_, rfl, fun R k => ?_⟩
      simp
      exact k
    · rw [List.nil_append]
      have e : (P.map fun p => D.tup [.str p.1, .int p.2]).map (fun x => frz (firstF x)) = (P.map (·.1)).map D.str := by
        rw [List.map_map, List.map_map]
        apply List.map_congr_left
        intro p _
        simp [firstF]
      rw [e]
      simp only [frz_ml, fSorted_lst, if_pos hok, ey]
      exact ⟨_, rfl, hn _ _ ⟨rfl, rfl⟩⟩
  rintro z A1 ⟨rfl, rfl⟩
  refine seq_mid (fun z A' => A' = A1 ∧ z = [some (.int c), some (.lst (ns.map .int)), some (.lst (ws.map .str)), some (.lst (P.map fun p => .tup [.str p.1, .int p.2])), some (.lst (ys.map .str)), some (.ml []), none, none, none, none, none, none]) (fun E' hr _ _ hn => ?_) ?_
  · simp
    exact hn _ _ ⟨rfl, rfl⟩
  rintro z A1 ⟨rfl, rfl⟩
  -- rooms
  obtain ⟨m2, hm2⟩ : ∃ m : Nat, 1 + n1 / 4 % 4 = m := ⟨(1 + n1 / 4 % 4).toNat, by omega⟩
  have hm24 : 1 ≤ m2 ∧ m2 ≤ 4 := by omega
  have h62b : small62 (m2 : Int) := ⟨by omega, by omega⟩
  refine seq_mid (fun z A' => A' = A1 ∧ ∃ (R : List (Str × List Str)) (o6 o7 o8 : Option D), R.map (·.1) = (ws.reverse).take m2 ∧ (∀ p ∈ R, p.2 ≠ [] ∧ p.2.Sublist ys) ∧ z = [some (.int c), some (.lst (ns.map .int)), some (.lst (ws.map .str)), some (.lst (P.map fun p => .tup [.str p.1, .int p.2])), some (.lst (ys.map .str)), some (.ml (R.map fun r => .tup [.str r.1, memD r.2])), o6, o7, o8, none, none, none]) (fun E' hr _ _ hn => ?_) ?_
  · simp [a1, hm2, h62b]
    refine for_inv (fun i z A' => A' = A1 ∧ ∃ (R : List (Str × List Str)) (o6 o7 o8 : Option D), R.map (·.1) = (ws.reverse).take i ∧ (∀ p ∈ R, p.2 ≠ [] ∧ p.2.Sublist ys) ∧ z = [some (.int c), some (.lst (ns.map .int)), some (.lst (ws.map .str)), some (.lst (P.map fun p => .tup [.str p.1, .int p.2])), some (.lst (ys.map .str)), some (.ml (R.map fun r => .tup [.str r.1, memD r.2])), o6, o7, o8, none, none, none]) ⟨rfl, [], _, _, _, by simp, (fun _ h => nomatch h), rfl⟩ ?_ ?_
    · rintro i y hy z A2 ⟨rfl, R, o6, o7, o8, h1, h2, rfl⟩
      obtain ⟨hi, rfl⟩ := rng_get hy
      have hi' : i < m2 := by omega
      refine ⟨_, rfl, fun E2 hr2 hb2 hn2 hc2 => ?_⟩
      have hRl : R.length = i := by
        have := congrArg List.length h1
        simp at this
        omega
      have hz : R.length < sizeLine := zz _ (by omega)
      have b6 := at12 (6 + i) (by omega)
      have b6' : L2.atI (ns.map D.int) (6 + (i : Int)) = some (.int (ns.getD (6 + i) 0)) := by rw [← b6]; congr 1
      obtain ⟨bits, hbits⟩ : ∃ b, ns.getD (6 + i) 0 = b := ⟨_, rfl⟩
      rw [hbits] at b6'
      refine seq_mid (fun z A' => A' = A2 ∧ z = [some (.int c), some (.lst (ns.map .int)), some (.lst (ws.map .str)), some (.lst (P.map fun p => .tup [.str p.1, .int p.2])), some (.lst (ys.map .str)), some (.ml (R.map fun r => .tup [.str r.1, memD r.2])), some (.int (i : Int)), some (.int bits), o8, none, none, none]) (fun E3 hr3 _ _ hn3 => ?_) ?_
      · simp [b6']
        exact hn3 _ _ ⟨rfl, by simp⟩
      rintro z A3 ⟨rfl, rfl⟩
      refine seq_mid (fun z A' => A' = A3 ∧ ∃ ms : List Str, ms.Sublist ys ∧ z = [some (.int c), some (.lst (ns.map .int)), some (.lst (ws.map .str)), some (.lst (P.map fun p => .tup [.str p.1, .int p.2])), some (.lst (ys.map .str)), some (.ml (R.map fun r => .tup [.str r.1, memD r.2])), some (.int (i : Int)), some (.int bits), some (.ml (ms.map .str)), none, none, none]) (fun E3 hr3 _ _ hn3 => ?_) ?_
      · rw [ap_sSet]
        refine members_lc (r := bits) (by omega) rfl rfl (by decide) (by decide) (by simp) (fun d hd => by simp at hd) fun ms hms => ?_
        exact hn3 _ _ ⟨rfl, ms, hms, rfl⟩
      rintro z A3 ⟨rfl, ms, hms, rfl⟩
      rw [ap_sFz]
      refine ⟨_, rfl, ?_⟩
      refine seq_mid (fun z A' => A' = A3 ∧ ∃ ms : List Str, ms ≠ [] ∧ ms.Sublist ys ∧ z = [some (.int c), some (.lst (ns.map .int)), some (.lst (ws.map .str)), some (.lst (P.map fun p => .tup [.str p.1, .int p.2])), some (.lst (ys.map .str)), some (.ml (R.map fun r => .tup [.str r.1, memD r.2])), some (.int (i : Int)), some (.int bits), some (.lst (ms.map .str)), none, none, none]) (fun E3 hr3 _ _ hn3 => ?_) ?_
      · have hp : poks (ms.map D.str) = true := poks_strs ms
        have z1 : 1 ≤ sizeLine := line_of (by omega)
        by_cases he : ms = []
        · subst he
          have e0 : ∀ A, fEq A (.lst []) (.lst []) = some (.bl true) := fun A => by rw [fEq_nil A [] rfl]; rfl
          have hpos : 0 < ys.length := by omega
          obtain ⟨d, hd, hdm⟩ := atI_int (ys.map D.str) (bits / 16 % (ys.length : Int)) (Int.emod_nonneg _ (by omega)) (by simp; exact Int.emod_lt_of_pos _ (by omega))
          obtain ⟨y, hym, rfl⟩ := List.mem_map.mp hdm
          simp [e0, hpos, hd, z1]
          exact hn3 _ _ ⟨rfl, [y], by simp, List.singleton_sublist.mpr hym, by simp⟩
        · have hne : ¬ (ms.map D.str = []) := by simpa using he
          simp [fEq_nil _ _ hp, he]
          exact hn3 _ _ ⟨rfl, ms, he, hms, rfl⟩
      rintro z A3 ⟨rfl, ms, hne, hms, rfl⟩
      have b5 := atW (5 - i) (by omega)
      have b5' : L2.atI (ws.map D.str) (5 - (i : Int)) = some (.str (ws.getD (5 - i) ⟨#[]⟩)) := by rw [← b5]; congr 1; omega
      simp [b5', z2, hz]
      refine hn2 _ _ ⟨rfl, R ++ [(ws.getD (5 - i) ⟨#[]⟩, ms)], some (.int i), some (.int bits), some (.lst (ms.map .str)), ?_, fun p hp => ?_, by simp [memD]⟩
      · rw [List.map_append, h1, List.take_add_one]
        congr 1
        rw [List.getElem?_reverse (by omega), List.getElem?_eq_getElem (by omega), getD_at _ _ _ (by omega)]
        simp [hw6]
      · rcases List.mem_append.mp hp with hp | hp
        · exact h2 p hp
        · rw [List.mem_singleton.mp hp]; exact ⟨hne, hms⟩
    · rintro z A2 ⟨rfl, R, o6, o7, o8, h1, h2, rfl⟩
      rw [rng_length] at h1
      have e : ((m2 : Int)).toNat = m2 := by omega
      first | rw [e] at h1 | skip
      exact hn _ _ ⟨rfl, R, o6, o7, o8, h1, h2, rfl⟩
  rintro z A1 ⟨rfl, R, o6, o7, o8, h1, h2, rfl⟩
  have hRl : R.length = m2 := by
    have := congrArg List.length h1
    simp at this
    omega
  have hRnd : (R.map (·.1)).Nodup := by rw [h1]; exact (List.take_sublist m2 _).nodup ((List.reverse_perm ws).nodup_iff.mpr hwn)
  obtain ⟨P', eP, hPp, hPr⟩ := sort_ledF D.int P hPnd fun p _ q _ => by simp [pd, PySem.W.alike]
  obtain ⟨R', eR, hRp, hRr⟩ := sort_ledF memD R hRnd fun p _ q _ => memD_alike _ _
  have okP : okSort (P.map fun p => .tup [.str p.1, .int p.2]) = true := by
    have := okSort_led (P.map fun p => (p.1, D.int p.2)) (by simp; omega) (fun p hp => by obtain ⟨a, _, rfl⟩ := List.mem_map.mp hp; exact ⟨rfl, by simp [dep]⟩) (fun p hp q hq => by
      obtain ⟨a, _, rfl⟩ := List.mem_map.mp hp
      obtain ⟨b, _, rfl⟩ := List.mem_map.mp hq
      simp [pd, PySem.W.alike])
    rw [List.map_map] at this
    exact this
  have okR : okSort (R.map fun p => .tup [.str p.1, memD p.2]) = true := by
    have := okSort_led (R.map fun p => (p.1, memD p.2)) (by simp; omega) (fun p hp => by obtain ⟨a, _, rfl⟩ := List.mem_map.mp hp; exact memD_pok _) (fun p hp q hq => by
      obtain ⟨a, _, rfl⟩ := List.mem_map.mp hp
      obtain ⟨b, _, rfl⟩ := List.mem_map.mp hq
      exact memD_alike _ _)
    rw [List.map_map] at this
    exact this
  have hys : ys = P'.map (·.1) := rise_unique (hperm.trans (hPp.map _).symm) hrise hPr
  have H : (House.mk P' R').Ok := by
    have l1 := hPp.length_eq
    have l2 := hRp.length_eq
    refine ⟨by show 1 ≤ P'.length; omega, by show P'.length ≤ 4; omega, hPr, fun p hp => hPk p (hPp.mem_iff.mp hp), by show 1 ≤ R'.length; omega, by show R'.length ≤ 4; omega, hRr, fun r hr => ?_⟩
    have hr' := hRp.mem_iff.mp hr
    refine ⟨hwk _ ?_, (h2 r hr').1, by show r.2.Sublist (P'.map (·.1)); rw [← hys]; exact (h2 r hr').2⟩
    have : r.1 ∈ R.map (·.1) := List.mem_map.mpr ⟨r, hr', rfl⟩
    rw [h1] at this
    exact List.mem_reverse.mp (List.mem_of_mem_take this)
  have hq := q ⟨P', R'⟩ H
  unfold House.toD House.pD House.rD at hq
  simp only at hq
  rw [← eP, ← eR] at hq
  simp [okP, okR, z2]
  exact hq
/-- what the house of a cell is: any that is in order -/
def F_houseS (c : D) : W D := fun A Q _ => sp_houseS [c] A Q (fun _ _ _ => False)
theorem m_houseS (ds A Q) (h : sp1 F_houseS ds A Q (fun _ _ _ => False)) : b_houseS { nx := fun _ A' => Q .non A', rt := Q } (start3 N_houseS ds) A := by
  obtain ⟨c, rfl, u⟩ := h
  obtain ⟨Q0, E0, v, h1, _⟩ := u
  obtain ⟨c, e, v⟩ := v
  exact m_house0 _ A Q ⟨c, e, fun hh ok => h1 _ _ (v hh ok)⟩
theorem d_houseS (c : Int) (A : AH) (Q : D → AH → Prop) (E : X3) (q : ∀ h : House, h.Ok → Q h.toD A) : F_houseS (.int c) A Q E := ⟨c, rfl, q⟩
end T3
set_option autoImplicit false
namespace T3
open PySem PySem.Spec PyProof.Rows L2
/-! ### the stream as a W function, where a law calls it by itself -/
theorem je_sps2 {E : X3} {z : S3} {t1 t2 : TE3} {r1 r2 : W D} {sp : Sp3} {F : D → D → W D} (hs : ∀ a b A Q E, sp2 F [a, b] A Q E → sp [a, b] A Q E) (h1 : JE E t1 z r1) (h2 : JE E t2 z r2) : JE E (eCall sp [] (aCons t1 (aCons t2 aNil))) z (W.s2 F r1 r2) :=
  fun A Q Q' q m => h1 A _ _ q fun a A1 q => h2 A1 _ _ q fun b A2 q => hs a b _ _ _ ⟨a, b, rfl, Q, _, q, m, fun _ _ _ h => h⟩
def F_streamS (c m : D) : W D := fun A Q _ => sp_streamS [c, m] A Q (fun _ _ _ => False)
theorem sub_streamS (a b : D) (A : AH) (Q : D → AH → Prop) (E : X3) (h : sp2 F_streamS [a, b] A Q E) : sp_streamS [a, b] A Q E := by
  obtain ⟨a', b', e, Q0, E0, q, m, _⟩ := h
  cases e
  obtain ⟨c, k, e, hk, g⟩ := q
  exact ⟨c, k, e, hk, fun ns h1 h2 => m _ _ (g ns h1 h2)⟩
end T3
set_option autoImplicit false
namespace T3
open PySem PySem.Spec PyProof.Rows L2
/-! ### the same house in laws whose functions name their rest otherwise -/
def N_streamE : List Str := ["_law_cell", "_law_many", "_law_found", "_law_rest_here", "_law_k", "_law_number", "_law_other"]
def b_streamE : TS3 := sSeq (sSet 2 (eLst (aNil))) (sSeq (sSet 3 (T3.e2 fFdiv (eB 0) (fz (eC (.int 2))))) (sSeq (sIf (tV (T3.e2 fEq (fz (T3.e2 fMod (eB 0) (fz (eC (.int 2))))) (fz (eC (.int 0))))) (sSeq (sFor (iR1 (aCons (fz (eV 1)) (aNil))) (.nm 4) (sSeq (sM 2 okL gAppend (aCons (fz (T3.e2 fMod (eB 3) (fz (eC (.int 1000000))))) (aNil)) kDrop) (sSeq (sSet 3 (T3.e2 fFdiv (eB 3) (fz (eC (.int 1000000))))) (sNil)))) (sSeq (sRetV 2) (sNil))) (sNil)) (sSeq (sSet 5 (T3.e2 fMod (eB 3) (fz (eC (.int 2147483647))))) (sSeq (sFor (iR1 (aCons (fz (eV 1)) (aNil))) (.nm 4) (sSeq (sSet 5 (T3.e2 fMod (fz (T3.e2 fAdd (fz (T3.e2 fAdd (fz (T3.e2 fMul (eB 5) (fz (eC (.int 48271))))) (fz (T3.e2 fMul (fz (eC (.int 7919))) (eB 4))))) (fz (eC (.int 11))))) (fz (eC (.int 2147483647))))) (sSeq (sSet 6 (T3.e2 fMod (fz (T3.e2 fMul (eB 5) (eB 5))) (fz (eC (.int 2147483629))))) (sSeq (sM 2 okL gAppend (aCons (fz (T3.e2 fMod (fz (T3.e2 fFdiv (fz (T3.e2 fMod (fz (T3.e2 fMul (eB 6) (fz (eC (.int 69621))))) (fz (eC (.int 2147483587))))) (fz (eC (.int 16))))) (fz (eC (.int 1000000))))) (aNil)) kDrop) (sNil))))) (sSeq (sRetV 2) (sNil))))))
def F_streamE (c m : D) : W D := F_streamS c m
theorem sub_streamE (a b : D) (A : AH) (Q : D → AH → Prop) (E : X3) (h : sp2 F_streamE [a, b] A Q E) : sp_streamS [a, b] A Q E := sub_streamS a b A Q E h
theorem m_streamE (ds A Q) (h : sp_streamS ds A Q (fun _ _ _ => False)) : b_streamE { nx := fun _ A' => Q .non A', rt := Q } (start3 N_streamE ds) A := m_streamS ds A Q h
theorem d_streamE (c m : Int) (hm : 0 ≤ m ∧ m ≤ 1000) (A : AH) (Q : D → AH → Prop) (E : X3) (q : ∀ ns : List Int, (ns.length : Int) = m → cells6 ns → Q (.ml (ns.map .int)) A) : F_streamE (.int c) (.int m) A Q E := ⟨c, m, rfl, hm, q⟩
def N_name_inE : List Str := ["_law_rest_here", "_law_letters", "_law_many", "_law_name", "_law_k"]
def b_name_inE : TS3 := sSeq (sSet 1 (eC (.str "abcdefghijklmnopqrstuvwxyz"))) (sSeq (sSet 2 (fz (T3.e2 fAdd (fz (eC (.int 1))) (fz (T3.e2 fMod (eB 0) (fz (eC (.int 8)))))))) (sSeq (sSet 0 (T3.e2 fFdiv (eB 0) (fz (eC (.int 8))))) (sSeq (sSet 3 (eC (.str ""))) (sSeq (sFor (iR1 (aCons (fz (eV 2)) (aNil))) (.nm 4) (sSeq (sSet 3 (fz (T3.e2 fAdd (eB 3) (fz (T3.e2 fIxA (eB 1) (fz (T3.e2 fMod (eB 0) (fz (eC (.int 26)))))))))) (sSeq (sSet 0 (T3.e2 fFdiv (eB 0) (fz (eC (.int 26))))) (sNil)))) (sSeq (sRet (eTup (aCons (fz (eV 3)) (aCons (fz (eV 0)) (aNil))))) (sNil))))))
theorem m_name_inE (ds A Q) (h : sp_name_inS ds A Q (fun _ _ _ => False)) : b_name_inE { nx := fun _ A' => Q .non A', rt := Q } (start3 N_name_inE ds) A := m_name_inS ds A Q h
def N_house_by_digitsE : List Str := ["_law_rest_here", "_law_people", "_law_many", "_law_k", "_law_name", "_law_names", "_law_rooms", "_law_room", "_law_members", "_law_j"]
def b_house_by_digitsE : TS3 := sSeq (sSet 1 (eDNew)) (sSeq (sSet 2 (fz (T3.e2 fAdd (fz (eC (.int 1))) (fz (T3.e2 fMod (eB 0) (fz (eC (.int 4)))))))) (sSeq (sSet 0 (T3.e2 fFdiv (eB 0) (fz (eC (.int 4))))) (sSeq (sFor (iR1 (aCons (fz (eV 2)) (aNil))) (.nm 3) (sSeq (sAsgP (.tp [4, 0]) (eCall sp_name_inS [] (aCons (fz (eV 0)) (aNil)))) (sSeq (sPut 1 gDSet (eV 4) (T3.e2 fAdd (fz (eC (.int 1))) (fz (T3.e2 fMod (eB 0) (fz (eC (.int 3))))))) (sSeq (sSet 0 (T3.e2 fFdiv (eB 0) (fz (eC (.int 3))))) (sNil))))) (sSeq (sSet 5 (fz (eN fSorted (aCons (eB 1) (aNil))))) (sSeq (sSet 6 (eDNew)) (sSeq (sSet 2 (fz (T3.e2 fAdd (fz (eC (.int 1))) (fz (T3.e2 fMod (eB 0) (fz (eC (.int 4)))))))) (sSeq (sSet 0 (T3.e2 fFdiv (eB 0) (fz (eC (.int 4))))) (sSeq (sFor (iR1 (aCons (fz (eV 2)) (aNil))) (.nm 3) (sSeq (sAsgP (.tp [7, 0]) (eCall sp_name_inS [] (aCons (fz (eV 0)) (aNil)))) (sSeq (sSet 8 (eLc (iR1 (aCons (fz (eN fLen (aCons (eB 5) (aNil)))) (aNil))) (.nm 9) (tV (T3.e2 fEq (fz (T3.e2 fMod (fz (T3.e2 fFdiv (eB 0) (fz (T3.e2 fIxA (fz (eLst (aCons (fz (eC (.int 1))) (aCons (fz (eC (.int 2))) (aCons (fz (eC (.int 4))) (aCons (fz (eC (.int 8))) (aNil))))))) (eB 9))))) (fz (eC (.int 2))))) (fz (eC (.int 1))))) (T3.e2 fIxA (eB 5) (eB 9)) [9])) (sFz 8 (sSeq (sIf (tV (T3.e2 fEq (eB 8) (fz (eLst (aNil))))) (sSeq (sSet 8 (fz (eSl (eB 5) (oNo) (oAt (eC (.int 1)))))) (sNil)) (sNil)) (sSeq (sPut 6 gDSet (eV 7) (eN fTuple (aCons (eB 8) (aNil)))) (sSeq (sSet 0 (T3.e2 fFdiv (eB 0) (fz (eC (.int 16))))) (sNil)))))))) (sFz 6 (sSeq (sRet (eTup (aCons (fz (eN fTuple (aCons (fz (eLc (iS (eV 5)) (.nm 4) (tYes3) (eTup (aCons (fz (eV 4)) (aCons (fz (T3.e2 fIxA (eB 1) (eB 4))) (aNil)))) [4])) (aNil)))) (aCons (fz (eN fTuple (aCons (fz (eLc (iS (eN fSorted (aCons (eB 6) (aNil)))) (.nm 7) (tYes3) (eTup (aCons (fz (eV 7)) (aCons (fz (T3.e2 fIxA (eB 6) (eB 7))) (aNil)))) [7])) (aNil)))) (aNil))))) (sNil)))))))))))
theorem m_house_by_digitsE (ds A Q) (h : sp_house_by_digitsS ds A Q (fun _ _ _ => False)) : b_house_by_digitsE { nx := fun _ A' => Q .non A', rt := Q } (start3 N_house_by_digitsE ds) A := m_house_by_digitsS ds A Q h
end T3
set_option autoImplicit false
namespace T3
open PySem PySem.Spec PyProof.Rows L2
/-! ### hands of a house; what a log of a house has -/
def House.hands (h : House) : List Hnd := h.people.flatMap fun p => (List.range p.2.toNat).map fun k => (p.1, ((k : Nat) : Int))
theorem len_hands_take (h : House) (ok : h.Ok) : ∀ n, ((h.people.take n).flatMap fun p => (List.range p.2.toNat).map fun k => (p.1, ((k : Nat) : Int))).length ≤ 3 * n := by
  intro n
  induction n with
  | zero => simp
  | succ n ih =>
    rw [List.take_add_one, List.flatMap_append, List.length_append]
    by_cases hn : n < h.people.length
    · have := (ok.pn h.people[n] (List.getElem_mem _)).2
      simp [hn]
      simp at ih
      omega
    · simp [hn]
      simp at ih
      omega
theorem hands_len (h : House) (ok : h.Ok) : h.hands.length ≤ 12 := by
  have := len_hands_take h ok h.people.length
  rw [List.take_length] at this
  have h4 := ok.p4
  show (h.people.flatMap fun p => (List.range p.2.toNat).map fun k => (p.1, ((k : Nat) : Int))).length ≤ 12
  omega
theorem mem_hands {h : House} {x : Hnd} : x ∈ h.hands ↔ ∃ p ∈ h.people, x.1 = p.1 ∧ 0 ≤ x.2 ∧ x.2 < p.2 := by
  unfold House.hands
  rw [List.mem_flatMap]
  constructor
  · rintro ⟨p, hp, hx⟩
    obtain ⟨k, hk, rfl⟩ := List.mem_map.mp hx
    have := List.mem_range.mp hk
    exact ⟨p, hp, rfl, by simp, by simp only; omega⟩
  · rintro ⟨p, hp, h1, h2, h3⟩
    refine ⟨p, hp, List.mem_map.mpr ⟨x.2.toNat, List.mem_range.mpr (by omega), ?_⟩⟩
    exact Prod.ext h1.symm (by simp only; omega)
theorem hands_ne (h : House) (ok : h.Ok) : h.hands ≠ [] := by
  have h1 := ok.p1
  have hp : h.people[0] ∈ h.people := List.getElem_mem (by omega)
  have hk := (ok.pn _ hp).2
  have : ((h.people[0].1, (0 : Int)) : Hnd) ∈ h.hands := mem_hands.mpr ⟨_, hp, rfl, by simp, by simp only; omega⟩
  intro e
  rw [e] at this
  cases this
@[simp] theorem listA_logD (A : AH) (l : List Deed) : fListA A [logD l] = some (.ml (l.map Deed.toD)) := (rfl)
theorem p2_pairI (p : Str × Int) : W.p2 (pairI p) = some (.str p.1, .int p.2) := rfl
def StampIn (hs : List Hnd) (s : Stamp) : Prop := 1 ≤ s.1 ∧ s.2 ∈ hs
structure VecIn (hs : List Hnd) (v : Vec) : Prop where
  sub : (v.map (·.1)).Sublist hs
  pos : ∀ p ∈ v, 1 ≤ p.2
def WhatIn (h : House) (hs : List Hnd) : What → Prop
  | .room r => r ∈ h.rooms.map (·.1)
  | .person n => n ∈ h.people.map (·.1)
  | .under s => StampIn hs s
def ActIn (h : House) (hs : List Hnd) : Act → Prop
  | .say r u s => r ∈ h.rooms.map (·.1) ∧ (∀ m, u = some m → StampIn hs m) ∧ SayOk s
  | .change m s => StampIn hs m ∧ SayOk s
  | .back m => StampIn hs m
  | .like m x _ => StampIn hs m ∧ NameOk x
  | .read r v => r ∈ h.rooms.map (·.1) ∧ VecIn hs v
  | .seen m => StampIn hs m
  | .hush w _ => WhatIn h hs w
  | .rung m => StampIn hs m
structure DeedIn (h : House) (hs : List Hnd) (d : Deed) : Prop where
  time : 1 ≤ d.time
  hand : d.hand ∈ hs
  num : 0 ≤ d.num
  act : ActIn h hs d.act
def ofHand (x : Hnd) (L : List Deed) : List Deed := L.filter fun d => decide (d.hand = x)
/-- the deeds in the order in which they are made -/
structure Pre (h : House) (hs : List Hnd) (L : List Deed) : Prop where
  deed : ∀ d ∈ L, DeedIn h hs d
  rise : L.Pairwise fun d e => d.hand = e.hand → d.time < e.time ∧ d.num < e.num
  nums : ∀ x ∈ hs, (ofHand x L).map (·.num) = (List.range (ofHand x L).length).map Int.ofNat
theorem ofHand_snoc (y : Hnd) (L : List Deed) (e : Deed) : ofHand y (L ++ [e]) = if e.hand = y then ofHand y L ++ [e] else ofHand y L := by
  unfold ofHand
  rw [List.filter_append]
  by_cases h : e.hand = y <;> simp [h]
def LogOk (h : House) (hs : List Hnd) (l : List Deed) : Prop := ∃ L, l.Perm L ∧ Pre h hs L ∧ l.Pairwise fun a b => leD (stampD a.stamp) (stampD b.stamp)
/-! ### the greatest of numbers -/
theorem maxF_ints : ∀ (xs : List Int) (x : Int), ∃ m, maxF (.int x) (xs.map .int) = .int m ∧ x ≤ m ∧ ∀ y ∈ xs, y ≤ m
  | [], x => ⟨x, rfl, by omega, by simp⟩
  | y :: xs, x => by
    obtain ⟨m, e, h1, h2⟩ := maxF_ints xs (if x < y then y else x)
    refine ⟨m, ?_, by split at h1 <;> omega, fun z hz => ?_⟩
    · rw [← e]
      show maxF (if ltD (.int x) (.int y) = true then .int y else .int x) _ = _
      rw [ltD_int]
      by_cases h : x < y <;> simp [h]
    · rcases List.mem_cons.mp hz with rfl | hz
      · split at h1 <;> omega
      · exact h2 z hz
theorem fMax_ints (A : AH) (x : Int) (xs : List Int) : ∃ m, fMax A [.lst (.int x :: xs.map .int)] = some (.int m) ∧ x ≤ m ∧ ∀ y ∈ xs, y ≤ m := by
  obtain ⟨m, e, h⟩ := maxF_ints xs x
  refine ⟨m, ?_, h⟩
  have ok : okMax (.int x :: xs.map .int) = true := by
    have hp : ∀ l : List Int, poks (l.map .int) = true := fun l => encInt.cod.poks l
    have hd : ∀ l : List Int, deps (l.map D.int) = 0 := by
      intro l
      induction l with
      | nil => rfl
      | cons a l ih => rw [List.map_cons, deps, ih]; rfl
    show okMax ((x :: xs).map .int) = true
    simp only [okMax, hp, Bool.true_and, hd, Bool.and_eq_true, List.all_eq_true, decide_eq_true_eq]
    refine ⟨⟨fun a ha b hb => ?_, fun a ha => ?_⟩, by omega⟩
    · obtain ⟨i, _, rfl⟩ := List.mem_map.mp ha
      obtain ⟨j, _, rfl⟩ := List.mem_map.mp hb
      simp [pd, PySem.W.alike]
    · obtain ⟨i, _, rfl⟩ := List.mem_map.mp ha; rfl
  show (seqOf A (.lst (.int x :: xs.map .int))).bind (best maxF) = _
  have es : seqOf A (.lst (.int x :: xs.map .int)) = some (.int x :: xs.map .int) := rfl
  rw [es, Option.bind_some]
  unfold best
  simp only [ok, if_true, e]
end T3
set_option autoImplicit false
namespace T3
open PySem PySem.Spec PyProof.Rows L2
/-! ### instances of own classes: fields, methods, constructors -/
/-- where the classes stand -/
class Cls3 where
  at_ : Str → Addr
def putFD (f : Str) (d : D) : List (Str × D) → List (Str × D)
  | [] => [(f, d)]
  | (g, x) :: r => if g = f then (g, d) :: r else (g, x) :: putFD f d r
section
variable {K : PySem.W.Frag} {w : World} {H : Hp}
theorem Rpf.look_none {f : Str} : ∀ {fs : List (Str × D)} {xs : List (Str × V)}, Rpf K w H fs xs → fs.lookup f = none → xs.lookup f = none
  | [], _, h, _ => by cases h; rfl
  | (g, d) :: r, _, ⟨v, q, e, h1, h2⟩, hl => by
    subst e
    rw [List.lookup_cons] at hl ⊢
    cases c : f == g with
    | true => rw [c] at hl; cases hl
    | false => rw [c] at hl; exact Rpf.look_none h2 hl
theorem Rpf.look {f : Str} {d : D} : ∀ {fs : List (Str × D)} {xs : List (Str × V)}, Rpf K w H fs xs → fs.lookup f = some d → ∃ v, xs.lookup f = some v ∧ Rp K w H d v
  | [], _, _, hl => by cases hl
  | (g, d') :: r, _, ⟨v, q, e, h1, h2⟩, hl => by
    subst e
    rw [List.lookup_cons] at hl ⊢
    cases c : f == g with
    | true => rw [c] at hl; cases hl; exact ⟨v, rfl, h1⟩
    | false => rw [c] at hl; exact Rpf.look h2 hl
theorem Rpf.len : ∀ {fs : List (Str × D)} {xs : List (Str × V)}, Rpf K w H fs xs → xs.length = fs.length
  | [], _, h => by cases h; rfl
  | (g, d') :: r, _, ⟨v, q, e, h1, h2⟩ => by
    subst e
    rw [List.length_cons, List.length_cons, Rpf.len h2]
theorem Rpf.put {f : Str} {d : D} {v : V} (hv : Rp K w H d v) : ∀ {fs : List (Str × D)} {xs : List (Str × V)}, Rpf K w H fs xs → Rpf K w H (putFD f d fs) (putF f v xs)
  | [], _, h => by cases h; exact ⟨v, [], rfl, hv, rfl⟩
  | (g, d') :: r, _, ⟨v', q, e, h1, h2⟩ => by
    subst e
    unfold putFD putF
    by_cases c : g = f
    · rw [if_pos c, if_pos c]; exact ⟨v, q, rfl, hv, h2⟩
    · rw [if_neg c, if_neg c]; exact ⟨v', _, rfl, h1, Rpf.put hv h2⟩
end
/-- the classes where the module's names tell them -/
@[reducible] def clsK (K : PySem.W.Frag) : Cls3 := ⟨fun x => match PySem.W.nsIn K mainGlobals x with
  | some (some (.ref a)) => a
  | _ => 0⟩
theorem clsK_at {K : PySem.W.Frag} {x : Str} {a : Addr} (h : PySem.W.nsIn K mainGlobals x = some (some (.ref a))) : (clsK K).at_ x = a := by unfold clsK; simp only [h]
/-- what K must hold of the class at C with these fields -/
def ClsK (K : PySem.W.Frag) (C : Addr) (fs : List Str) : Prop := Cls K C ∧ ∀ f ∈ fs, NoAttr K C f
section
variable [Cls3] {X : Cx} {C : Ct}
/-- an instance of the class named c, without a field m -/
def eIns (c m : Str) (t : TE3) : TE3 := fun z A Q => t z A fun d A1 => ∃ a fs, d = .ref a ∧ A1 a = some (.ins (Cls3.at_ c) fs) ∧ fs.lookup m = none ∧ Q d A1
def eFld (c f : Str) (t : TE3) : TE3 := fun z A Q => t z A fun d A1 => ∃ a fs v, d = .ref a ∧ A1 a = some (.ins (Cls3.at_ c) fs) ∧ fs.lookup f = some v ∧ Q v A1
def sFldD (c f : Str) (to tv : TE3) : TS3 := fun D z A => tv z A fun v A1 => to z A1 fun d A2 => ∃ a fs, d = .ref a ∧ A2 a = some (.ins (Cls3.at_ c) fs) ∧ fs.length < 1000 ∧ D.nx z (put A2 a (.ins (Cls3.at_ c) (putFD f (frz v) fs)))
def eMake (c : Str) (sp : Sp3) (dfl : List D) (t : TA3) : TE3 := fun z A Q => t z A fun ds A1 => ∀ x, A1 x = none → sp (.ref x :: (ds ++ dfl)) (put A1 x (.ins (Cls3.at_ c) [])) (fun d A2 => d = .non ∧ Q (.ref x) A2) fun _ _ _ => False
theorem pe3_fld {c f : Str} {fs : List Str} {e : Expr} {t : TE3} {pos : Pos} (k : ClsK X.K (Cls3.at_ c) fs) (hf : f ∈ fs) (h : PE3 X C e t) (hb : attributeBase e f X.env (eval e X.env) = eval e X.env := by rfl) : PE3 X C (.Attribute e f pos) (eFld c f t) :=
  PE.imp (pe_fld h hb) fun σ H Q hq => by
    obtain ⟨z, A, Q3, r, s, q, g⟩ := hq
    refine ⟨z, A, _, r, s, q, fun d A1 v H1 q1 r1 s1 p1 t1 => ?_⟩
    obtain ⟨a, fs, x, rfl, ea, hl, q2⟩ := q1
    have ev : v = .ref a := by have := t1.val; exact this
    subst ev
    obtain ⟨dx, xs, h1, h2⟩ := r1.heap a _ ea
    obtain ⟨y, hy, ry⟩ := h2.look hl
    exact ⟨a, _, dx, xs, y, rfl, h1, k.1, k.2 f hf, hy, g x A1 y H1 q2 r1 s1 p1 (.of ry)⟩
theorem ps3_fld {c f : Str} {fs : List Str} {o ve : Expr} {to tv : TE3} {pos pos' : Pos} (k : ClsK X.K (Cls3.at_ c) fs) (hf : f ∈ fs) (ho : PE3 X C o to) (hv : PE3 X C ve tv)
    (hs : swapsWith ve (some (.Attribute o f pos')) pos.line X.env = pure false := by rfl) : PS3 X C (.Assign [.Attribute o f pos'] ve pos) (sFldD c f to tv) :=
  PS.imp (ps_fld ho (pe_fz hv) hs) fun D σ H hq => by
    obtain ⟨z, A, D3, r, s, q, g⟩ := hq
    refine ⟨z, A, _, r, s, q, fun v A1 y H1 q1 r1 s1 p1 t1 => ⟨z, A1, _, r1, s1, q1, fun d A2 x H2 q2 r2 s2 p2 t2 => ?_⟩⟩
    obtain ⟨a, fs, rfl, ea, hl, q3⟩ := q2
    have ev : x = .ref a := by have := t2.val; exact this
    subst ev
    obtain ⟨dx, xs, h1, h2⟩ := r2.heap a _ ea
    have t1' := t1.pers p2
    have cg : Chg (.ins (Cls3.at_ c) dx xs) := chg_ins
    obtain ⟨r3, s3⟩ := ref_write (ob' := .ins (Cls3.at_ c) (putFD f (frz v) fs)) (u' := .ins (Cls3.at_ c) dx (putF f y xs)) r2 s2 ea h1 cg ⟨dx, _, upd_same, (h2.put t1').pers (pers_upd h1 cg)⟩
    exact ⟨a, _, dx, xs, rfl, h1, k.1, k.2 f hf, by rw [h2.len]; exact hl, g.nx _ _ σ _ q3 r3 s3 ((p1.trans p2).trans (pers_upd h1 cg))⟩
/-! ### methods -/
def Def3M (P : Program) (w : World) (K : PySem.W.Frag) (mg : Str → Option Value) (base : Heap) (c m : Str) (k : Nat) (ps : List Str) (sp : Sp3) (dfl : List D) : Prop :=
  ∃ (f : Addr) (fd : FuncData) (ds : List Value) (dvs : List V), FnOk P w K mg base CX0 k f fd ps (lsp K w sp) ∧ Meth K (Cls3.at_ c) m f ∧ Cls K (Cls3.at_ c) ∧ L2.Binds K fd ps ds ∧ Vals dvs ds ∧ ∀ H, Rps K w H dfl dvs
section
variable {P : Program} {k : Nat} {ps : List Str} {sp : Sp3} {dfl : List D} {c m : Str} {p pos apos : Pos} {o e : Expr} {es : List Expr} {ta : TE3} {t : TA3}
theorem pe3_meth0 {pl : Sem Bool} (G : Def3M X.prog X.w X.K X.mg X.base c m k ps sp dfl) (hr : Room k X.A) (he : PE3 X C o ta)
    (ht : eval (.Call (.Attribute o m apos) [] [] pos) X.env = (do
      let ov ← eval o X.env
      standAt apos.atName
      let (f, first) ← holding [ov] (getMethod ov m pl)
      callWith pos f first (backTo pos (starEach [] X.env)) (backToKw pos (keywordEach [] X.env))) := by rfl) :
    PE3 X C (.Call (.Attribute o m apos) [] [] pos) (eCall sp dfl (aCons (eIns c m ta) aNil)) := by
  obtain ⟨f, fd, ds, dvs, F, hm, cl, hb, hd, h3⟩ := G
  refine PE.imp (pe_meth0 he cl hm F hr hb hd pass0 ht) fun σ H Q hq => ?_
  obtain ⟨z, A, Q3, r, s, q, g⟩ := hq
  refine ⟨z, A, _, r, s, q, fun d A1 v H1 q1 r1 s1 p1 t1 => ?_⟩
  obtain ⟨a, fs, rfl, ea, hl, q2⟩ := q1
  have ev : v = .ref a := by have := t1.val; exact this
  subst ev
  obtain ⟨dx, xs, h1, h2⟩ := r1.heap a _ ea
  refine ⟨a, dx, xs, rfl, h1, h2.look_none hl, ?_⟩
  have q2' : sp (.ref a :: dfl) A1 Q3 (fun _ _ _ => False) := q2
  refine ⟨.ref a :: dfl, A1, Q3, Rps.cons (by rw [Rp]) (h3 H1), r1.heap, q2', fun d A3 v H3 q4 r3 rv al => ?_⟩
  obtain ⟨r4, s4, p4⟩ := call_back r1 s1 r3
  exact g d A3 v H3 q4 r4 s4 (p1.trans p4) (call_tmp r1 s1 rv al)
/-! ### constructors -/
def Def3C (P : Program) (w : World) (K : PySem.W.Frag) (mg : Str → Option Value) (base : Heap) (c : Str) (k : Nat) (ps : List Str) (sp : Sp3) : Prop :=
  ∃ (f : Addr) (fd : FuncData), FnOk P w K mg base CX0 k f fd ps (lsp K w sp) ∧ Mk K (Cls3.at_ c) f ∧ mg c = some (.ref (Cls3.at_ c)) ∧ L2.Binds K fd ps []
theorem low_make {E : XK} {σ : L2.St} {H : Hp} {Q : VK} (hq : low X.K X.w C (eMake c sp [] t) σ H Q) : tMake (Cls3.at_ c) (lsp X.K X.w sp) [] E (lowA X.K X.w C t) σ H Q := by
  obtain ⟨z, A, Q3, r, s, q, f⟩ := hq
  refine ⟨z, A, _, r, s, q, fun ds A1 vs H1 q1 r1 s1 p1 t1 x dx nx nd ne => ?_⟩
  have nA := r1.afresh nx
  have q2 := q1 x nA
  have ex : Ext H1 (upd (upd H1 dx (.own x)) x (.ins (Cls3.at_ c) dx [])) := fun b o e => by
    have h1 := ext_upd (o := .own x) nd b o e
    exact ext_upd (o := .ins (Cls3.at_ c) dx []) (by rw [upd_ne (fun e => ne e.symm)]; exact nx) b o h1
  have r2 := r1.ext ex
  have s2 := s1.ext ex
  have r3 := r2.share (a := x) (ob := .ins (Cls3.at_ c) []) (r1.mono x nx) ⟨dx, [], upd_same, rfl⟩
  have s3 : Slots X.K X.w C z (put A1 x (.ins (Cls3.at_ c) [])) σ _ := s2.share (a := x) (ob := .ins (Cls3.at_ c) []) fun i e hi oe hs => by
    obtain ⟨v, hv, rv⟩ := s1.val i e hi
    rw [hs] at hv; cases hv
    obtain ⟨b, ob, eb, _, ro⟩ := rv.ob oe
    cases eb
    obtain ⟨u, hu, _⟩ := ro.there
    rw [nx] at hu; cases hu
  refine ⟨.ref x :: (ds ++ []), put A1 x (.ins (Cls3.at_ c) []), fun d A2 => d = .non ∧ Q3 (.ref x) A2, Rps.cons (by rw [Rp]) ((t1.pers (.of_ext ex)).append Rps.nil), r3.heap, q2, fun d A3 v H3 q4 r4 rv al => ?_⟩
  obtain ⟨rfl, q5⟩ := q4
  obtain ⟨r5, s5, p5⟩ := call_back r3 s3 r4
  exact ⟨rv, f (.ref x) A3 (.ref x) H3 q5 r5 s5 ((p1.trans (.of_ext ex)).trans p5) (.of (by rw [Rp]))⟩
theorem pe3_make (G : Def3C X.prog X.w X.K X.mg X.base c k ps sp) (hr : Room (k + 1) X.A) (hg : Gl X c) (ha : PA3 X C (e :: es) t) (hdb : (c == ("__debug__" : Str)) = false := by decide)
    (he : starEach (e :: es) X.env = (false, eval e X.env) :: starEach es X.env := by rfl) (hpl : (backTo pos (starEach es X.env)).any (·.1) = false := by rfl) :
    PE3 X C (.Call (.Name c p) (e :: es) [] pos) (eMake c sp [] t) := by
  obtain ⟨f, fd, F, M, hm, hb⟩ := G
  exact PE.imp (pe_make (dvs := []) M F hr hg hm hb .nil pass0 ha hdb he hpl) fun _ _ _ hq => low_make hq
end
end
/-! ### as W programs -/
namespace W
section
variable [Cls3]
def asIns (c m : Str) (d : D) : W D := fun A Q _ => ∃ a fs, d = .ref a ∧ A a = some (.ins (Cls3.at_ c) fs) ∧ fs.lookup m = none ∧ Q d A
def fldW (c f : Str) (d : D) : W D := fun A Q _ => ∃ a fs v, d = .ref a ∧ A a = some (.ins (Cls3.at_ c) fs) ∧ fs.lookup f = some v ∧ Q v A
def setF (c f : Str) (d v : D) : W Unit := fun A Q _ => ∃ a fs, d = .ref a ∧ A a = some (.ins (Cls3.at_ c) fs) ∧ fs.length < 1000 ∧ Q () (put A a (.ins (Cls3.at_ c) (putFD f (frz v) fs)))
def mkW (c : Str) (G : D → W D) : W D := fun A Q _ => ∀ x, A x = none → G (.ref x) (put A x (.ins (Cls3.at_ c) [])) (fun d A2 => d = .non ∧ Q (.ref x) A2) fun _ _ _ => False
def ins (c m : Str) (r : W D) : W D := bind r (asIns c m)
def fld (c f : Str) (r : W D) : W D := bind r (fldW c f)
def mk1 (c : Str) (F : D → D → W D) (r1 : W D) : W D := bind r1 fun a => mkW c fun x => F x a
def mk2 (c : Str) (F : D → D → D → W D) (r1 r2 : W D) : W D := bind r1 fun a => bind r2 fun b => mkW c fun x => F x a b
def mk3 (c : Str) (F : D → D → D → D → W D) (r1 r2 r3 : W D) : W D := bind r1 fun a => bind r2 fun b => bind r3 fun e => mkW c fun x => F x a b e
variable (A : AH) (E : X3)
theorem asIns_of {A : AH} {a : Addr} {fs : List (Str × D)} {c m : Str} (h : A a = some (.ins (Cls3.at_ c) fs)) (hl : fs.lookup m = none) (Q : D → AH → Prop) (E : X3) : asIns c m (.ref a) A Q E = Q (.ref a) A :=
  propext ⟨fun ⟨_, _, e, h', _, q⟩ => by cases e; exact q, fun q => ⟨a, fs, rfl, h, hl, q⟩⟩
theorem fldW_of {A : AH} {a : Addr} {fs : List (Str × D)} {c f : Str} {v : D} (h : A a = some (.ins (Cls3.at_ c) fs)) (hl : fs.lookup f = some v) (Q : D → AH → Prop) (E : X3) : fldW c f (.ref a) A Q E = Q v A :=
  propext ⟨fun ⟨_, _, _, e, h', hl', q⟩ => by cases e; rw [h] at h'; cases h'; rw [hl] at hl'; cases hl'; exact q, fun q => ⟨a, fs, v, rfl, h, hl, q⟩⟩
theorem setF_of {A : AH} {a : Addr} {fs : List (Str × D)} {c f : Str} (h : A a = some (.ins (Cls3.at_ c) fs)) (hl : fs.length < 1000) (v : D) (Q : Unit → AH → Prop) (E : X3) : setF c f (.ref a) v A Q E = Q () (put A a (.ins (Cls3.at_ c) (putFD f (frz v) fs))) :=
  propext ⟨fun ⟨_, _, e, h', _, q⟩ => by cases e; rw [h] at h'; cases h'; exact q, fun q => ⟨a, fs, rfl, h, hl, q⟩⟩
@[simp] theorem mkW_ap (c : Str) (G : D → W D) (Q : D → AH → Prop) : mkW c G A Q E = ∀ x, A x = none → G (.ref x) (put A x (.ins (Cls3.at_ c) [])) (fun d A2 => d = .non ∧ Q (.ref x) A2) fun _ _ _ => False := (rfl)
@[simp] theorem ins_ap (c m : Str) (r : W D) : ins c m r = bind r (asIns c m) := (rfl)
@[simp] theorem fld_ap (c f : Str) (r : W D) : fld c f r = bind r (fldW c f) := (rfl)
@[simp] theorem mk1_ap (c : Str) (F : D → D → W D) (r1 : W D) : mk1 c F r1 = bind r1 fun a => mkW c fun x => F x a := (rfl)
@[simp] theorem mk2_ap (c : Str) (F : D → D → D → W D) (r1 r2 : W D) : mk2 c F r1 r2 = bind r1 fun a => bind r2 fun b => mkW c fun x => F x a b := (rfl)
@[simp] theorem mk3_ap (c : Str) (F : D → D → D → D → W D) (r1 r2 r3 : W D) : mk3 c F r1 r2 r3 = bind r1 fun a => bind r2 fun b => bind r3 fun e => mkW c fun x => F x a b e := (rfl)
end
end W
section
variable [Cls3] {E : X3} {z : S3} {t ta t1 t2 t3 : TE3} {r ra r1 r2 r3 : W D} {c m f : Str}
theorem je_ins (h : JE E t z r) : JE E (eIns c m t) z (W.ins c m r) := fun A Q Q' q mm => h A _ _ q fun d A1 ⟨a, fs, h1, h2, h3, q1⟩ => ⟨a, fs, h1, h2, h3, mm _ _ q1⟩
theorem je_fld (h : JE E t z r) : JE E (eFld c f t) z (W.fld c f r) := fun A Q Q' q mm => h A _ _ q fun d A1 ⟨a, fs, v, h1, h2, h3, q1⟩ => ⟨a, fs, v, h1, h2, h3, mm _ _ q1⟩
theorem je_mk2 {F : D → D → D → W D} (h1 : JE E t1 z r1) (h2 : JE E t2 z r2) : JE E (eMake c (sp3 F) [] (aCons t1 (aCons t2 aNil))) z (W.mk2 c F r1 r2) := fun A Q Q' q mm =>
  h1 A _ _ q fun a A1 q => h2 A1 _ _ q fun b A2 q => fun x nx => ⟨.ref x, a, b, rfl, _, _, q x nx, fun _ _ h => ⟨h.1, mm _ _ h.2⟩, fun _ _ _ h => h⟩
theorem js_fld {β : Type} {N B Cc : S3 → W β → Prop} {R : D → W β} {u : TS3} {k : W β} (h0 : JE E ta z ra) (h1 : JE E t z r) (hu : JS E u z k N B Cc R) : JS E (sSeq (sFldD c f ta t) u) z (W.bind r fun v => W.bind ra fun o => W.bind (W.setF c f o v) fun _ => k) N B Cc R := fun K A Q hn hb hc hr q => h1 A _ _ q fun y A1 q1 => h0 A1 _ _ q1 fun o A2 ⟨a, fs, e1, e2, e3, q3⟩ => ⟨a, fs, e1, e2, e3, hu K _ Q hn hb hc hr q3⟩
end
end T3
set_option autoImplicit false
namespace T3
open PySem PySem.Spec PyProof.Rows L2

/-! ### for k in d, for k, v in d.items(): d a dict that others hold and that stays -/
section
variable {X : Cx} {pins : List (Addr × Obj)} {σ : L2.St} {H : Hp} {s : Shared} {d : Addr} {es : List (Int × V × V)}
theorem liv_dict (I : Inv X pins σ H s) (h : H d = some (dh d es)) : ∃ o arr, s.heap.get? d = some o ∧ (d == sysModules) = false ∧ o.ExactDict ∧ o.data = .dict arr arr.size ∧ EntsAre es arr.toList ∧ arr.size = es.length ∧ s.heap.DictRaw d arr arr.size ∧ arr.size ≤ sizeLine := by
  have de : DE d es s.heap := (show ObjOk X.prog X.w H s.heap d (.ext (DE d es)) from I.hok d _ h).1
  obtain ⟨hz, hm, o, arr, ep, ho, hc, hd, ea, ee⟩ := de
  subst ee
  have l := ea.length
  simp only [Array.length_toList] at l
  exact ⟨o, arr, ho, hm, hc, hd, ea, l.symm, ⟨o, ho, hc, hd⟩, by omega⟩
end
/-- the entry at i, however the dict is told -/
def EntI (H : Hp) (d : Addr) (i : Nat) (k v : V) : Prop := ∀ es, H d = some (dh d es) → ∃ m, es[i]? = some (m, k, v)
theorem entI_of {X : Cx} {pins : List (Addr × Obj)} {σ : L2.St} {H : Hp} {s : Shared} {d : Addr} {o : Obj} {arr : Array DictEntry} {i : Nat} {e : DictEntry} {k v : V} (I : Inv X pins σ H s) (ho : s.heap.get? d = some o) (hd : o.data = .dict arr arr.size) (he : arr.toList[i]? = some e) (rk : RelV k e.key) (rv : RelV v e.val) : EntI H d i k v := fun es h => by
  obtain ⟨o2, arr2, g1, _, _, g2, ea, hsz, _, _⟩ := liv_dict I h
  rw [ho] at g1; cases g1
  rw [hd] at g2; cases g2
  have hi : i < es.length := by
    have := (List.getElem?_eq_some_iff.mp he).1
    simp only [Array.length_toList] at this
    omega
  obtain ⟨⟨n, k2, v2⟩, hkv⟩ : ∃ p, es[i]? = some p := ⟨es[i], List.getElem?_eq_getElem hi⟩
  obtain ⟨e2, he2, rk2, rv2⟩ := ents_get (n := 0) ea hkv
  rw [he] at he2; cases he2
  exact ⟨n, by rw [rk.inj rk2, rv.inj rv2]; exact hkv⟩
def Itkl (d : Addr) (n : Nat) : It :=
  ⟨fun i H => (∃ es, H d = some (dh d es) ∧ es.length = n) ∧ i < n, fun i H x H' => H' = H ∧ ∃ v, EntI H d i x v, fun i H => (∃ es, H d = some (dh d es) ∧ es.length = n) ∧ n ≤ i⟩
theorem turn_itkl {P : Program} {w : World} {K : PySem.W.Frag} {tg : Expr} {d : Addr} (it : Addr) (n : Nat) :
    Turn P w K tg (Itkl d n) [it] it (fun i h => h.IsKeyIter it d i n n) where
  mem := by simp
  obj := fun i h st b hb => by
    have e : b = it := by simpa using hb
    subst e
    obtain ⟨oi, e, c, dd⟩ := st
    exact ⟨oi, e, fun v z => by rw [dd] at z; cases z⟩
  keep := fun i h h' st k => by
    obtain ⟨oi, e, c, dd⟩ := st
    exact ⟨oi, k it (by simp) oi e, c, dd⟩
  item := by
    intro X hP hw hK hc i pins s σ H E I hf st hg
    subst hP hw hK
    obtain ⟨⟨es, hd, hn⟩, hi⟩ := hg
    obtain ⟨f0, f1, f2, f3, f4, f5⟩ := hf it (by simp)
    obtain ⟨o, arr, hgd, hs, hcx, hod, ea, hsz, hm, hz0⟩ := liv_dict I hd
    have st' : s.heap.IsKeyIter it d i arr.size arr.size := by rw [hsz, hn]; exact st
    obtain ⟨⟨n', k, v⟩, hkv⟩ : ∃ p, es[i]? = some p := ⟨es[i], List.getElem?_eq_getElem (by omega)⟩
    obtain ⟨e, he0, rk, rv⟩ := ents_get (n := 0) ea hkv
    have he1 := he0
    rw [Array.getElem?_toList] at he1
    refine next_key_item st' hgd hod rfl he1 fun h' st'' sb => ?_
    rw [hsz, hn] at st''
    have I1 : Inv X pins σ H { s with heap := h' } := I.turned (t' := s.toks) (fun b ob hb e => (sb.2 b hb).trans e) f0 f1 f3 f4 f5
    obtain ⟨oi, eo, c, dd⟩ := id st''
    exact ⟨e.key, rfl, go_of (s := { s with heap := h' }) eo c dd (by decide) ⟨k, H, I1, rk, ⟨rfl, v, entI_of I hgd hod he0 rk rv⟩, st'', fun b hb => (hf b hb).1⟩⟩
  done := by
    intro X hP hw hK hc i pins s σ H E I hf st hg
    subst hP hw hK
    obtain ⟨⟨es, hd, hn⟩, hi⟩ := hg
    obtain ⟨f0, f1, f2, f3, f4, f5⟩ := hf it (by simp)
    obtain ⟨o, arr, hgd, hs, hcx, hod, ea, hsz, hm, hz0⟩ := liv_dict I hd
    have st' : s.heap.IsKeyIter it d i arr.size arr.size := by rw [hsz, hn]; exact st
    exact next_key_end (I.ok.hd hc) st' hgd hod rfl (by omega) fun h' eb => ⟨rfl, I.turned (t' := s.toks) (fun b ob hb e => eb b ob hb e) f0 f1 f3 f4 f5⟩
  self := fun A i s Q E st h => by
    refine wpAny_pyIter_slot st.typeIs F.slot_dict_keyiterator_iter (wpAny_call_entry F.slot_dict_keyiterator_iter st.typeIs F.entry_dict_keyiterator_iter ?_ (F.args_dict_keyiterator_iter_1 _))
    show wpAny _ _ (ret (.ref it)) _ _ s
    exact wpAny_pure ⟨_, rfl, "dict_keyiterator", _, st.typeIs, F.slot_dict_keyiterator_next.lookup, h⟩
theorem seen_dct {K : PySem.W.Frag} {w : World} {H2 : Hp} {ws : Ws} {d : Addr} {kvs : List (D × D)} (hw : (d, [D.md kvs]) ∈ ws) (se : Seen K w ws H2) : ∃ es, H2 d = some (dh d es) ∧ Rpk K w H2 kvs es := by
  obtain ⟨ob, eo, ro⟩ := se _ hw
  cases ob with
  | lst xs =>
    cases eo
    obtain ⟨vs, _, h2⟩ := ro
    exact absurd rfl (h2.nmd kvs)
  | dct kvs' =>
    cases eo
    obtain ⟨es, h1, _, h3⟩ := ro
    exact ⟨es, h1, h3⟩
  | ins C fs => cases eo
theorem steady_itkl {pt : Pat} {K : PySem.W.Frag} {w : World} {H : Hp} {ws : Ws} {d : Addr} {kvs : List (D × D)} (hw : (d, [D.md kvs]) ∈ ws) : Steady K w pt ws (Itkl d kvs.length) (keysD kvs) H := by
  refine ⟨fun H2 p se => ?_, fun i x H2 p se hi => ?_⟩
  · obtain ⟨es, h1, h3⟩ := seen_dct hw se
    exact ⟨⟨es, h1, rpk_len h3⟩, by simp [keysD]⟩
  · obtain ⟨es, h1, h3⟩ := seen_dct hw se
    unfold keysD at hi
    rw [List.getElem?_map] at hi
    cases q : kvs[i]? with
    | none => rw [q] at hi; cases hi
    | some kv =>
      rw [q] at hi; cases hi
      obtain ⟨n, a, b, e1, r1, r2⟩ := rpk_get h3 q
      refine ⟨⟨⟨es, h1, rpk_len h3⟩, (List.getElem?_eq_some_iff.mp q).1⟩, fun x' H3 ⟨eH, v', y⟩ => ?_⟩
      obtain ⟨m, e2⟩ := y es h1
      rw [e1] at e2; cases e2
      subst eH
      exact ⟨fun _ _ h => h, .of r1⟩
/-- keys: of a dict of one's own, or of one that others hold and that stays -/
def keysW (A : AH) : D → Option (List D × Ws)
  | .ref a => match A a with
    | some (.dct kvs) => some (keysD kvs, [(a, [.md kvs])])
    | _ => none
  | .dct kvs => some (keysD kvs, [])
  | _ => none
def iKyA (t : TE3) : TI3 := fun z A Q => t z A fun d A' => withItems (keysW A' (frz d)) fun xs ws => Q xs ws A'
def iKyO (td : TE) : TI := fun σ H R => td σ H fun x H1 => (∃ d o es, x = .ref d ∧ H1 d = some (.frz o (dh d es)) ∧ R (Itky d o es) H1) ∨ ∃ d es, x = .ref d ∧ H1 d = some (dh d es) ∧ R (Itkl d es.length) H1
theorem pi_kyO {X : Cx} {tg e : Expr} {td : TE} (he : PE X e td) : PI X tg e (iKyO td) := by
  refine ⟨fun pins s σ H R I h => ?_⟩
  refine L2.thn (he.run pins s σ H _ I h) fun v s1 ⟨x, H1, I1, rx, hh⟩ => ?_
  rcases hh with ⟨d, o, es, ex, hd, q⟩ | ⟨d, es, ex, hd, q⟩
  · subst ex
    obtain rfl : v = Value.ref d := rx
    obtain ⟨hgd, hs, arr, ep, hdt, ea, hsz, hm, hz0⟩ := frz_dict I1 hd
    obtain ⟨o', ho', hc', hd'⟩ := hm
    exact iter_keys hs ho' hc' hd' (pi_one (tk := s1.toks) I1 _ (turn_itky _ hdt) ⟨_, Heap.get?_push_size _ rfl, rfl, rfl⟩ q)
  · subst ex
    obtain rfl : v = Value.ref d := rx
    obtain ⟨o, arr, hgd, hs, hcx, hdt, ea, hsz, hm, hz0⟩ := liv_dict I1 hd
    refine iter_keys hs hgd hcx hdt (pi_one (tk := s1.toks) I1 _ (turn_itkl _ es.length) ⟨_, Heap.get?_push_size _ rfl, rfl, ?_⟩ q)
    rw [← hsz]; rfl
theorem pi3_keysA {X : Cx} {C : Ct} {pt : Pat} {tg e : Expr} {t : TE3} (he : PE3 X C e t) : PI3 X C pt tg e (iKyA t) := PI.imp (pi_kyO (pe_fz he)) fun σ H R hq => by
  obtain ⟨z, A, Q3, r, s, q, f⟩ := hq
  refine ⟨z, A, _, r, s, q, fun d A' v H' q' r' s' p' t' => ?_⟩
  obtain ⟨⟨xs, ws⟩, ei, q2⟩ := withItems_ex q'
  generalize frz d = dd at ei t'
  cases dd with
  | ref a =>
    rw [Rp] at t'
    subst t'
    unfold keysW at ei
    simp only at ei
    split at ei
    · rename_i kvs ea
      cases ei
      obtain ⟨es, h1, hok, h2⟩ := r'.heap a _ ea
      have l := rpk_len h2
      refine .inr ⟨a, es, rfl, h1, f _ _ A' _ H' q2 r' s' p' ?_⟩
      rw [l]
      exact steady_itkl (by simp)
    · cases ei
  | dct kvs =>
    cases ei
    rw [Rp] at t'
    obtain ⟨a, es, rfl, ⟨o, h⟩, _, hr⟩ := t'
    exact .inl ⟨a, o, es, rfl, h, f _ _ A' _ H' q2 r' s' p' (steady_itky h hr)⟩
  | _ => cases ei
namespace W
def itKyA (d : D) : W It := fun A Q _ => withItems (keysW A (frz d)) fun xs ws => Q (xs, ws) A
def iKyA (ra : W D) : W It := bind ra itKyA
@[simp] theorem iKyA_ok (d : D) (A : AH) (Q : It → AH → Prop) (E : X3) : W.iKyA (ok d) A Q E = withItems (keysW A (frz d)) fun xs ws => Q (xs, ws) A := rfl
end W
theorem keysW_ref {A : AH} {a : Addr} {kvs : List (D × D)} (h : A a = some (.dct kvs)) : keysW A (.ref a) = some (keysD kvs, [(a, [.md kvs])]) := by simp [keysW, h]
@[simp] theorem keysW_dct (A : AH) (kvs : List (D × D)) : keysW A (.dct kvs) = some (keysD kvs, []) := (rfl)
theorem held_dct {A : AH} {a : Addr} {kvs : List (D × D)} (h : A a = some (.dct kvs)) : Held A [(a, [.md kvs])] := fun q hq => by
  rw [List.mem_singleton] at hq
  subst hq
  show (A a).bind hvO = _
  rw [h]; rfl
theorem ji_kyA {E : X3} {z : S3} {ta : TE3} {ra : W D} (h : JE E ta z ra) : JI E (T3.iKyA ta) z (W.iKyA ra) := fun A Q Q' q m => h A _ _ q fun d A' q' => by
  show withItems _ _
  have q2 : withItems (keysW A' (frz d)) fun xs ws => Q (xs, ws) A' := q'
  revert q2
  cases keysW A' (frz d) with
  | none => exact id
  | some r => exact fun q2 => m _ _ q2
end T3
set_option autoImplicit false
namespace T3
open PySem PySem.Spec PyProof.Rows L2
/-- cell_at(script, k); slots 0:script 1:k -/
def N_cell_at : List Str := ["_law_script", "_law_k"]
def F_cell_at (script_1 k_2 : D) : W D :=
  W.ite (W.tT (W.b2 fLt (W.ok (frz k_2)) (W.fzW (W.bN fLen (W.acons (W.ok (frz script_1)) (W.anil)))))) (W.bind (W.b2 fIxA (W.ok (frz script_1)) (W.ok (frz k_2))) (W.ok)) (
  W.bind (W.ok (.int 0)) (W.ok))
def b_cell_at : TS3 := sSeq (sIf (tV (e2 fLt (eB 1) (fz (eN fLen (aCons (eB 0) (aNil)))))) (sSeq (sRet (e2 fIxA (eB 0) (eB 1))) (sNil)) (sNil)) (sSeq (sRet (eC (.int 0))) (sNil))
theorem j_cell_at (E : X3) (script_1 k_2 : D) : JS E b_cell_at [some script_1, some k_2] (F_cell_at script_1 k_2) NF NB NB W.ok := by
  unfold b_cell_at F_cell_at
  exact js_if (jt_val (je_e2 (je_b rfl) (je_fz (je_eN (ja_cons (je_b rfl) (ja_nil)))))) (js_assoc (js_ret (je_e2 (je_b rfl) (je_b rfl)))) (js_nilseq (js_ret (je_c)))
theorem m_cell_at (ds A Q) (h : sp2 F_cell_at ds A Q (fun _ _ _ => False)) : b_cell_at { nx := fun _ A' => Q .non A', rt := Q } (start3 N_cell_at ds) A := by
  obtain ⟨script_1, k_2, rfl, u⟩ := h
  exact js_def (fun E => j_cell_at E _ _) u
/-- rest(cell); slots 0:cell 1:rest_here 2:number -/
def N_rest : List Str := ["_law_cell", "_law_rest_here", "_law_number"]
def F_rest (cell_1 : D) : W D :=
  W.ite (W.tT (W.b2 fEq (W.fzW (W.b2 fMod (W.ok (frz cell_1)) (W.ok (.int 2)))) (W.ok (.int 0)))) (W.bind (W.b2 fFdiv (W.ok (frz cell_1)) (W.ok (.int 2))) (W.ok)) (
  W.bind (W.ok (.int 0)) fun resthere_2 =>
  W.bind (W.iS (W.s2 F_streamE (W.rd cell_1) (W.ok (.int 14)))) fun it_7 => W.bind (W.each it_7.2 W.p1 (fun (s_3 : D) (y_5 : D) =>
  (W.bind (W.fzW (W.b2 fAdd (W.fzW (W.b2 fMul (W.ok (frz s_3)) (W.ok (.int 1000000)))) (W.ok (frz y_5)))) fun resthere_6 =>
  (W.ok resthere_6 : W (D)) : W (D))) it_7.1 resthere_2) fun (s_4 : D) =>
  W.ok s_4)
def b_rest : TS3 := sSeq (sIf (tV (e2 fEq (fz (e2 fMod (eB 0) (fz (eC (.int 2))))) (fz (eC (.int 0))))) (sSeq (sRet (e2 fFdiv (eB 0) (fz (eC (.int 2))))) (sNil)) (sNil)) (sSeq (sSet 1 (eC (.int 0))) (sFgt [2] (sSeq (sFor (iS (eCall (sp_streamS) [] (aCons (fz (eV 0)) (aCons (fz (eC (.int 14))) (aNil))))) (.nm 2) (sSeq (sSet 1 (fz (e2 fAdd (fz (e2 fMul (eB 1) (fz (eC (.int 1000000))))) (eB 2)))) (sFgt [2] (sNil)))) (sSeq (sRetV 1) (sNil)))))
theorem j_rest (E : X3) (cell_1 : D) : JS E b_rest [some cell_1, none, none] (F_rest cell_1) NF NB NB W.ok := by
  unfold b_rest F_rest
  exact js_if (jt_val (je_e2 (je_fz (je_e2 (je_b rfl) (je_fzc))) (je_fzc))) (js_assoc (js_ret (je_e2 (je_b rfl) (je_fzc)))) (js_nilseq (js_set (fun resthere_2 => [some cell_1, some resthere_2, none]) (je_c) (fun _ => rfl) (fun resthere_2 => js_fgt [some cell_1, some resthere_2, none] rfl (js_each (fun (s_3 : D) => [some cell_1, some s_3, none]) (fun (s_3 : D) (y_5 : D) => [some cell_1, some s_3, some y_5]) resthere_2 rfl (ji_s (je_sps2 sub_streamE (je_fzv rfl) (je_fzc))) (fun _ => pk1) (fun s_3 y_5 => js_set (fun resthere_6 => [some cell_1, some resthere_6, some y_5]) (je_fz (je_e2 (je_fz (je_e2 (je_b rfl) (je_fzc))) (je_b rfl))) (fun _ => rfl) (fun resthere_6 => js_fgt [some cell_1, some resthere_6, none] rfl (js_nil (⟨_, rfl, rfl⟩)))) (fun s_4 => js_retV rfl)))))
theorem m_rest (ds A Q) (h : sp1 F_rest ds A Q (fun _ _ _ => False)) : b_rest { nx := fun _ A' => Q .non A', rt := Q } (start3 N_rest ds) A := by
  obtain ⟨cell_1, rfl, u⟩ := h
  exact js_def (fun E => j_rest E _) u
/-- hands(house_here); slots 0:house_here 1:found 2:name 3:many 4:k -/
def N_handsE : List Str := ["_law_house_here", "_law_found", "_law_name", "_law_many", "_law_k"]
def F_handsE (househere_1 : D) : W D :=
  W.bind (W.fzW (W.lstA (W.anil))) fun found_2 =>
  W.bind (W.iS (W.b2 fIxA (W.ok (frz househere_1)) (W.ok (.int 0)))) fun it_8 => W.bind (W.each it_8.2 W.p2 (fun (s_3 : D) (y_5 : D × D) =>
  (W.bind (W.fzW (W.b2 fAdd (W.ok (frz s_3)) (W.fzW (W.lc (W.iR1 (W.rd y_5.2)) W.p1 (fun (y_6 : D) => W.ok true) (fun (y_6 : D) => W.tupA (W.acons (W.rd y_5.1) (W.acons (W.rd y_6) (W.anil)))))))) fun found_7 =>
  (W.ok found_7 : W (D)) : W (D))) it_8.1 found_2) fun (s_4 : D) =>
  W.ok s_4
def b_handsE : TS3 := sSeq (sSet 1 (fz (eLst (aNil)))) (sFgt [2, 3] (sSeq (sFor (iS (e2 fIxA (eB 0) (fz (eC (.int 0))))) (.tp [2, 3]) (sSeq (sSet 1 (fz (e2 fAdd (eB 1) (fz (eLc (iR1 (aCons (fz (eV 3)) (aNil))) (.nm 4) (tYes3) (eTup (aCons (fz (eV 2)) (aCons (fz (eV 4)) (aNil)))) [4]))))) (sFgt [2, 3] (sNil)))) (sSeq (sRetV 1) (sNil))))
theorem j_handsE (E : X3) (househere_1 : D) : JS E b_handsE [some househere_1, none, none, none, none] (F_handsE househere_1) NF NB NB W.ok := by
  unfold b_handsE F_handsE
  exact js_set (fun found_2 => [some househere_1, some found_2, none, none, none]) (je_fz (je_lst (ja_nil))) (fun _ => rfl) (fun found_2 => js_fgt [some househere_1, some found_2, none, none, none] rfl (js_each (fun (s_3 : D) => [some househere_1, some s_3, none, none, none]) (fun (s_3 : D) (y_5 : D × D) => [some househere_1, some s_3, some y_5.1, some y_5.2, none]) found_2 rfl (ji_s (je_e2 (je_b rfl) (je_fzc))) (fun _ => pk2) (fun s_3 y_5 => js_set (fun found_7 => [some househere_1, some found_7, some y_5.1, some y_5.2, none]) (je_fz (je_e2 (je_b rfl) (je_fz (je_lc (fun (y_6 : D) => [some househere_1, some s_3, some y_5.1, some y_5.2, some y_6]) (nn0 rfl) (ji_r1 (je_fzv rfl)) pk1 (fun y_6 => jt_yes) (fun y_6 => je_tup (ja_cons (je_fzv rfl) (ja_cons (je_fzv rfl) (ja_nil)))))))) (fun _ => rfl) (fun found_7 => js_fgt [some househere_1, some found_7, none, none, none] rfl (js_nil (⟨_, rfl, rfl⟩)))) (fun s_4 => js_retV rfl)))
theorem m_handsE (ds A Q) (h : sp1 F_handsE ds A Q (fun _ _ _ => False)) : b_handsE { nx := fun _ A' => Q .non A', rt := Q } (start3 N_handsE ds) A := by
  obtain ⟨househere_1, rfl, u⟩ := h
  exact js_def (fun E => j_handsE E _) u
/-- message(rest_here, hands_here, stamps); slots 0:rest_here 1:hands_here 2:stamps -/
def N_messageE : List Str := ["_law_rest_here", "_law_hands_here", "_law_stamps"]
def F_messageE (resthere_1 handshere_2 stamps_3 : D) : W D :=
  W.ite (W.andT (W.tT (W.b2 fGt (W.fzW (W.b2 fMod (W.ok (frz resthere_1)) (W.ok (.int 5)))) (W.ok (.int 0)))) (W.tT (W.b2 fNe (W.ok (frz stamps_3)) (W.fzW (W.lstA (W.anil)))))) (W.bind (W.b2 fIxA (W.ok (frz stamps_3)) (W.fzW (W.b2 fMod (W.fzW (W.b2 fFdiv (W.ok (frz resthere_1)) (W.ok (.int 5)))) (W.fzW (W.bN fLen (W.acons (W.ok (frz stamps_3)) (W.anil))))))) (W.ok)) (
  W.bind (W.tupA (W.acons (W.fzW (W.b2 fAdd (W.ok (.int 1)) (W.fzW (W.b2 fMod (W.fzW (W.b2 fFdiv (W.ok (frz resthere_1)) (W.ok (.int 5)))) (W.ok (.int 40)))))) (W.acons (W.fzW (W.b2 fIxA (W.ok (frz handshere_2)) (W.fzW (W.b2 fMod (W.fzW (W.b2 fFdiv (W.ok (frz resthere_1)) (W.ok (.int 200)))) (W.fzW (W.bN fLen (W.acons (W.ok (frz handshere_2)) (W.anil)))))))) (W.anil)))) (W.ok))
def b_messageE : TS3 := sSeq (sIf (tAnd3 (tV (e2 fGt (fz (e2 fMod (eB 0) (fz (eC (.int 5))))) (fz (eC (.int 0))))) (tV (e2 fNe (eB 2) (fz (eLst (aNil)))))) (sSeq (sRet (e2 fIxA (eB 2) (fz (e2 fMod (fz (e2 fFdiv (eB 0) (fz (eC (.int 5))))) (fz (eN fLen (aCons (eB 2) (aNil)))))))) (sNil)) (sNil)) (sSeq (sRet (eTup (aCons (fz (e2 fAdd (fz (eC (.int 1))) (fz (e2 fMod (fz (e2 fFdiv (eB 0) (fz (eC (.int 5))))) (fz (eC (.int 40))))))) (aCons (fz (e2 fIxA (eB 1) (fz (e2 fMod (fz (e2 fFdiv (eB 0) (fz (eC (.int 200))))) (fz (eN fLen (aCons (eB 1) (aNil)))))))) (aNil))))) (sNil))
theorem j_messageE (E : X3) (resthere_1 handshere_2 stamps_3 : D) : JS E b_messageE [some resthere_1, some handshere_2, some stamps_3] (F_messageE resthere_1 handshere_2 stamps_3) NF NB NB W.ok := by
  unfold b_messageE F_messageE
  exact js_if (jt_and (jt_val (je_e2 (je_fz (je_e2 (je_b rfl) (je_fzc))) (je_fzc))) (jt_val (je_e2 (je_b rfl) (je_fz (je_lst (ja_nil)))))) (js_assoc (js_ret (je_e2 (je_b rfl) (je_fz (je_e2 (je_fz (je_e2 (je_b rfl) (je_fzc))) (je_fz (je_eN (ja_cons (je_b rfl) (ja_nil))))))))) (js_nilseq (js_ret (je_tup (ja_cons (je_fz (je_e2 (je_fzc) (je_fz (je_e2 (je_fz (je_e2 (je_b rfl) (je_fzc))) (je_fzc))))) (ja_cons (je_fz (je_e2 (je_b rfl) (je_fz (je_e2 (je_fz (je_e2 (je_b rfl) (je_fzc))) (je_fz (je_eN (ja_cons (je_b rfl) (ja_nil)))))))) (ja_nil))))))
theorem m_messageE (ds A Q) (h : sp3 F_messageE ds A Q (fun _ _ _ => False)) : b_messageE { nx := fun _ A' => Q .non A', rt := Q } (start3 N_messageE ds) A := by
  obtain ⟨resthere_1, handshere_2, stamps_3, rfl, u⟩ := h
  exact js_def (fun E => j_messageE E _ _ _) u
/-- signs(); slots 0:some -/
def N_signs : List Str := ["_law_some"]
def F_signs : W D :=
  W.bind (W.ok (.str " !#$&'()*+,-./0123456789:;<=>?@ABCDEFGHIJKLMNOPQRSTUVWXYZ[]^_abcdefghijklmnopqrstuvwxyz{|}~")) fun some_1 =>
  W.bind (W.b2 fAdd (W.fzW (W.b2 fAdd (W.fzW (W.b2 fAdd (W.ok (frz some_1)) (W.ok (.str "\"")))) (W.ok (.str "\\")))) (W.ok (.str "`"))) (W.ok)
def b_signs : TS3 := sSeq (sSet 0 (eC (.str " !#$&'()*+,-./0123456789:;<=>?@ABCDEFGHIJKLMNOPQRSTUVWXYZ[]^_abcdefghijklmnopqrstuvwxyz{|}~"))) (sSeq (sRet (e2 fAdd (fz (e2 fAdd (fz (e2 fAdd (eB 0) (fz (eC (.str "\""))))) (fz (eC (.str "\\"))))) (fz (eC (.str "`"))))) (sNil))
theorem j_signs (E : X3)  : JS E b_signs [none] (F_signs ) NF NB NB W.ok := by
  unfold b_signs F_signs
  exact js_set (fun some_1 => [some some_1]) (je_c) (fun _ => rfl) (fun some_1 => js_ret (je_e2 (je_fz (je_e2 (je_fz (je_e2 (je_b rfl) (je_fzc))) (je_fzc))) (je_fzc)))
theorem m_signs (ds A Q) (h : sp0 F_signs ds A Q (fun _ _ _ => False)) : b_signs { nx := fun _ A' => Q .non A', rt := Q } (start3 N_signs ds) A := by
  obtain ⟨rfl, u⟩ := h
  exact js_def (fun E => j_signs E) u
/-- saying(rest_here, names); slots 0:rest_here 1:names 2:signs_here 3:text 4:many 5:k 6:pieces -/
def N_sayingE : List Str := ["_law_rest_here", "_law_names", "_law_signs_here", "_law_text", "_law_many", "_law_k", "_law_pieces"]
def F_sayingE (resthere_1 names_2 : D) : W D :=
  W.bind (W.fzW (W.s0 F_signs)) fun signshere_3 =>
  W.bind (W.ok (.str "")) fun text_4 =>
  W.ite (W.tT (W.b2 fEq (W.fzW (W.b2 fMod (W.ok (frz resthere_1)) (W.ok (.int 3)))) (W.ok (.int 0)))) (W.bind (W.fzW (W.b2 fAdd (W.ok (.int 1)) (W.fzW (W.b2 fMod (W.fzW (W.b2 fFdiv (W.ok (frz resthere_1)) (W.ok (.int 3)))) (W.ok (.int 60)))))) fun many_5 =>
  W.bind (W.b2 fFdiv (W.ok (frz resthere_1)) (W.ok (.int 180))) fun resthere_6 =>
  W.bind (W.iR1 (W.rd many_5)) fun it_12 => W.bind (W.each it_12.2 W.p1 (fun (s_7 : D × D) (y_9 : D) =>
  (W.bind (W.fzW (W.b2 fAdd (W.ok (frz s_7.2)) (W.fzW (W.b2 fIxA (W.ok (frz signshere_3)) (W.fzW (W.b2 fMod (W.ok (frz s_7.1)) (W.fzW (W.bN fLen (W.acons (W.ok (frz signshere_3)) (W.anil)))))))))) fun text_10 =>
  W.bind (W.b2 fFdiv (W.ok (frz s_7.1)) (W.fzW (W.bN fLen (W.acons (W.ok (frz signshere_3)) (W.anil))))) fun resthere_11 =>
  (W.ok (resthere_11, text_10) : W (D × D)) : W (D × D))) it_12.1 (resthere_6, text_4)) fun (s_8 : D × D) =>
  W.ok s_8.2) (
  W.bind (W.fzW (W.lstA (W.acons (W.ok (.str "@")) (W.acons (W.fzW (W.b2 fAdd (W.ok (.str "@")) (W.fzW (W.b2 fIxA (W.ok (frz names_2)) (W.ok (.int 0)))))) (W.acons (W.fzW (W.b2 fAdd (W.ok (.str "@")) (W.fzW (W.b2 fIxA (W.ok (frz names_2)) (W.fzW (W.b1 fNeg (W.ok (.int 1)))))))) (W.acons (W.ok (.str " ")) (W.acons (W.ok (.str "a")) (W.acons (W.fzW (W.b2 fIxA (W.ok (frz names_2)) (W.ok (.int 0)))) (W.acons (W.ok (.str ", ")) (W.acons (W.fzW (W.b2 fAdd (W.fzW (W.b2 fAdd (W.ok (.str "@")) (W.fzW (W.b2 fIxA (W.ok (frz names_2)) (W.ok (.int 0)))))) (W.ok (.str "s")))) (W.anil))))))))))) fun pieces_13 =>
  W.bind (W.iR1 (W.fzW (W.b2 fAdd (W.ok (.int 1)) (W.fzW (W.b2 fMod (W.fzW (W.b2 fFdiv (W.ok (frz resthere_1)) (W.ok (.int 3)))) (W.ok (.int 7))))))) fun it_19 => W.bind (W.each it_19.2 W.p1 (fun (s_14 : D × D) (y_16 : D) =>
  (W.bind (W.fzW (W.b2 fAdd (W.ok (frz s_14.2)) (W.fzW (W.b2 fIxA (W.ok (frz pieces_13)) (W.fzW (W.b2 fMod (W.fzW (W.b2 fFdiv (W.ok (frz s_14.1)) (W.ok (.int 21)))) (W.ok (.int 8)))))))) fun text_17 =>
  W.bind (W.b2 fFdiv (W.ok (frz s_14.1)) (W.ok (.int 8))) fun resthere_18 =>
  (W.ok (resthere_18, text_17) : W (D × D)) : W (D × D))) it_19.1 (resthere_1, text_4)) fun (s_15 : D × D) =>
  W.bind (W.bS (W.ok (frz s_15.2)) (W.oN) (W.oA (W.ok (.int 60)))) (W.ok))
def b_sayingE : TS3 := sSeq (sSet 2 (fz (eCall (sp0 F_signs) [] aNil))) (sSeq (sSet 3 (eC (.str ""))) (sSeq (sIf (tV (e2 fEq (fz (e2 fMod (eB 0) (fz (eC (.int 3))))) (fz (eC (.int 0))))) (sSeq (sSet 4 (fz (e2 fAdd (fz (eC (.int 1))) (fz (e2 fMod (fz (e2 fFdiv (eB 0) (fz (eC (.int 3))))) (fz (eC (.int 60)))))))) (sSeq (sSet 0 (e2 fFdiv (eB 0) (fz (eC (.int 180))))) (sFgt [5] (sSeq (sFor (iR1 (aCons (fz (eV 4)) (aNil))) (.nm 5) (sSeq (sSet 3 (fz (e2 fAdd (eB 3) (fz (e2 fIxA (eB 2) (fz (e2 fMod (eB 0) (fz (eN fLen (aCons (eB 2) (aNil))))))))))) (sSeq (sSet 0 (e2 fFdiv (eB 0) (fz (eN fLen (aCons (eB 2) (aNil)))))) (sFgt [5] (sNil))))) (sSeq (sRetV 3) (sNil)))))) (sNil)) (sSeq (sSet 6 (fz (eLst (aCons (fz (eC (.str "@"))) (aCons (fz (e2 fAdd (fz (eC (.str "@"))) (fz (e2 fIxA (eB 1) (fz (eC (.int 0))))))) (aCons (fz (e2 fAdd (fz (eC (.str "@"))) (fz (e2 fIxA (eB 1) (fz (e1 fNeg (fz (eC (.int 1))))))))) (aCons (fz (eC (.str " "))) (aCons (fz (eC (.str "a"))) (aCons (fz (e2 fIxA (eB 1) (fz (eC (.int 0))))) (aCons (fz (eC (.str ", "))) (aCons (fz (e2 fAdd (fz (e2 fAdd (fz (eC (.str "@"))) (fz (e2 fIxA (eB 1) (fz (eC (.int 0))))))) (fz (eC (.str "s"))))) (aNil)))))))))))) (sFgt [5] (sSeq (sFor (iR1 (aCons (fz (e2 fAdd (fz (eC (.int 1))) (fz (e2 fMod (fz (e2 fFdiv (eB 0) (fz (eC (.int 3))))) (fz (eC (.int 7))))))) (aNil))) (.nm 5) (sSeq (sSet 3 (fz (e2 fAdd (eB 3) (fz (e2 fIxA (eB 6) (fz (e2 fMod (fz (e2 fFdiv (eB 0) (fz (eC (.int 21))))) (fz (eC (.int 8)))))))))) (sSeq (sSet 0 (e2 fFdiv (eB 0) (fz (eC (.int 8))))) (sFgt [5] (sNil))))) (sSeq (sRet (eSl (eB 3) (oNo) (oAt (eC (.int 60))))) (sNil)))))))
theorem j_sayingE (E : X3) (resthere_1 names_2 : D) : JS E b_sayingE [some resthere_1, some names_2, none, none, none, none, none] (F_sayingE resthere_1 names_2) NF NB NB W.ok := by
  unfold b_sayingE F_sayingE
  exact js_set (fun signshere_3 => [some resthere_1, some names_2, some signshere_3, none, none, none, none]) (je_fz (je_s0)) (fun _ => rfl) (fun signshere_3 => js_set (fun text_4 => [some resthere_1, some names_2, some signshere_3, some text_4, none, none, none]) (je_c) (fun _ => rfl) (fun text_4 => js_if (jt_val (je_e2 (je_fz (je_e2 (je_b rfl) (je_fzc))) (je_fzc))) (js_assoc (js_set (fun many_5 => [some resthere_1, some names_2, some signshere_3, some text_4, some many_5, none, none]) (je_fz (je_e2 (je_fzc) (je_fz (je_e2 (je_fz (je_e2 (je_b rfl) (je_fzc))) (je_fzc))))) (fun _ => rfl) (fun many_5 => js_assoc (js_set (fun resthere_6 => [some resthere_6, some names_2, some signshere_3, some text_4, some many_5, none, none]) (je_e2 (je_b rfl) (je_fzc)) (fun _ => rfl) (fun resthere_6 => js_fgts [some resthere_6, some names_2, some signshere_3, some text_4, some many_5, none, none] rfl (js_assoc (js_each (fun (s_7 : D × D) => [some s_7.1, some names_2, some signshere_3, some s_7.2, some many_5, none, none]) (fun (s_7 : D × D) (y_9 : D) => [some s_7.1, some names_2, some signshere_3, some s_7.2, some many_5, some y_9, none]) (resthere_6, text_4) rfl (ji_r1 (je_fzv rfl)) (fun _ => pk1) (fun s_7 y_9 => js_set (fun text_10 => [some s_7.1, some names_2, some signshere_3, some text_10, some many_5, some y_9, none]) (je_fz (je_e2 (je_b rfl) (je_fz (je_e2 (je_b rfl) (je_fz (je_e2 (je_b rfl) (je_fz (je_eN (ja_cons (je_b rfl) (ja_nil)))))))))) (fun _ => rfl) (fun text_10 => js_set (fun resthere_11 => [some resthere_11, some names_2, some signshere_3, some text_10, some many_5, some y_9, none]) (je_e2 (je_b rfl) (je_fz (je_eN (ja_cons (je_b rfl) (ja_nil))))) (fun _ => rfl) (fun resthere_11 => js_fgt [some resthere_11, some names_2, some signshere_3, some text_10, some many_5, none, none] rfl (js_nil (⟨_, rfl, rfl⟩))))) (fun s_8 => js_assoc (js_retV rfl))))))))) (js_nilseq (js_set (fun pieces_13 => [some resthere_1, some names_2, some signshere_3, some text_4, none, none, some pieces_13]) (je_fz (je_lst (ja_cons (je_fzc) (ja_cons (je_fz (je_e2 (je_fzc) (je_fz (je_e2 (je_b rfl) (je_fzc))))) (ja_cons (je_fz (je_e2 (je_fzc) (je_fz (je_e2 (je_b rfl) (je_fz (je_e1 (je_fzc))))))) (ja_cons (je_fzc) (ja_cons (je_fzc) (ja_cons (je_fz (je_e2 (je_b rfl) (je_fzc))) (ja_cons (je_fzc) (ja_cons (je_fz (je_e2 (je_fz (je_e2 (je_fzc) (je_fz (je_e2 (je_b rfl) (je_fzc))))) (je_fzc))) (ja_nil))))))))))) (fun _ => rfl) (fun pieces_13 => js_fgt [some resthere_1, some names_2, some signshere_3, some text_4, none, none, some pieces_13] rfl (js_each (fun (s_14 : D × D) => [some s_14.1, some names_2, some signshere_3, some s_14.2, none, none, some pieces_13]) (fun (s_14 : D × D) (y_16 : D) => [some s_14.1, some names_2, some signshere_3, some s_14.2, none, some y_16, some pieces_13]) (resthere_1, text_4) rfl (ji_r1 (je_fz (je_e2 (je_fzc) (je_fz (je_e2 (je_fz (je_e2 (je_b rfl) (je_fzc))) (je_fzc)))))) (fun _ => pk1) (fun s_14 y_16 => js_set (fun text_17 => [some s_14.1, some names_2, some signshere_3, some text_17, none, some y_16, some pieces_13]) (je_fz (je_e2 (je_b rfl) (je_fz (je_e2 (je_b rfl) (je_fz (je_e2 (je_fz (je_e2 (je_b rfl) (je_fzc))) (je_fzc))))))) (fun _ => rfl) (fun text_17 => js_set (fun resthere_18 => [some resthere_18, some names_2, some signshere_3, some text_17, none, some y_16, some pieces_13]) (je_e2 (je_b rfl) (je_fzc)) (fun _ => rfl) (fun resthere_18 => js_fgt [some resthere_18, some names_2, some signshere_3, some text_17, none, none, some pieces_13] rfl (js_nil (⟨_, rfl, rfl⟩))))) (fun s_15 => js_ret (je_sl (je_b rfl) (jo_no) (jo_at (je_c))))))))))
theorem m_sayingE (ds A Q) (h : sp2 F_sayingE ds A Q (fun _ _ _ => False)) : b_sayingE { nx := fun _ A' => Q .non A', rt := Q } (start3 N_sayingE ds) A := by
  obtain ⟨resthere_1, names_2, rfl, u⟩ := h
  exact js_def (fun E => j_sayingE E _ _) u
/-- vector(rest_here, hands_here); slots 0:rest_here 1:hands_here 2:found 3:hand -/
def N_vectorE : List Str := ["_law_rest_here", "_law_hands_here", "_law_found", "_law_hand"]
def F_vectorE (resthere_1 handshere_2 : D) : W D :=
  W.bind (W.lstA (W.anil)) fun found_3 =>
  W.bind (W.iS (W.rd handshere_2)) fun it_10 => W.bind (W.each it_10.2 W.p1 (fun (s_4 : D × D) (y_6 : D) =>
  (W.bind (W.ite (W.tT (W.b2 fGt (W.fzW (W.b2 fMod (W.ok (frz s_4.1)) (W.ok (.int 3)))) (W.ok (.int 0)))) (W.bind (W.mu okL gAppend s_4.2 (W.acons (W.fzW (W.tupA (W.acons (W.rd y_6) (W.acons (W.fzW (W.b2 fAdd (W.ok (.int 1)) (W.fzW (W.b2 fMod (W.fzW (W.b2 fFdiv (W.ok (frz s_4.1)) (W.ok (.int 3)))) (W.fzW (W.b2 fIxA (W.fzW (W.lstA (W.acons (W.ok (.int 4)) (W.acons (W.ok (.int 60)) (W.anil))))) (W.fzW (W.b2 fSub (W.fzW (W.b2 fMod (W.ok (frz s_4.1)) (W.ok (.int 3)))) (W.ok (.int 1)))))))))) (W.anil))))) (W.anil))) fun found_7 =>
  W.ok found_7 : W (D)) (W.ok s_4.2)) fun (s_8 : D) =>
  W.bind (W.b2 fFdiv (W.ok (frz s_4.1)) (W.ok (.int 180))) fun resthere_9 =>
  (W.ok (resthere_9, s_8) : W (D × D)) : W (D × D))) it_10.1 (resthere_1, found_3)) fun (s_5 : D × D) =>
  W.bind (W.bN fTuple (W.acons (W.ok (frz s_5.2)) (W.anil))) (W.ok)
def b_vectorE : TS3 := sSeq (sSet 2 (eLst (aNil))) (sFgt [3] (sSeq (sFor (iS (eV 1)) (.nm 3) (sSeq (sIf (tV (e2 fGt (fz (e2 fMod (eB 0) (fz (eC (.int 3))))) (fz (eC (.int 0))))) (sSeq (sM 2 okL gAppend (aCons (fz (eTup (aCons (fz (eV 3)) (aCons (fz (e2 fAdd (fz (eC (.int 1))) (fz (e2 fMod (fz (e2 fFdiv (eB 0) (fz (eC (.int 3))))) (fz (e2 fIxA (fz (eLst (aCons (fz (eC (.int 4))) (aCons (fz (eC (.int 60))) (aNil))))) (fz (e2 fSub (fz (e2 fMod (eB 0) (fz (eC (.int 3))))) (fz (eC (.int 1))))))))))) (aNil))))) (aNil)) kDrop) (sNil)) (sNil)) (sSeq (sSet 0 (e2 fFdiv (eB 0) (fz (eC (.int 180))))) (sFgt [3] (sNil))))) (sSeq (sRet (eN fTuple (aCons (eB 2) (aNil)))) (sNil))))
theorem j_vectorE (E : X3) (resthere_1 handshere_2 : D) : JS E b_vectorE [some resthere_1, some handshere_2, none, none] (F_vectorE resthere_1 handshere_2) NF NB NB W.ok := by
  unfold b_vectorE F_vectorE
  exact js_set (fun found_3 => [some resthere_1, some handshere_2, some found_3, none]) (je_lst (ja_nil)) (fun _ => rfl) (fun found_3 => js_fgt [some resthere_1, some handshere_2, some found_3, none] rfl (js_each (fun (s_4 : D × D) => [some s_4.1, some handshere_2, some s_4.2, none]) (fun (s_4 : D × D) (y_6 : D) => [some s_4.1, some handshere_2, some s_4.2, some y_6]) (resthere_1, found_3) rfl (ji_s (je_v rfl)) (fun _ => pk1) (fun s_4 y_6 => js_join (fun (s_8 : D) => [some s_4.1, some handshere_2, some s_8, some y_6]) (jt_val (je_e2 (je_fz (je_e2 (je_b rfl) (je_fzc))) (je_fzc))) (js_mu (fun found_7 => [some s_4.1, some handshere_2, some found_7, some y_6]) rfl (ja_cons (je_fz (je_tup (ja_cons (je_fzv rfl) (ja_cons (je_fz (je_e2 (je_fzc) (je_fz (je_e2 (je_fz (je_e2 (je_b rfl) (je_fzc))) (je_fz (je_e2 (je_fz (je_lst (ja_cons (je_fzc) (ja_cons (je_fzc) (ja_nil))))) (je_fz (je_e2 (je_fz (je_e2 (je_b rfl) (je_fzc))) (je_fzc))))))))) (ja_nil))))) (ja_nil)) (fun _ => rfl) (fun found_7 => js_nil (⟨_, rfl, rfl⟩))) (js_nil (⟨_, rfl, rfl⟩)) (fun s_8 => js_set (fun resthere_9 => [some resthere_9, some handshere_2, some s_8, some y_6]) (je_e2 (je_b rfl) (je_fzc)) (fun _ => rfl) (fun resthere_9 => js_fgt [some resthere_9, some handshere_2, some s_8, none] rfl (js_nil (⟨_, rfl, rfl⟩))))) (fun s_5 => js_ret (je_eN (ja_cons (je_b rfl) (ja_nil))))))
theorem m_vectorE (ds A Q) (h : sp2 F_vectorE ds A Q (fun _ _ _ => False)) : b_vectorE { nx := fun _ A' => Q .non A', rt := Q } (start3 N_vectorE ds) A := by
  obtain ⟨resthere_1, handshere_2, rfl, u⟩ := h
  exact js_def (fun E => j_vectorE E _ _) u
/-- what(rest_here, house_here, hands_here, stamps); slots 0:rest_here 1:house_here 2:hands_here 3:stamps -/
def N_whatE : List Str := ["_law_rest_here", "_law_house_here", "_law_hands_here", "_law_stamps"]
def F_whatE (resthere_1 househere_2 handshere_3 stamps_4 : D) : W D :=
  W.ite (W.tT (W.b2 fEq (W.fzW (W.b2 fMod (W.ok (frz resthere_1)) (W.ok (.int 3)))) (W.ok (.int 0)))) (W.bind (W.tupA (W.acons (W.ok (.str "room")) (W.acons (W.fzW (W.b2 fIxA (W.fzW (W.b2 fIxA (W.fzW (W.b2 fIxA (W.ok (frz househere_2)) (W.ok (.int 1)))) (W.fzW (W.b2 fMod (W.fzW (W.b2 fFdiv (W.ok (frz resthere_1)) (W.ok (.int 3)))) (W.fzW (W.bN fLen (W.acons (W.fzW (W.b2 fIxA (W.ok (frz househere_2)) (W.ok (.int 1)))) (W.anil)))))))) (W.ok (.int 0)))) (W.anil)))) (W.ok)) (
  W.ite (W.tT (W.b2 fEq (W.fzW (W.b2 fMod (W.ok (frz resthere_1)) (W.ok (.int 3)))) (W.ok (.int 1)))) (W.bind (W.tupA (W.acons (W.ok (.str "person")) (W.acons (W.fzW (W.b2 fIxA (W.fzW (W.b2 fIxA (W.fzW (W.b2 fIxA (W.ok (frz househere_2)) (W.ok (.int 0)))) (W.fzW (W.b2 fMod (W.fzW (W.b2 fFdiv (W.ok (frz resthere_1)) (W.ok (.int 3)))) (W.fzW (W.bN fLen (W.acons (W.fzW (W.b2 fIxA (W.ok (frz househere_2)) (W.ok (.int 0)))) (W.anil)))))))) (W.ok (.int 0)))) (W.anil)))) (W.ok)) (
  W.bind (W.tupA (W.acons (W.ok (.str "under")) (W.acons (W.fzW (W.s3 F_messageE (W.fzW (W.b2 fFdiv (W.ok (frz resthere_1)) (W.ok (.int 3)))) (W.rd handshere_3) (W.rd stamps_4))) (W.anil)))) (W.ok)))
def b_whatE : TS3 := sSeq (sIf (tV (e2 fEq (fz (e2 fMod (eB 0) (fz (eC (.int 3))))) (fz (eC (.int 0))))) (sSeq (sRet (eTup (aCons (fz (eC (.str "room"))) (aCons (fz (e2 fIxA (fz (e2 fIxA (fz (e2 fIxA (eB 1) (fz (eC (.int 1))))) (fz (e2 fMod (fz (e2 fFdiv (eB 0) (fz (eC (.int 3))))) (fz (eN fLen (aCons (fz (e2 fIxA (eB 1) (fz (eC (.int 1))))) (aNil)))))))) (fz (eC (.int 0))))) (aNil))))) (sNil)) (sNil)) (sSeq (sIf (tV (e2 fEq (fz (e2 fMod (eB 0) (fz (eC (.int 3))))) (fz (eC (.int 1))))) (sSeq (sRet (eTup (aCons (fz (eC (.str "person"))) (aCons (fz (e2 fIxA (fz (e2 fIxA (fz (e2 fIxA (eB 1) (fz (eC (.int 0))))) (fz (e2 fMod (fz (e2 fFdiv (eB 0) (fz (eC (.int 3))))) (fz (eN fLen (aCons (fz (e2 fIxA (eB 1) (fz (eC (.int 0))))) (aNil)))))))) (fz (eC (.int 0))))) (aNil))))) (sNil)) (sNil)) (sSeq (sRet (eTup (aCons (fz (eC (.str "under"))) (aCons (fz (eCall (sp3 F_messageE) [] (aCons (fz (e2 fFdiv (eB 0) (fz (eC (.int 3))))) (aCons (fz (eV 2)) (aCons (fz (eV 3)) (aNil)))))) (aNil))))) (sNil)))
theorem j_whatE (E : X3) (resthere_1 househere_2 handshere_3 stamps_4 : D) : JS E b_whatE [some resthere_1, some househere_2, some handshere_3, some stamps_4] (F_whatE resthere_1 househere_2 handshere_3 stamps_4) NF NB NB W.ok := by
  unfold b_whatE F_whatE
  exact js_if (jt_val (je_e2 (je_fz (je_e2 (je_b rfl) (je_fzc))) (je_fzc))) (js_assoc (js_ret (je_tup (ja_cons (je_fzc) (ja_cons (je_fz (je_e2 (je_fz (je_e2 (je_fz (je_e2 (je_b rfl) (je_fzc))) (je_fz (je_e2 (je_fz (je_e2 (je_b rfl) (je_fzc))) (je_fz (je_eN (ja_cons (je_fz (je_e2 (je_b rfl) (je_fzc))) (ja_nil)))))))) (je_fzc))) (ja_nil)))))) (js_nilseq (js_if (jt_val (je_e2 (je_fz (je_e2 (je_b rfl) (je_fzc))) (je_fzc))) (js_assoc (js_ret (je_tup (ja_cons (je_fzc) (ja_cons (je_fz (je_e2 (je_fz (je_e2 (je_fz (je_e2 (je_b rfl) (je_fzc))) (je_fz (je_e2 (je_fz (je_e2 (je_b rfl) (je_fzc))) (je_fz (je_eN (ja_cons (je_fz (je_e2 (je_b rfl) (je_fzc))) (ja_nil)))))))) (je_fzc))) (ja_nil)))))) (js_nilseq (js_ret (je_tup (ja_cons (je_fzc) (ja_cons (je_fz (je_s3 (je_fz (je_e2 (je_b rfl) (je_fzc))) (je_fzv rfl) (je_fzv rfl))) (ja_nil))))))))
theorem m_whatE (ds A Q) (h : sp4 F_whatE ds A Q (fun _ _ _ => False)) : b_whatE { nx := fun _ A' => Q .non A', rt := Q } (start3 N_whatE ds) A := by
  obtain ⟨resthere_1, househere_2, handshere_3, stamps_4, rfl, u⟩ := h
  exact js_def (fun E => j_whatE E _ _ _ _) u
/-- act(rest_here, house_here, hands_here, stamps); slots 0:rest_here 1:house_here 2:hands_here 3:stamps 4:kind 5:room 6:under 7:message_here 8:sort 9:name 10:many -/
def N_actE : List Str := ["_law_rest_here", "_law_house_here", "_law_hands_here", "_law_stamps", "_law_kind", "_law_room", "_law_under", "_law_message_here", "_law_sort", "_law_name", "_law_many"]
def F_actE (resthere_1 househere_2 handshere_3 stamps_4 : D) : W D :=
  W.bind (W.b2 fMod (W.ok (frz resthere_1)) (W.ok (.int 12))) fun kind_5 =>
  W.bind (W.b2 fFdiv (W.ok (frz resthere_1)) (W.ok (.int 12))) fun resthere_6 =>
  W.bind (W.b2 fIxA (W.fzW (W.b2 fIxA (W.fzW (W.b2 fIxA (W.ok (frz househere_2)) (W.ok (.int 1)))) (W.fzW (W.b2 fMod (W.ok (frz resthere_6)) (W.fzW (W.bN fLen (W.acons (W.fzW (W.b2 fIxA (W.ok (frz househere_2)) (W.ok (.int 1)))) (W.anil)))))))) (W.ok (.int 0))) fun room_7 =>
  W.ite (W.tT (W.b2 fLt (W.ok (frz kind_5)) (W.ok (.int 4)))) (W.bind (W.fzW (W.s3 F_messageE (W.fzW (W.b2 fFdiv (W.ok (frz resthere_6)) (W.ok (.int 16)))) (W.rd handshere_3) (W.rd stamps_4))) fun under_8 =>
  W.bind (W.ite (W.tT (W.b2 fLt (W.fzW (W.b2 fMod (W.fzW (W.b2 fFdiv (W.ok (frz resthere_6)) (W.ok (.int 4)))) (W.ok (.int 4)))) (W.ok (.int 2)))) (W.bind (W.ok .non) fun under_9 =>
  W.ok under_9 : W (D)) (W.ok under_8)) fun (s_10 : D) =>
  W.bind (W.tupA (W.acons (W.ok (.str "say")) (W.acons (W.rd room_7) (W.acons (W.rd s_10) (W.acons (W.fzW (W.s2 F_sayingE (W.fzW (W.b2 fFdiv (W.ok (frz resthere_6)) (W.ok (.int 1000003)))) (W.fzW (W.lc (W.iS (W.b2 fIxA (W.ok (frz househere_2)) (W.ok (.int 0)))) W.p2 (fun (y_11 : D × D) => W.ok true) (fun (y_11 : D × D) => W.rd y_11.1))))) (W.anil)))))) (W.ok)) (
  W.ite (W.tT (W.b2 fEq (W.ok (frz kind_5)) (W.ok (.int 4)))) (W.bind (W.tupA (W.acons (W.ok (.str "read")) (W.acons (W.rd room_7) (W.acons (W.fzW (W.s2 F_vectorE (W.fzW (W.b2 fFdiv (W.ok (frz resthere_6)) (W.ok (.int 4)))) (W.rd handshere_3))) (W.anil))))) (W.ok)) (
  W.ite (W.tT (W.b2 fEq (W.ok (frz kind_5)) (W.ok (.int 5)))) (W.bind (W.tupA (W.acons (W.ok (.str "hush")) (W.acons (W.fzW (W.s4 F_whatE (W.fzW (W.b2 fFdiv (W.ok (frz resthere_6)) (W.ok (.int 2)))) (W.rd househere_2) (W.rd handshere_3) (W.rd stamps_4))) (W.acons (W.fzW (W.b2 fEq (W.fzW (W.b2 fMod (W.ok (frz resthere_6)) (W.ok (.int 2)))) (W.ok (.int 1)))) (W.anil))))) (W.ok)) (
  W.bind (W.fzW (W.s3 F_messageE (W.fzW (W.b2 fFdiv (W.ok (frz resthere_6)) (W.ok (.int 64)))) (W.rd handshere_3) (W.rd stamps_4))) fun messagehere_12 =>
  W.ite (W.tT (W.b2 fLt (W.ok (frz kind_5)) (W.ok (.int 8)))) (W.bind (W.tupA (W.acons (W.ok (.str "change")) (W.acons (W.rd messagehere_12) (W.acons (W.fzW (W.s2 F_sayingE (W.fzW (W.b2 fFdiv (W.ok (frz resthere_6)) (W.ok (.int 1000003)))) (W.fzW (W.lc (W.iS (W.b2 fIxA (W.ok (frz househere_2)) (W.ok (.int 0)))) W.p2 (fun (y_13 : D × D) => W.ok true) (fun (y_13 : D × D) => W.rd y_13.1))))) (W.anil))))) (W.ok)) (
  W.ite (W.tT (W.b2 fLt (W.ok (frz kind_5)) (W.ok (.int 10)))) (W.bind (W.b2 fIxA (W.fzW (W.lstA (W.acons (W.ok (.str "good")) (W.acons (W.ok (.str "well")) (W.acons (W.ok (.str "a")) (W.acons (W.ok (.str "sad")) (W.anil))))))) (W.fzW (W.b2 fMod (W.fzW (W.b2 fFdiv (W.ok (frz resthere_6)) (W.ok (.int 2)))) (W.ok (.int 4))))) fun sort_14 =>
  W.bind (W.tupA (W.acons (W.ok (.str "like")) (W.acons (W.rd messagehere_12) (W.acons (W.rd sort_14) (W.acons (W.fzW (W.b2 fEq (W.fzW (W.b2 fMod (W.ok (frz resthere_6)) (W.ok (.int 2)))) (W.ok (.int 1)))) (W.anil)))))) (W.ok)) (
  W.bind (W.tupA (W.acons (W.fzW (W.b2 fIxA (W.fzW (W.b2 fIxA (W.fzW (W.lstA (W.acons (W.fzW (W.lstA (W.acons (W.ok (.str "back")) (W.acons (W.ok (.str "seen")) (W.anil))))) (W.acons (W.fzW (W.lstA (W.acons (W.ok (.str "seen")) (W.acons (W.ok (.str "rung")) (W.anil))))) (W.anil))))) (W.fzW (W.b2 fSub (W.ok (frz kind_5)) (W.ok (.int 10)))))) (W.fzW (W.b2 fMod (W.ok (frz resthere_6)) (W.ok (.int 2)))))) (W.acons (W.rd messagehere_12) (W.anil)))) (W.ok))))))
def b_actE : TS3 := sSeq (sSet 4 (e2 fMod (eB 0) (fz (eC (.int 12))))) (sSeq (sSet 0 (e2 fFdiv (eB 0) (fz (eC (.int 12))))) (sSeq (sSet 5 (e2 fIxA (fz (e2 fIxA (fz (e2 fIxA (eB 1) (fz (eC (.int 1))))) (fz (e2 fMod (eB 0) (fz (eN fLen (aCons (fz (e2 fIxA (eB 1) (fz (eC (.int 1))))) (aNil)))))))) (fz (eC (.int 0))))) (sSeq (sIf (tV (e2 fLt (eB 4) (fz (eC (.int 4))))) (sSeq (sSet 6 (fz (eCall (sp3 F_messageE) [] (aCons (fz (e2 fFdiv (eB 0) (fz (eC (.int 16))))) (aCons (fz (eV 2)) (aCons (fz (eV 3)) (aNil))))))) (sSeq (sIf (tV (e2 fLt (fz (e2 fMod (fz (e2 fFdiv (eB 0) (fz (eC (.int 4))))) (fz (eC (.int 4))))) (fz (eC (.int 2))))) (sSeq (sSet 6 (eC .non)) (sNil)) (sNil)) (sSeq (sRet (eTup (aCons (fz (eC (.str "say"))) (aCons (fz (eV 5)) (aCons (fz (eV 6)) (aCons (fz (eCall (sp2 F_sayingE) [] (aCons (fz (e2 fFdiv (eB 0) (fz (eC (.int 1000003))))) (aCons (fz (eLc (iS (e2 fIxA (eB 1) (fz (eC (.int 0))))) (.tp [9, 10]) (tYes3) (eV 9) [9, 10])) (aNil))))) (aNil))))))) (sNil)))) (sNil)) (sSeq (sIf (tV (e2 fEq (eB 4) (fz (eC (.int 4))))) (sSeq (sRet (eTup (aCons (fz (eC (.str "read"))) (aCons (fz (eV 5)) (aCons (fz (eCall (sp2 F_vectorE) [] (aCons (fz (e2 fFdiv (eB 0) (fz (eC (.int 4))))) (aCons (fz (eV 2)) (aNil))))) (aNil)))))) (sNil)) (sNil)) (sSeq (sIf (tV (e2 fEq (eB 4) (fz (eC (.int 5))))) (sSeq (sRet (eTup (aCons (fz (eC (.str "hush"))) (aCons (fz (eCall (sp4 F_whatE) [] (aCons (fz (e2 fFdiv (eB 0) (fz (eC (.int 2))))) (aCons (fz (eV 1)) (aCons (fz (eV 2)) (aCons (fz (eV 3)) (aNil))))))) (aCons (fz (e2 fEq (fz (e2 fMod (eB 0) (fz (eC (.int 2))))) (fz (eC (.int 1))))) (aNil)))))) (sNil)) (sNil)) (sSeq (sSet 7 (fz (eCall (sp3 F_messageE) [] (aCons (fz (e2 fFdiv (eB 0) (fz (eC (.int 64))))) (aCons (fz (eV 2)) (aCons (fz (eV 3)) (aNil))))))) (sSeq (sIf (tV (e2 fLt (eB 4) (fz (eC (.int 8))))) (sSeq (sRet (eTup (aCons (fz (eC (.str "change"))) (aCons (fz (eV 7)) (aCons (fz (eCall (sp2 F_sayingE) [] (aCons (fz (e2 fFdiv (eB 0) (fz (eC (.int 1000003))))) (aCons (fz (eLc (iS (e2 fIxA (eB 1) (fz (eC (.int 0))))) (.tp [9, 10]) (tYes3) (eV 9) [9, 10])) (aNil))))) (aNil)))))) (sNil)) (sNil)) (sSeq (sIf (tV (e2 fLt (eB 4) (fz (eC (.int 10))))) (sSeq (sSet 8 (e2 fIxA (fz (eLst (aCons (fz (eC (.str "good"))) (aCons (fz (eC (.str "well"))) (aCons (fz (eC (.str "a"))) (aCons (fz (eC (.str "sad"))) (aNil))))))) (fz (e2 fMod (fz (e2 fFdiv (eB 0) (fz (eC (.int 2))))) (fz (eC (.int 4))))))) (sSeq (sRet (eTup (aCons (fz (eC (.str "like"))) (aCons (fz (eV 7)) (aCons (fz (eV 8)) (aCons (fz (e2 fEq (fz (e2 fMod (eB 0) (fz (eC (.int 2))))) (fz (eC (.int 1))))) (aNil))))))) (sNil))) (sNil)) (sSeq (sRet (eTup (aCons (fz (e2 fIxA (fz (e2 fIxA (fz (eLst (aCons (fz (eLst (aCons (fz (eC (.str "back"))) (aCons (fz (eC (.str "seen"))) (aNil))))) (aCons (fz (eLst (aCons (fz (eC (.str "seen"))) (aCons (fz (eC (.str "rung"))) (aNil))))) (aNil))))) (fz (e2 fSub (eB 4) (fz (eC (.int 10))))))) (fz (e2 fMod (eB 0) (fz (eC (.int 2))))))) (aCons (fz (eV 7)) (aNil))))) (sNil))))))))))
theorem j_actE (E : X3) (resthere_1 househere_2 handshere_3 stamps_4 : D) : JS E b_actE [some resthere_1, some househere_2, some handshere_3, some stamps_4, none, none, none, none, none, none, none] (F_actE resthere_1 househere_2 handshere_3 stamps_4) NF NB NB W.ok := by
  unfold b_actE F_actE
  exact js_set (fun kind_5 => [some resthere_1, some househere_2, some handshere_3, some stamps_4, some kind_5, none, none, none, none, none, none]) (je_e2 (je_b rfl) (je_fzc)) (fun _ => rfl) (fun kind_5 => js_set (fun resthere_6 => [some resthere_6, some househere_2, some handshere_3, some stamps_4, some kind_5, none, none, none, none, none, none]) (je_e2 (je_b rfl) (je_fzc)) (fun _ => rfl) (fun resthere_6 => js_set (fun room_7 => [some resthere_6, some househere_2, some handshere_3, some stamps_4, some kind_5, some room_7, none, none, none, none, none]) (je_e2 (je_fz (je_e2 (je_fz (je_e2 (je_b rfl) (je_fzc))) (je_fz (je_e2 (je_b rfl) (je_fz (je_eN (ja_cons (je_fz (je_e2 (je_b rfl) (je_fzc))) (ja_nil)))))))) (je_fzc)) (fun _ => rfl) (fun room_7 => js_if (jt_val (je_e2 (je_b rfl) (je_fzc))) (js_assoc (js_set (fun under_8 => [some resthere_6, some househere_2, some handshere_3, some stamps_4, some kind_5, some room_7, some under_8, none, none, none, none]) (je_fz (je_s3 (je_fz (je_e2 (je_b rfl) (je_fzc))) (je_fzv rfl) (je_fzv rfl))) (fun _ => rfl) (fun under_8 => js_assoc (js_join (fun (s_10 : D) => [some resthere_6, some househere_2, some handshere_3, some stamps_4, some kind_5, some room_7, some s_10, none, none, none, none]) (jt_val (je_e2 (je_fz (je_e2 (je_fz (je_e2 (je_b rfl) (je_fzc))) (je_fzc))) (je_fzc))) (js_set (fun under_9 => [some resthere_6, some househere_2, some handshere_3, some stamps_4, some kind_5, some room_7, some under_9, none, none, none, none]) (je_c) (fun _ => rfl) (fun under_9 => js_nil (⟨_, rfl, rfl⟩))) (js_nil (⟨_, rfl, rfl⟩)) (fun s_10 => js_assoc (js_ret (je_tup (ja_cons (je_fzc) (ja_cons (je_fzv rfl) (ja_cons (je_fzv rfl) (ja_cons (je_fz (je_s2 (je_fz (je_e2 (je_b rfl) (je_fzc))) (je_fz (je_lc (fun (y_11 : D × D) => [some resthere_6, some househere_2, some handshere_3, some stamps_4, some kind_5, some room_7, some s_10, none, none, some y_11.1, some y_11.2]) (nn0 rfl) (ji_s (je_e2 (je_b rfl) (je_fzc))) pk2 (fun y_11 => jt_yes) (fun y_11 => je_v rfl))))) (ja_nil)))))))))))) (js_nilseq (js_if (jt_val (je_e2 (je_b rfl) (je_fzc))) (js_assoc (js_ret (je_tup (ja_cons (je_fzc) (ja_cons (je_fzv rfl) (ja_cons (je_fz (je_s2 (je_fz (je_e2 (je_b rfl) (je_fzc))) (je_fzv rfl))) (ja_nil))))))) (js_nilseq (js_if (jt_val (je_e2 (je_b rfl) (je_fzc))) (js_assoc (js_ret (je_tup (ja_cons (je_fzc) (ja_cons (je_fz (je_s4 (je_fz (je_e2 (je_b rfl) (je_fzc))) (je_fzv rfl) (je_fzv rfl) (je_fzv rfl))) (ja_cons (je_fz (je_e2 (je_fz (je_e2 (je_b rfl) (je_fzc))) (je_fzc))) (ja_nil))))))) (js_nilseq (js_set (fun messagehere_12 => [some resthere_6, some househere_2, some handshere_3, some stamps_4, some kind_5, some room_7, none, some messagehere_12, none, none, none]) (je_fz (je_s3 (je_fz (je_e2 (je_b rfl) (je_fzc))) (je_fzv rfl) (je_fzv rfl))) (fun _ => rfl) (fun messagehere_12 => js_if (jt_val (je_e2 (je_b rfl) (je_fzc))) (js_assoc (js_ret (je_tup (ja_cons (je_fzc) (ja_cons (je_fzv rfl) (ja_cons (je_fz (je_s2 (je_fz (je_e2 (je_b rfl) (je_fzc))) (je_fz (je_lc (fun (y_13 : D × D) => [some resthere_6, some househere_2, some handshere_3, some stamps_4, some kind_5, some room_7, none, some messagehere_12, none, some y_13.1, some y_13.2]) (nn0 rfl) (ji_s (je_e2 (je_b rfl) (je_fzc))) pk2 (fun y_13 => jt_yes) (fun y_13 => je_v rfl))))) (ja_nil))))))) (js_nilseq (js_if (jt_val (je_e2 (je_b rfl) (je_fzc))) (js_assoc (js_set (fun sort_14 => [some resthere_6, some househere_2, some handshere_3, some stamps_4, some kind_5, some room_7, none, some messagehere_12, some sort_14, none, none]) (je_e2 (je_fz (je_lst (ja_cons (je_fzc) (ja_cons (je_fzc) (ja_cons (je_fzc) (ja_cons (je_fzc) (ja_nil))))))) (je_fz (je_e2 (je_fz (je_e2 (je_b rfl) (je_fzc))) (je_fzc)))) (fun _ => rfl) (fun sort_14 => js_assoc (js_ret (je_tup (ja_cons (je_fzc) (ja_cons (je_fzv rfl) (ja_cons (je_fzv rfl) (ja_cons (je_fz (je_e2 (je_fz (je_e2 (je_b rfl) (je_fzc))) (je_fzc))) (ja_nil)))))))))) (js_nilseq (js_ret (je_tup (ja_cons (je_fz (je_e2 (je_fz (je_e2 (je_fz (je_lst (ja_cons (je_fz (je_lst (ja_cons (je_fzc) (ja_cons (je_fzc) (ja_nil))))) (ja_cons (je_fz (je_lst (ja_cons (je_fzc) (ja_cons (je_fzc) (ja_nil))))) (ja_nil))))) (je_fz (je_e2 (je_b rfl) (je_fzc))))) (je_fz (je_e2 (je_b rfl) (je_fzc))))) (ja_cons (je_fzv rfl) (ja_nil))))))))))))))))))
theorem m_actE (ds A Q) (h : sp4 F_actE ds A Q (fun _ _ _ => False)) : b_actE { nx := fun _ A' => Q .non A', rt := Q } (start3 N_actE ds) A := by
  obtain ⟨resthere_1, househere_2, handshere_3, stamps_4, rfl, u⟩ := h
  exact js_def (fun E => j_actE E _ _ _ _) u
/-- log(cells, house_here); slots 0:cells 1:house_here 2:hands_here 3:stamps 4:times 5:counts 6:deeds 7:cell 8:rest_here 9:hand 10:time 11:act_here 12:other -/
def N_logE : List Str := ["_law_cells", "_law_house_here", "_law_hands_here", "_law_stamps", "_law_times", "_law_counts", "_law_deeds", "_law_cell", "_law_rest_here", "_law_hand", "_law_time", "_law_act_here", "_law_other"]
def F_logE (cells_1 househere_2 : D) : W D :=
  W.bind (W.fzW (W.s1 F_handsE (W.rd househere_2))) fun handshere_3 =>
  W.bind (W.lstA (W.anil)) fun stamps_4 => W.bind (W.share stamps_4) fun stamps_4 =>
  W.bind (W.ok (.md [])) fun times_5 => W.bind (W.share times_5) fun times_5 =>
  W.bind (W.ok (.md [])) fun counts_6 =>
  W.bind (W.lstA (W.anil)) fun deeds_7 =>
  W.bind (W.iS (W.rd cells_1)) fun it_28 => W.bind (W.each it_28.2 W.p1 (fun (s_8 : D × D × D × D) (y_10 : D) =>
  (W.bind (W.fzW (W.s1 F_rest (W.rd y_10))) fun resthere_11 =>
  W.bind (W.b2 fIxA (W.ok (frz handshere_3)) (W.fzW (W.b2 fMod (W.ok (frz resthere_11)) (W.fzW (W.bN fLen (W.acons (W.ok (frz handshere_3)) (W.anil))))))) fun hand_12 =>
  W.bind (W.b2 fFdiv (W.ok (frz resthere_11)) (W.fzW (W.bN fLen (W.acons (W.ok (frz handshere_3)) (W.anil))))) fun resthere_13 =>
  W.bind (W.fzW (W.b2 fAdd (W.fzW (W.b2 fAdd (W.fzW (W.bM okDct fGet (W.ok (frz s_8.2.1)) (W.acons (W.rd hand_12) (W.acons (W.ok (.int 0)) (W.anil))))) (W.ok (.int 1)))) (W.fzW (W.b2 fMod (W.fzW (W.b2 fFdiv (W.ok (frz resthere_13)) (W.ok (.int 4)))) (W.ok (.int 6)))))) fun time_14 =>
  W.bind (W.ite (W.tT (W.b2 fLt (W.fzW (W.b2 fMod (W.ok (frz resthere_13)) (W.ok (.int 4)))) (W.ok (.int 2)))) (W.bind (W.fzW (W.b2 fAdd (W.ok (.int 1)) (W.fzW (W.bN fMax (W.acons (W.fzW (W.b2 fAdd (W.fzW (W.lstA (W.acons (W.ok (.int 0)) (W.anil)))) (W.fzW (W.lc (W.iKyA (W.rd s_8.2.1)) W.p1 (fun (y_15 : D) => W.ok true) (fun (y_15 : D) => W.b2 fIxA (W.ok (frz s_8.2.1)) (W.ok (frz y_15))))))) (W.anil)))))) fun time_16 =>
  W.ok time_16 : W (D)) (W.ok time_14)) fun (s_17 : D) =>
  W.bind (W.fzW (W.s4 F_actE (W.fzW (W.b2 fFdiv (W.ok (frz resthere_13)) (W.ok (.int 24)))) (W.rd househere_2) (W.rd handshere_3) (W.rd s_8.1))) fun acthere_18 =>
  W.bind (W.rd s_17) fun v_19 => W.bind (W.rd s_8.2.1) fun o_21 => W.bind (W.rd hand_12) fun k_20 => W.bind (W.ptR gDSet o_21 k_20 v_19) fun _ =>
  W.bind (W.mu okL gAppend s_8.2.2.2 (W.acons (W.fzW (W.tupA (W.acons (W.rd s_17) (W.acons (W.rd hand_12) (W.acons (W.fzW (W.bM okDct fGet (W.ok (frz s_8.2.2.1)) (W.acons (W.rd hand_12) (W.acons (W.ok (.int 0)) (W.anil))))) (W.acons (W.rd acthere_18) (W.anil))))))) (W.anil))) fun deeds_22 =>
  W.bind (W.b2 fAdd (W.fzW (W.bM okDct fGet (W.ok (frz s_8.2.2.1)) (W.acons (W.rd hand_12) (W.acons (W.ok (.int 0)) (W.anil))))) (W.ok (.int 1))) fun v_23 => W.bind (W.rd hand_12) fun k_24 => W.bind (W.pt gDSet s_8.2.2.1 k_24 v_23) fun counts_25 =>
  W.bind (W.ite (W.tT (W.b2 fEq (W.fzW (W.b2 fIxA (W.ok (frz acthere_18)) (W.ok (.int 0)))) (W.ok (.str "say")))) (W.bind (W.bR okL gAppend (W.rd s_8.1) (W.acons (W.fzW (W.tupA (W.acons (W.rd s_17) (W.acons (W.rd hand_12) (W.anil))))) (W.anil))) fun _ =>
  W.ok s_8.1 : W (D)) (W.ok s_8.1)) fun (s_26 : D) =>
  (W.ok (s_26, s_8.2.1, counts_25, deeds_22) : W (D × D × D × D)) : W (D × D × D × D))) it_28.1 (stamps_4, times_5, counts_6, deeds_7)) fun (s_9 : D × D × D × D) =>
  W.bind (W.bN fTuple (W.acons (W.fzW (W.bSK (fun x_27 => W.bS (W.ok (frz x_27)) (W.oN) (W.oA (W.ok (.int 2)))) (W.ok (frz s_9.2.2.2)))) (W.anil))) (W.ok)
def b_logE : TS3 := sSeq (sSet 2 (fz (eCall (sp1 F_handsE) [] (aCons (fz (eV 1)) (aNil))))) (sSeq (sSetR 3 (eLst (aNil))) (sSeq (sSetR 4 (eDNew)) (sSeq (sSet 5 (eDNew)) (sSeq (sSet 6 (eLst (aNil))) (sFgt [7, 8, 9, 10, 11] (sSeq (sFor (iS (eV 0)) (.nm 7) (sSeq (sSet 8 (fz (eCall (sp1 F_rest) [] (aCons (fz (eV 7)) (aNil))))) (sSeq (sSet 9 (e2 fIxA (eB 2) (fz (e2 fMod (eB 8) (fz (eN fLen (aCons (eB 2) (aNil)))))))) (sSeq (sSet 8 (e2 fFdiv (eB 8) (fz (eN fLen (aCons (eB 2) (aNil)))))) (sSeq (sSet 10 (fz (e2 fAdd (fz (e2 fAdd (fz (eM okDct fGet (eB 4) (aCons (fz (eV 9)) (aCons (fz (eC (.int 0))) (aNil))))) (fz (eC (.int 1))))) (fz (e2 fMod (fz (e2 fFdiv (eB 8) (fz (eC (.int 4))))) (fz (eC (.int 6)))))))) (sSeq (sIf (tV (e2 fLt (fz (e2 fMod (eB 8) (fz (eC (.int 4))))) (fz (eC (.int 2))))) (sSeq (sSet 10 (fz (e2 fAdd (fz (eC (.int 1))) (fz (eN fMax (aCons (fz (e2 fAdd (fz (eLst (aCons (fz (eC (.int 0))) (aNil)))) (fz (eLc (iKyA (eV 4)) (.nm 12) (tYes3) (e2 fIxA (eB 4) (eB 12)) [12])))) (aNil))))))) (sNil)) (sNil)) (sSeq (sSet 11 (fz (eCall (sp4 F_actE) [] (aCons (fz (e2 fFdiv (eB 8) (fz (eC (.int 24))))) (aCons (fz (eV 1)) (aCons (fz (eV 2)) (aCons (fz (eV 3)) (aNil)))))))) (sSeq (sPutR gDSet (eV 4) (eV 9) (eV 10)) (sSeq (sM 6 okL gAppend (aCons (fz (eTup (aCons (fz (eV 10)) (aCons (fz (eV 9)) (aCons (fz (eM okDct fGet (eB 5) (aCons (fz (eV 9)) (aCons (fz (eC (.int 0))) (aNil))))) (aCons (fz (eV 11)) (aNil))))))) (aNil)) kDrop) (sSeq (sPut 5 gDSet (eV 9) (e2 fAdd (fz (eM okDct fGet (eB 5) (aCons (fz (eV 9)) (aCons (fz (eC (.int 0))) (aNil))))) (fz (eC (.int 1))))) (sSeq (sIf (tV (e2 fEq (fz (e2 fIxA (eB 11) (fz (eC (.int 0))))) (fz (eC (.str "say"))))) (sSeq (sDrop (eMR okL gAppend (eV 3) (aCons (fz (eTup (aCons (fz (eV 10)) (aCons (fz (eV 9)) (aNil))))) (aNil)))) (sNil)) (sNil)) (sFgt [7, 8, 9, 10, 11] (sNil))))))))))))) (sSeq (sRet (eN fTuple (aCons (fz (eSortL ["_law_deed"] (eSl (eB 0) (oNo) (oAt (eC (.int 2)))) (eB 6))) (aNil)))) (sNil))))))))
theorem j_logE (E : X3) (cells_1 househere_2 : D) : JS E b_logE [some cells_1, some househere_2, none, none, none, none, none, none, none, none, none, none, none] (F_logE cells_1 househere_2) NF NB NB W.ok := by
  unfold b_logE F_logE
  exact js_set (fun handshere_3 => [some cells_1, some househere_2, some handshere_3, none, none, none, none, none, none, none, none, none, none]) (je_fz (je_s1 (je_fzv rfl))) (fun _ => rfl) (fun handshere_3 => js_setR (fun stamps_4 => [some cells_1, some househere_2, some handshere_3, some stamps_4, none, none, none, none, none, none, none, none, none]) (je_lst (ja_nil)) (fun _ => rfl) (fun stamps_4 => js_setR (fun times_5 => [some cells_1, some househere_2, some handshere_3, some stamps_4, some times_5, none, none, none, none, none, none, none, none]) (je_dnew) (fun _ => rfl) (fun times_5 => js_set (fun counts_6 => [some cells_1, some househere_2, some handshere_3, some stamps_4, some times_5, some counts_6, none, none, none, none, none, none, none]) (je_dnew) (fun _ => rfl) (fun counts_6 => js_set (fun deeds_7 => [some cells_1, some househere_2, some handshere_3, some stamps_4, some times_5, some counts_6, some deeds_7, none, none, none, none, none, none]) (je_lst (ja_nil)) (fun _ => rfl) (fun deeds_7 => js_fgt [some cells_1, some househere_2, some handshere_3, some stamps_4, some times_5, some counts_6, some deeds_7, none, none, none, none, none, none] rfl (js_each (fun (s_8 : D × D × D × D) => [some cells_1, some househere_2, some handshere_3, some s_8.1, some s_8.2.1, some s_8.2.2.1, some s_8.2.2.2, none, none, none, none, none, none]) (fun (s_8 : D × D × D × D) (y_10 : D) => [some cells_1, some househere_2, some handshere_3, some s_8.1, some s_8.2.1, some s_8.2.2.1, some s_8.2.2.2, some y_10, none, none, none, none, none]) (stamps_4, times_5, counts_6, deeds_7) rfl (ji_s (je_v rfl)) (fun _ => pk1) (fun s_8 y_10 => js_set (fun resthere_11 => [some cells_1, some househere_2, some handshere_3, some s_8.1, some s_8.2.1, some s_8.2.2.1, some s_8.2.2.2, some y_10, some resthere_11, none, none, none, none]) (je_fz (je_s1 (je_fzv rfl))) (fun _ => rfl) (fun resthere_11 => js_set (fun hand_12 => [some cells_1, some househere_2, some handshere_3, some s_8.1, some s_8.2.1, some s_8.2.2.1, some s_8.2.2.2, some y_10, some resthere_11, some hand_12, none, none, none]) (je_e2 (je_b rfl) (je_fz (je_e2 (je_b rfl) (je_fz (je_eN (ja_cons (je_b rfl) (ja_nil))))))) (fun _ => rfl) (fun hand_12 => js_set (fun resthere_13 => [some cells_1, some househere_2, some handshere_3, some s_8.1, some s_8.2.1, some s_8.2.2.1, some s_8.2.2.2, some y_10, some resthere_13, some hand_12, none, none, none]) (je_e2 (je_b rfl) (je_fz (je_eN (ja_cons (je_b rfl) (ja_nil))))) (fun _ => rfl) (fun resthere_13 => js_set (fun time_14 => [some cells_1, some househere_2, some handshere_3, some s_8.1, some s_8.2.1, some s_8.2.2.1, some s_8.2.2.2, some y_10, some resthere_13, some hand_12, some time_14, none, none]) (je_fz (je_e2 (je_fz (je_e2 (je_fz (je_eM (je_b rfl) (ja_cons (je_fzv rfl) (ja_cons (je_fzc) (ja_nil))))) (je_fzc))) (je_fz (je_e2 (je_fz (je_e2 (je_b rfl) (je_fzc))) (je_fzc))))) (fun _ => rfl) (fun time_14 => js_join (fun (s_17 : D) => [some cells_1, some househere_2, some handshere_3, some s_8.1, some s_8.2.1, some s_8.2.2.1, some s_8.2.2.2, some y_10, some resthere_13, some hand_12, some s_17, none, none]) (jt_val (je_e2 (je_fz (je_e2 (je_b rfl) (je_fzc))) (je_fzc))) (js_set (fun time_16 => [some cells_1, some househere_2, some handshere_3, some s_8.1, some s_8.2.1, some s_8.2.2.1, some s_8.2.2.2, some y_10, some resthere_13, some hand_12, some time_16, none, none]) (je_fz (je_e2 (je_fzc) (je_fz (je_eN (ja_cons (je_fz (je_e2 (je_fz (je_lst (ja_cons (je_fzc) (ja_nil)))) (je_fz (je_lc (fun (y_15 : D) => [some cells_1, some househere_2, some handshere_3, some s_8.1, some s_8.2.1, some s_8.2.2.1, some s_8.2.2.2, some y_10, some resthere_13, some hand_12, some time_14, none, some y_15]) (nn0 rfl) (ji_kyA (je_v rfl)) pk1 (fun y_15 => jt_yes) (fun y_15 => je_e2 (je_b rfl) (je_b rfl)))))) (ja_nil)))))) (fun _ => rfl) (fun time_16 => js_nil (⟨_, rfl, rfl⟩))) (js_nil (⟨_, rfl, rfl⟩)) (fun s_17 => js_set (fun acthere_18 => [some cells_1, some househere_2, some handshere_3, some s_8.1, some s_8.2.1, some s_8.2.2.1, some s_8.2.2.2, some y_10, some resthere_13, some hand_12, some s_17, some acthere_18, none]) (je_fz (je_s4 (je_fz (je_e2 (je_b rfl) (je_fzc))) (je_fzv rfl) (je_fzv rfl) (je_fzv rfl))) (fun _ => rfl) (fun acthere_18 => js_putR (je_v rfl) (je_v rfl) (je_v rfl) (js_mu (fun deeds_22 => [some cells_1, some househere_2, some handshere_3, some s_8.1, some s_8.2.1, some s_8.2.2.1, some deeds_22, some y_10, some resthere_13, some hand_12, some s_17, some acthere_18, none]) rfl (ja_cons (je_fz (je_tup (ja_cons (je_fzv rfl) (ja_cons (je_fzv rfl) (ja_cons (je_fz (je_eM (je_b rfl) (ja_cons (je_fzv rfl) (ja_cons (je_fzc) (ja_nil))))) (ja_cons (je_fzv rfl) (ja_nil))))))) (ja_nil)) (fun _ => rfl) (fun deeds_22 => js_put (fun counts_25 => [some cells_1, some househere_2, some handshere_3, some s_8.1, some s_8.2.1, some counts_25, some deeds_22, some y_10, some resthere_13, some hand_12, some s_17, some acthere_18, none]) rfl (je_v rfl) (je_e2 (je_fz (je_eM (je_b rfl) (ja_cons (je_fzv rfl) (ja_cons (je_fzc) (ja_nil))))) (je_fzc)) (fun _ => rfl) (fun counts_25 => js_join (fun (s_26 : D) => [some cells_1, some househere_2, some handshere_3, some s_26, some s_8.2.1, some counts_25, some deeds_22, some y_10, some resthere_13, some hand_12, some s_17, some acthere_18, none]) (jt_val (je_e2 (je_fz (je_e2 (je_b rfl) (je_fzc))) (je_fzc))) (js_drop (je_eMR (je_v rfl) (ja_cons (je_fz (je_tup (ja_cons (je_fzv rfl) (ja_cons (je_fzv rfl) (ja_nil))))) (ja_nil))) (fun _ => js_nil (⟨_, rfl, rfl⟩))) (js_nil (⟨_, rfl, rfl⟩)) (fun s_26 => js_fgt [some cells_1, some househere_2, some handshere_3, some s_26, some s_8.2.1, some counts_25, some deeds_22, none, none, none, none, none, none] rfl (js_nil (⟨_, rfl, rfl⟩))))))))))))) (fun s_9 => js_ret (je_eN (ja_cons (je_fz (je_sortL (fun _ x_27 => je_sl (je_b rfl) (jo_no) (jo_at (je_c))) (je_b rfl))) (ja_nil))))))))))
theorem m_logE (ds A Q) (h : sp2 F_logE ds A Q (fun _ _ _ => False)) : b_logE { nx := fun _ A' => Q .non A', rt := Q } (start3 N_logE ds) A := by
  obtain ⟨cells_1, househere_2, rfl, u⟩ := h
  exact js_def (fun E => j_logE E _ _) u
end T3
set_option autoImplicit false
namespace T3
open PySem PySem.Spec PyProof.Rows L2
theorem d_cell_at (ns : List Int) (k : Nat) : F_cell_at (script ns) (.int k) = W.ok (.int (ns.getD k 0)) := by
  unfold F_cell_at
  by_cases h : k < ns.length
  · have e := atI_nat (ns.map D.int) k (by simpa using h)
    simp [script, h, e]
  · simp [script, h]
theorem L1000 : ∀ n : Nat, n ≤ 1000 → lim n = true := fun n h => lim_of (by omega)
theorem cut_take (l : List Nat) (i : Int) (h0 : 0 ≤ i) : cutS (S l) none (some i) = S (l.take i.toNat) := by
  by_cases h : i ≤ l.length
  · exact cutS_take l i h0 h
  · have e : HT.sIx (S l).length (S l).length (some i) = HT.sIx (S l).length (S l).length (some ((l.length : Nat) : Int)) := by
      rw [S_len]; unfold HT.sIx; simp only; split <;> split <;> omega
    have e2 : cutS (S l) none (some i) = cutS (S l) none (some ((l.length : Nat) : Int)) := by
      unfold cutS; rw [e]
    rw [e2, cutS_take l _ (by omega) (by omega)]
    congr 1
    rw [List.take_of_length_le (by omega), List.take_of_length_le (by omega)]
theorem hands_pick {hs : List Hnd} {r : Int} (h0 : 0 ≤ r) (h : r < hs.length) : ∃ x ∈ hs, L2.atI (hs.map handD) r = some (handD x) := by
  obtain ⟨d, e, hd⟩ := atI_int (hs.map handD) r h0 (by simpa using h)
  obtain ⟨x, hx, rfl⟩ := List.mem_map.mp hd
  exact ⟨x, hx, e⟩
theorem room_pick {h : House} {r : Int} (h0 : 0 ≤ r) (h1 : r < h.rooms.length) : ∃ x ∈ h.rooms, L2.atI (h.rooms.map pairM) r = some (pairM x) := by
  obtain ⟨d, e, hd⟩ := atI_int (h.rooms.map pairM) r h0 (by simpa using h1)
  obtain ⟨x, hx, rfl⟩ := List.mem_map.mp hd
  exact ⟨x, hx, e⟩
theorem person_pick {h : House} {r : Int} (h0 : 0 ≤ r) (h1 : r < h.people.length) : ∃ x ∈ h.people, L2.atI (h.people.map pairI) r = some (pairI x) := by
  obtain ⟨d, e, hd⟩ := atI_int (h.people.map pairI) r h0 (by simpa using h1)
  obtain ⟨x, hx, rfl⟩ := List.mem_map.mp hd
  exact ⟨x, hx, e⟩
theorem str_pick {xs : List Str} {r : Int} (h0 : 0 ≤ r) (h : r < xs.length) : ∃ x ∈ xs, L2.atI (xs.map D.str) r = some (.str x) := by
  obtain ⟨d, e, hd⟩ := atI_int (xs.map D.str) r h0 (by simpa using h)
  obtain ⟨x, hx, rfl⟩ := List.mem_map.mp hd
  exact ⟨x, hx, e⟩
def prnB (x : Str) : Bool := x.cps.toList.all fun c => decide (32 ≤ c) && decide (c ≤ 126)
theorem prn_of {x : Str} (h : prnB x = true) : Prn x := fun c hc => by
  have := List.all_eq_true.mp h c hc
  simpa using this
theorem atI_last {α : Type} (xs : List α) (x : α) : L2.atI (xs ++ [x]) (-1) = some x := by
  unfold L2.atI
  have : L2.ixN (xs ++ [x]).length (-1) = some xs.length := by
    unfold L2.ixN
    simp
    omega
  rw [this]
  simp
theorem d_rest (c : Int) (A : AH) (Q : D → AH → Prop) (E : X3) (q : ∀ r : Int, Q (.int r) A) : F_rest (.int c) A Q E := by
  unfold F_rest
  by_cases h : c % 2 = 0
  · simp [h]
    exact q _
  · simp [h]
    refine d_streamE c 14 (by decide) A _ _ fun ns _ _ => ?_
    simp
    refine W.each_wp E (fun i (s : D) A' => A' = A ∧ ∃ r : Int, s = .int r) _ 0 _ A ⟨rfl, 0, rfl⟩ (fun i x s A' hx hi => ?_) fun s A' hi => ?_
    · obtain ⟨rfl, r, rfl⟩ := hi
      rw [List.getElem?_map] at hx
      obtain ⟨n, _, rfl⟩ := Option.map_eq_some_iff.mp hx
      refine ⟨_, rfl, fun K k => ?_⟩
      simp
      have bb : big64 1000000 = true := by decide
      exact ⟨.int (r * 1000000), by simp [fMul, bb], .int (r * 1000000 + n), rfl, k _ _ ⟨rfl, r * 1000000 + n, rfl⟩⟩
    · obtain ⟨rfl, r, rfl⟩ := hi
      exact q r
theorem d_hands (h : House) (ok : h.Ok) : F_handsE h.toD = W.ok (.lst (h.hands.map handD)) := by
  suffices q : W.Sat (F_handsE h.toD) (fun d => d = .lst (h.hands.map handD)) by
    obtain ⟨_, e, rfl⟩ := q; exact e
  unfold F_handsE
  simp
  refine W.Sat.bind_each (fun t : List Hnd => D.lst (t.map handD)) (fun i t => t = (h.people.take i).flatMap fun p => (List.range p.2.toNat).map fun k => (p.1, ((k : Nat) : Int))) [] rfl (by simp) (fun i x t hx hi => ?_) fun t ht => W.Sat.ok (by rw [ht]; simp [House.hands])
  rw [List.getElem?_map] at hx
  obtain ⟨p, hp, rfl⟩ := Option.map_eq_some_iff.mp hx
  have pk := (ok.pn p (List.mem_of_getElem? hp)).2
  obtain ⟨m, hm⟩ : ∃ m : Nat, p.2 = (m : Int) := ⟨p.2.toNat, by omega⟩
  have h62 : small62 (m : Int) := ⟨by omega, by omega⟩
  have hl := len_hands_take h ok i
  rw [← hi] at hl
  have h4 := ok.p4
  have hi4 : i < h.people.length := (List.getElem?_eq_some_iff.mp hp).1
  have hms : m ≤ sizeLine := by have := sizeLine_eq; omega
  have hz : lim (t.length + m) = true := lim_of (by omega)
  refine ⟨(.str p.1, .int m), t ++ (List.range m).map fun k => (p.1, ((k : Nat) : Int)), by rw [p2_pairI, hm], ?_, ?_⟩
  · simp [h62]
    rw [comp_rng (fun k => handD (p.1, (k : Int))) hms]
    rotate_left
    · intro k hk
      simp [handD]
    simp [hz]
    rfl
  · rw [List.take_add_one, List.flatMap_append, ← hi, hp]
    simp [hm]
theorem d_message {A : AH} {a : Addr} {ss : List Stamp} (hA : A a = some (.lst (ss.map stampD))) (hl : ss.length ≤ 1000) {hs : List Hnd} (hne : 0 < hs.length) (hlen : hs.length ≤ 12) (hss : ∀ s ∈ ss, StampIn hs s) (r : Int) (Q : D → AH → Prop) (E : X3)
    (q : ∀ s, StampIn hs s → Q (stampD s) A) : F_messageE (.int r) (.lst (hs.map handD)) (.ref a) A Q E := by
  have ne : fNe A (.ref a) (.lst []) = some (.bl (!decide (ss = []))) := by
    rw [fNe_nb A (by rw [vw_refL hA]; simp [nb, encStamp.nbs]) rfl (by rw [vw_refL hA]; have := encStamp.deps ss; simp [dep]; omega)]
    rw [vw_refL hA]
    simp [vw]
  obtain ⟨x, hx, ex⟩ := hands_pick (hs := hs) (r := r / 200 % (hs.length : Int)) (Int.emod_nonneg _ (by omega)) (Int.emod_lt_of_pos _ (by omega))
  have fin : Q (stampD (1 + r / 5 % 40, x)) A := q (1 + r / 5 % 40, x) ⟨by have := Int.emod_nonneg (r / 5) (show (40 : Int) ≠ 0 by decide); show 1 ≤ 1 + r / 5 % 40; omega, hx⟩
  unfold F_messageE
  by_cases h1 : 0 < r % 5
  · by_cases h2 : ss = []
    · simp [h1, h2, ne, ex, stampD_mk]
      exact ⟨hne, fin⟩
    · have hs1 := List.length_pos_iff.mpr h2
      obtain ⟨d, e, hd⟩ := atI_int (ss.map stampD) (r / 5 % (ss.length : Int)) (Int.emod_nonneg _ (by omega)) (by simpa using Int.emod_lt_of_pos (r / 5) (show (0 : Int) < ss.length by omega))
      obtain ⟨s, hs', rfl⟩ := List.mem_map.mp hd
      simp [h1, h2, ne, fLen_refL hA]
      refine ⟨_, ⟨hs1, rfl⟩, _, ?_, q s (hss s hs')⟩
      show fIxA A (.ref a) (.int _) = _
      rw [fIxA_refL hA]; exact e
  · simp [h1, ex, stampD_mk]
    exact ⟨hne, fin⟩
def signsE : Str := " !#$&'()*+,-./0123456789:;<=>?@ABCDEFGHIJKLMNOPQRSTUVWXYZ[]^_abcdefghijklmnopqrstuvwxyz{|}~" ++ "\"" ++ "\\" ++ "`"
theorem sE_len : signsE.length = 94 := by decide +kernel
theorem sE_prn : prnB signsE = true := by decide +kernel
theorem sE_at {r : Int} (h0 : 0 ≤ r) (h : r < 94) : ∃ c, L2.atI signsE.cps.toList r = some c ∧ 32 ≤ c ∧ c ≤ 126 := by
  have hl : signsE.cps.toList.length = 94 := sE_len
  obtain ⟨c, e, hc⟩ := atI_int signsE.cps.toList r h0 (by omega)
  exact ⟨c, e, prn_of sE_prn c hc⟩
theorem d_signs : F_signs = W.ok (.str signsE) := by
  unfold F_signs
  have l1 : (" !#$&'()*+,-./0123456789:;<=>?@ABCDEFGHIJKLMNOPQRSTUVWXYZ[]^_abcdefghijklmnopqrstuvwxyz{|}~" : Str).length = 91 := by decide +kernel
  have l2 : ("\"" : Str).length = 1 := by decide +kernel
  have l3 : ("\\" : Str).length = 1 := by decide +kernel
  have l4 : ("`" : Str).length = 1 := by decide +kernel
  have q1 := L1000 92 (by omega)
  have q2 := L1000 93 (by omega)
  have q3 := L1000 94 (by omega)
  simp [l1, l2, l3, l4, q1, q2, q3, str_append_length]
  rfl
theorem d_saying {A : AH} (r : Int) {ns : List Str} (hl : 1 ≤ ns.length) (h4 : ns.length ≤ 4) (hk : ∀ x ∈ ns, NameOk x) (Q : D → AH → Prop) (E : X3) (q : ∀ x, SayOk x → Q (.str x) A) : F_sayingE (.int r) (.lst (ns.map .str)) A Q E := by
  have z0 := sizeLine_eq
  unfold F_sayingE
  simp only [show ("" : Str) = S [] from rfl]
  simp [d_signs, W.s0]
  have h60 : 0 ≤ r / 3 % 60 ∧ r / 3 % 60 < 60 := ⟨Int.emod_nonneg _ (by decide), Int.emod_lt_of_pos _ (by decide)⟩
  have h7 : 0 ≤ r / 3 % 7 ∧ r / 3 % 7 < 7 := ⟨Int.emod_nonneg _ (by decide), Int.emod_lt_of_pos _ (by decide)⟩
  have l94 : lim signsE.length = true := L1000 _ (by rw [sE_len]; omega)
  by_cases hr : r % 3 = 0
  · have h62 : small62 (1 + r / 3 % 60) := ⟨by omega, by omega⟩
    simp [hr, h62]
    refine W.each_wp E (fun i (t : D × D) A' => A' = A ∧ ∃ (b : List Nat) (k : Int), b.length = i ∧ (∀ c ∈ b, 32 ≤ c ∧ c ≤ 126) ∧ t = (.int k, .str (S b))) _ 0 _ A ⟨rfl, [], _, rfl, by simp, rfl⟩ (fun i x t A' hx hi => ?_) fun t A' hi => ?_
    · obtain ⟨hlt, rfl⟩ := rng_at hx
      obtain ⟨rfl, b, k, hc1, hc2, rfl⟩ := hi
      rw [Nat.zero_add] at hc1
      refine ⟨_, rfl, fun K kk => ?_⟩
      obtain ⟨c, ec, hc⟩ := sE_at (r := k % 94) (Int.emod_nonneg _ (by decide)) (Int.emod_lt_of_pos _ (by decide))
      have l1 := L1000 (b.length + 1) (by omega)
      simp [l94, sE_len, ec, S_one, l1, S_app]
      have q94 := L1000 94 (by omega)
      have ea : fAdd A' (.str (S b)) (frz (.str (S [c]))) = some (.str (S (b ++ [c]))) := by
        show fAdd A' (.str (S b)) (.str (S [c])) = _
        simp [l1, S_app]
      refine ⟨q94, _, ⟨q94, rfl⟩, _, ea, q94, kk _ _ ⟨rfl, b ++ [c], _, by rw [List.length_append, hc1]; simp, fun d hd => ?_, rfl⟩⟩
      rcases List.mem_append.mp hd with hd | hd
      · exact hc2 d hd
      · simp at hd; subst hd; exact hc
    · obtain ⟨rfl, b, k, hc1, hc2, rfl⟩ := hi
      rw [rng_len] at hc1
      exact q _ ⟨by rw [S_len]; omega, by rw [S_len]; omega, hc2⟩
  · have h62 : small62 (1 + r / 3 % 7) := ⟨by omega, by omega⟩
    simp [hr, h62]
    obtain ⟨n0, hn0, e0⟩ := str_pick (xs := ns) (r := 0) (by decide) (by omega)
    obtain ⟨nl, hnl, el⟩ : ∃ x ∈ ns, L2.atI (ns.map D.str) (-1) = some (.str x) := by
      have hne : ns ≠ [] := fun e => by rw [e] at hl; simp at hl
      have := atI_last (ns.dropLast.map D.str) (D.str (ns.getLast hne))
      refine ⟨ns.getLast hne, List.getLast_mem hne, ?_⟩
      rw [← this]
      congr 1
      rw [← List.map_singleton, ← List.map_append, List.dropLast_concat_getLast]
    have k0 := hk n0 hn0
    have kl := hk nl hnl
    have n1 := k0.one; have n8 := k0.eight; have np := k0.prn
    have m1 := kl.one; have m8 := kl.eight; have mp := kl.prn
    have p1 : Prn ("@" : Str) := prn_of (by decide +kernel)
    have p2 : Prn (" " : Str) := prn_of (by decide +kernel)
    have p3 : Prn ("a" : Str) := prn_of (by decide +kernel)
    have p4 : Prn (", " : Str) := prn_of (by decide +kernel)
    have p5 : Prn ("s" : Str) := prn_of (by decide +kernel)
    have l1 : ("@" : Str).length = 1 := by decide +kernel
    have l2 : (" " : Str).length = 1 := by decide +kernel
    have l3 : ("a" : Str).length = 1 := by decide +kernel
    have l4 : (", " : Str).length = 2 := by decide +kernel
    have l5 : ("s" : Str).length = 1 := by decide +kernel
    have a1 : ∀ A, fAdd A (.str "@") (frz (.str n0)) = some (.str ("@" ++ n0)) := fun A => by
      show fAdd A (.str "@") (.str n0) = _
      have := L1000 (1 + n0.length) (by omega)
      simp [l1, this]
    have a2 : ∀ A, fAdd A (.str "@") (frz (.str nl)) = some (.str ("@" ++ nl)) := fun A => by
      show fAdd A (.str "@") (.str nl) = _
      have := L1000 (1 + nl.length) (by omega)
      simp [l1, this]
    have a3 : ∀ A, fAdd A (frz (.str ("@" ++ n0))) (.str "s") = some (.str ("@" ++ n0 ++ "s")) := fun A => by
      show fAdd A (.str ("@" ++ n0)) (.str "s") = _
      have := L1000 (1 + n0.length + 1) (by omega)
      simp [l1, l5, this, str_append_length]
    refine ⟨_, e0, _, a1 _, _, el, _, a2 _, _, e0, _, e0, _, a1 _, _, a3 _, ?_⟩
    refine W.each_wp E (fun i (t : D × D) A' => A' = A ∧ ∃ (b : Str) (k : Int), b.length ≤ 10 * i ∧ (1 ≤ i → 1 ≤ b.length) ∧ Prn b ∧ t = (.int k, .str b)) _ 0 _ A ⟨rfl, S [], _, by simp, by omega, (fun c hc => by simp at hc), rfl⟩ (fun i x t A' hx hi => ?_) fun t A' hi => ?_
    · obtain ⟨hlt, rfl⟩ := rng_at hx
      obtain ⟨rfl, b, k, hc1, hc3, hc2, rfl⟩ := hi
      rw [Nat.zero_add] at hc1
      refine ⟨_, rfl, fun K kk => ?_⟩
      obtain ⟨x, hx, ex⟩ := str_pick (xs := ["@", "@" ++ n0, "@" ++ nl, " ", "a", n0, ", ", "@" ++ n0 ++ "s"]) (r := k / 21 % 8) (Int.emod_nonneg _ (by decide)) (Int.emod_lt_of_pos _ (by decide))
      have hx3 : 1 ≤ x.length ∧ x.length ≤ 10 ∧ Prn x := by
        simp only [List.mem_cons, List.not_mem_nil, or_false] at hx
        rcases hx with rfl | rfl | rfl | rfl | rfl | rfl | rfl | rfl
        · exact ⟨by omega, by omega, p1⟩
        · exact ⟨by rw [str_append_length]; omega, by rw [str_append_length]; omega, p1.app np⟩
        · exact ⟨by rw [str_append_length]; omega, by rw [str_append_length]; omega, p1.app mp⟩
        · exact ⟨by omega, by omega, p2⟩
        · exact ⟨by omega, by omega, p3⟩
        · exact ⟨by omega, by omega, np⟩
        · exact ⟨by omega, by omega, p4⟩
        · exact ⟨by rw [str_append_length, str_append_length]; omega, by rw [str_append_length, str_append_length]; omega, (p1.app np).app p5⟩
      simp only [List.map_cons, List.map_nil] at ex
      have q3 := L1000 (b.length + x.length) (by omega)
      have ea : fAdd A' (.str b) (frz (.str x)) = some (.str (b ++ x)) := by
        show fAdd A' (.str b) (.str x) = _
        simp [q3]
      simp [frz, ex]
      exact ⟨q3, kk _ _ ⟨rfl, b ++ x, _, by rw [str_append_length]; omega, fun _ => by rw [str_append_length]; omega, hc2.app hx3.2.2, rfl⟩⟩
    · obtain ⟨rfl, b, k, hc1, hc3, hc2, rfl⟩ := hi
      rw [rng_len] at hc1 hc3
      have hb1 := hc3 (by omega)
      obtain ⟨l, rfl⟩ : ∃ l, b = S l := ⟨b.cps.toList, (S_of b).symm⟩
      rw [S_len] at hc1 hb1
      have e := cut_take l 60 (by omega)
      have q4 := L1000 l.length (by omega)
      have es : fSl A' (.str (S l)) none (some 60) = some (.str (S (l.take 60))) := by simp [q4, e]
      have tl : (l.take 60).length = min 60 l.length := List.length_take
      exact ⟨_, es, q _ ⟨by rw [S_len]; omega, by rw [S_len]; omega, fun c hc => hc2 c (List.mem_of_mem_take hc)⟩⟩
end T3
set_option autoImplicit false
namespace T3
open PySem PySem.Spec PyProof.Rows L2
theorem names_comp (h : House) (ok : h.Ok) : W.comp [] W.p2 (fun _ => W.ok true) (fun y : D × D => W.rd y.1) (h.people.map pairI) [] = W.ok (.ml (h.ns.map .str)) := by
  have := W.comp_mapT (pt := W.p2) (te := fun y : D × D => W.rd y.1) pairI (fun r => .str r.1) h.people (by have := ok.p4; have := sizeLine_eq; omega) fun x hx => ⟨_, rfl, rfl⟩
  rw [this]
  simp only [House.ns, List.map_map]
  rfl
theorem d_vector {A : AH} (r : Int) {hs : List Hnd} (hlen : hs.length ≤ 12) (Q : D → AH → Prop) (E : X3) (q : ∀ v, VecIn hs v → Q (vecD v) A) : F_vectorE (.int r) (.lst (hs.map handD)) A Q E := by
  have z0 := sizeLine_eq
  unfold F_vectorE
  simp
  refine W.each_wp E (fun i (t : D × D) A' => A' = A ∧ ∃ (v : Vec) (k : Int), VecIn (hs.take i) v ∧ v.length ≤ i ∧ t = (.int k, .ml (v.map pairV))) _ 0 _ A ⟨rfl, [], _, ⟨by simp, by simp⟩, by simp, rfl⟩ (fun i x t A' hx hi => ?_) fun t A' hi => ?_
  · obtain ⟨rfl, v, k, hv, hvl, rfl⟩ := hi
    rw [List.getElem?_map] at hx
    obtain ⟨x, hh, rfl⟩ := Option.map_eq_some_iff.mp hx
    have hi2 : i < hs.length := (List.getElem?_eq_some_iff.mp hh).1
    rw [Nat.zero_add] at hv hvl
    have ht : hs.take (i + 1) = hs.take i ++ [x] := by rw [List.take_add_one, hh]; rfl
    have hvz : v.length < sizeLine := by omega
    refine ⟨_, rfl, fun K kk => ?_⟩
    rw [Nat.zero_add] at kk
    have k3 : 0 ≤ k % 3 ∧ k % 3 < 3 := ⟨Int.emod_nonneg _ (by decide), Int.emod_lt_of_pos _ (by decide)⟩
    by_cases hr : 0 < k % 3
    · have : ∃ m : Int, L2.atI [D.int 4, D.int 60] (k % 3 - 1) = some (.int m) ∧ 0 < m := by
        rcases (by omega : k % 3 = 1 ∨ k % 3 = 2) with e | e
        · rw [e]; exact ⟨_, at0 _ _, by decide⟩
        · rw [e]; exact ⟨_, at1 _ _ _, by decide⟩
      obtain ⟨m, em, m0⟩ := this
      have mn : ¬ m = 0 := by omega
      have hb : big64 m = true := by
        rcases (by omega : k % 3 = 1 ∨ k % 3 = 2) with e | e
        · rw [e] at em; have := (at0 (D.int 4) [D.int 60]).symm.trans em; simp at this; subst this; decide
        · rw [e] at em; have := (at1 (D.int 4) (D.int 60) []).symm.trans em; simp at this; subst this; decide
      have m1 : 0 ≤ k / 3 % m := Int.emod_nonneg _ mn
      simp [hr, em, hvz, obOf, dOf, mn]
      refine ⟨m0, kk _ _ ⟨rfl, v ++ [(x, 1 + k / 3 % m)], _, ⟨?_, fun p hp2 => ?_⟩, by rw [List.length_append, List.length_singleton]; omega, by rw [List.map_append]; rfl⟩⟩
      · rw [ht, List.map_append]
        exact hv.sub.append (List.Sublist.refl _)
      · rcases List.mem_append.mp hp2 with h2 | h2
        · exact hv.pos p h2
        · simp at h2; subst h2; simp only; omega
    · simp [hr]
      refine kk _ _ ⟨rfl, v, _, ⟨?_, hv.pos⟩, by omega, rfl⟩
      rw [ht]
      exact hv.sub.trans (List.sublist_append_left _ _)
  · obtain ⟨rfl, v, k, hv, hvl, rfl⟩ := hi
    rw [Nat.zero_add, List.length_map, List.take_length] at hv
    simp at hvl
    have hvz : v.length ≤ sizeLine := by omega
    simp [hvz]
    exact q v hv
theorem d_what {A : AH} {a : Addr} {ss : List Stamp} (hA : A a = some (.lst (ss.map stampD))) (hl : ss.length ≤ 1000) (h : House) (ok : h.Ok) (hss : ∀ s ∈ ss, StampIn h.hands s) (r : Int) (Q : D → AH → Prop) (E : X3)
    (q : ∀ x, WhatIn h h.hands x → Q (What.toD x) A) : F_whatE (.int r) h.toD (.lst (h.hands.map handD)) (.ref a) A Q E := by
  have hlen := hands_len h ok
  have hne := List.length_pos_iff.mpr (hands_ne h ok)
  have r1 := ok.r1
  have r4 := ok.r4
  have p1 := ok.p1
  have p4 := ok.p4
  have k3 : 0 ≤ r % 3 ∧ r % 3 < 3 := ⟨Int.emod_nonneg _ (by decide), Int.emod_lt_of_pos _ (by decide)⟩
  obtain ⟨rm, hrm, er⟩ := room_pick (h := h) (r := r / 3 % (h.rooms.length : Int)) (Int.emod_nonneg _ (by omega)) (Int.emod_lt_of_pos _ (by omega))
  obtain ⟨pm, hpm, ep⟩ := person_pick (h := h) (r := r / 3 % (h.people.length : Int)) (Int.emod_nonneg _ (by omega)) (Int.emod_lt_of_pos _ (by omega))
  unfold F_whatE
  by_cases c0 : r % 3 = 0
  · simp [c0, er]
    exact ⟨by omega, q (.room rm.1) (List.mem_map.mpr ⟨rm, hrm, rfl⟩)⟩
  by_cases c1 : r % 3 = 1
  · simp [c1, ep]
    exact ⟨by omega, q (.person pm.1) (List.mem_map.mpr ⟨pm, hpm, rfl⟩)⟩
  · simp [c0, c1]
    refine d_message hA hl hne hlen hss _ _ _ fun s hs => ?_
    exact q (.under s) hs
theorem d_act {A : AH} {a : Addr} {ss : List Stamp} (hA : A a = some (.lst (ss.map stampD))) (hl : ss.length ≤ 1000) (h : House) (ok : h.Ok) (hss : ∀ s ∈ ss, StampIn h.hands s) (r : Int) (Q : D → AH → Prop) (E : X3)
    (q : ∀ x, ActIn h h.hands x → Q (Act.toD x) A) : F_actE (.int r) h.toD (.lst (h.hands.map handD)) (.ref a) A Q E := by
  have hlen := hands_len h ok
  have hne := List.length_pos_iff.mpr (hands_ne h ok)
  have r1 := ok.r1
  have r4 := ok.r4
  have p1 := ok.p1
  have p4 := ok.p4
  have hns : 1 ≤ h.ns.length := by rw [House.ns_len]; exact p1
  have hn4 : h.ns.length ≤ 4 := by rw [House.ns_len]; exact p4
  have hnk : ∀ x ∈ h.ns, NameOk x := fun x hx => by
    obtain ⟨p, hp, rfl⟩ := List.mem_map.mp hx
    exact (ok.pn p hp).1
  have nc := names_comp h ok
  have k12 : 0 ≤ r % 12 ∧ r % 12 < 12 := ⟨Int.emod_nonneg _ (by decide), Int.emod_lt_of_pos _ (by decide)⟩
  obtain ⟨rm, hrm, er⟩ := room_pick (h := h) (r := r / 12 % (h.rooms.length : Int)) (Int.emod_nonneg _ (by omega)) (Int.emod_lt_of_pos _ (by omega))
  have hrm' : rm.1 ∈ h.rooms.map (·.1) := List.mem_map.mpr ⟨rm, hrm, rfl⟩
  have hr0 : 0 < h.rooms.length := by omega
  have rs : ∀ st, W.rd (frz (stampD st)) = W.ok (stampD st) := fun _ => rfl
  have msg := fun (r : Int) (Q : D → AH → Prop) (E : X3) (q : ∀ s, StampIn h.hands s → Q (stampD s) A) => d_message hA hl hne hlen hss r Q E q
  unfold F_actE
  by_cases c4 : r % 12 < 4
  · simp [c4, er, nc]
    refine ⟨hr0, msg _ _ _ fun s hs => ?_⟩
    split
    · refine d_saying _ hns hn4 hnk _ _ fun x hx => ?_
      exact q (.say rm.1 none x) ⟨hrm', (fun _ e => nomatch e), hx⟩
    · rw [rs, W.ok_ap]
      refine d_saying _ hns hn4 hnk _ _ fun x hx => ?_
      exact q (.say rm.1 (some s) x) ⟨hrm', fun _ e => by cases e; exact hs, hx⟩
  by_cases e4 : r % 12 = 4
  · simp [e4, er, nc]
    refine ⟨hr0, d_vector _ hlen _ _ fun v hv => ?_⟩
    exact q (.read rm.1 v) ⟨hrm', hv⟩
  by_cases e5 : r % 12 = 5
  · simp [e5, er, nc]
    refine ⟨hr0, d_what hA hl h ok hss _ _ _ fun x hx => ?_⟩
    have fx : frz x.toD = x.toD := (encWhat.cod).frz x
    rw [fx]
    exact q (.hush x _) hx
  by_cases c8 : r % 12 < 8
  · simp [c4, e4, e5, c8, er, nc]
    refine ⟨hr0, msg _ _ _ fun s hs => ?_⟩
    rw [rs, W.ok_ap]
    refine d_saying _ hns hn4 hnk _ _ fun x hx => ?_
    exact q (.change s x) ⟨hs, hx⟩
  by_cases c10 : r % 12 < 10
  · simp [c4, e4, e5, c8, c10, er, nc]
    refine ⟨hr0, msg _ _ _ fun s hs => ?_⟩
    have ng : NameOk ("good" : Str) := ⟨by decide +kernel, by decide +kernel, fun c hc => by revert c; decide +kernel⟩
    have nw : NameOk ("well" : Str) := ⟨by decide +kernel, by decide +kernel, fun c hc => by revert c; decide +kernel⟩
    have na : NameOk ("a" : Str) := ⟨by decide +kernel, by decide +kernel, fun c hc => by revert c; decide +kernel⟩
    have ns : NameOk ("sad" : Str) := ⟨by decide +kernel, by decide +kernel, fun c hc => by revert c; decide +kernel⟩
    have : ∃ y, NameOk y ∧ L2.atI [D.str "good", D.str "well", D.str "a", D.str "sad"] (r / 12 / 2 % 4) = some (.str y) := by
      have h0 : 0 ≤ r / 12 / 2 % 4 ∧ r / 12 / 2 % 4 < 4 := ⟨Int.emod_nonneg _ (by decide), Int.emod_lt_of_pos _ (by decide)⟩
      rcases (by omega : r / 12 / 2 % 4 = 0 ∨ r / 12 / 2 % 4 = 1 ∨ r / 12 / 2 % 4 = 2 ∨ r / 12 / 2 % 4 = 3) with e | e | e | e
      · rw [e]; exact ⟨_, ng, at0 _ _⟩
      · rw [e]; exact ⟨_, nw, at1 _ _ _⟩
      · rw [e]; exact ⟨_, na, at2 _ _ _ _⟩
      · rw [e]; exact ⟨_, ns, at3 _ _ _ _ _⟩
    obtain ⟨y, hy, ey⟩ := this
    refine ⟨_, ey, ?_⟩
    have ry : W.rd (D.str y) = W.ok (.str y) := rfl
    rw [rs, W.ok_ap, ry, W.ok_ap]
    exact q (.like s y _) ⟨hs, hy⟩
  · simp [c4, e4, e5, c8, c10, er, nc]
    refine ⟨hr0, msg _ _ _ fun s hs => ?_⟩
    have h2 : r / 12 % 2 = 0 ∨ r / 12 % 2 = 1 := by omega
    rcases (by omega : r % 12 = 10 ∨ r % 12 = 11) with e | e
    · rw [e]
      refine ⟨_, at0 _ _, ?_⟩
      rcases h2 with e2 | e2
      · rw [e2]
        refine ⟨.str "back", (at0 (D.str "back") [D.str "seen"] : _), ?_⟩
        rw [rs, W.ok_ap]
        exact q (.back s) hs
      · rw [e2]
        refine ⟨.str "seen", (at1 (D.str "back") (D.str "seen") [] : _), ?_⟩
        rw [rs, W.ok_ap]
        exact q (.seen s) hs
    · rw [e]
      refine ⟨_, at1 _ _ _, ?_⟩
      rcases h2 with e2 | e2
      · rw [e2]
        refine ⟨.str "seen", (at0 (D.str "seen") [D.str "rung"] : _), ?_⟩
        rw [rs, W.ok_ap]
        exact q (.seen s) hs
      · rw [e2]
        refine ⟨.str "rung", (at1 (D.str "seen") (D.str "rung") [] : _), ?_⟩
        rw [rs, W.ok_ap]
        exact q (.rung s) hs
end T3
set_option autoImplicit false
namespace T3
open PySem PySem.Spec PyProof.Rows L2
end T3
set_option autoImplicit false
namespace T3
open PySem PySem.Spec PyProof.Rows L2
/-! ### what is said -/
structure Said where
  room : Str
  under : Option Stamp
  writer : Str
  saying : Str
  deriving DecidableEq
def Said.toD (s : Said) : D := .tup [.str s.room, underD s.under, .str s.writer, .str s.saying]
@[simp] theorem frz_Said (s : Said) : frz s.toD = s.toD := (rfl)
@[simp] theorem rd_Said (s : Said) : W.rd s.toD = W.ok s.toD := (rfl)
@[simp] theorem ix_Said0 (A : AH) (s : Said) : fIxA A s.toD (.int 0) = some (.str s.room) := by simp [Said.toD]
@[simp] theorem ix_Said2 (A : AH) (s : Said) : fIxA A s.toD (.int 2) = some (.str s.writer) := by simp [Said.toD]
def RoomsIn (h : House) (l : List Deed) : Prop := ∀ d ∈ l, ∀ r u s, d.act = .say r u s → r ∈ h.rooms.map (·.1)
def there (m : List (Stamp × Said)) (r : Str) : Option Stamp → Bool
  | none => true
  | some x => match getK m x with
    | some t => decide (t.room = r)
    | none => false
def saidStep (h : House) (m : List (Stamp × Said)) (d : Deed) : List (Stamp × Said) :=
  match d.act with
  | .say r u s => if there m r u = true ∧ d.hand.1 ∈ (getK h.rooms r).getD [] then putK m d.stamp ⟨r, u, d.hand.1, s⟩ else m
  | _ => m
def saysM (h : House) (l : List Deed) : List (Stamp × Said) := l.foldl (saidStep h) []
@[simp] theorem in_memD (g : Bool → Bool) (A : AH) (x : Str) (ms : List Str) : fInA g A (.str x) (memD ms) = some (.bl (g (decide (x ∈ ms)))) := codStr.fInT A g x ms
@[simp] theorem stampD_non (x : Stamp) : ¬ stampD x = D.non := fun h => by simp [stampD] at h
end T3
set_option autoImplicit false
namespace T3
open PySem PySem.Spec PyProof.Rows L2
/-! ### what is taken back, what is changed -/
def backStep (says : List (Stamp × Said)) (m : List (Stamp × Bool)) (d : Deed) : List (Stamp × Bool) :=
  match d.act with
  | .back x => match getK says x with
    | some t => if t.writer = d.hand.1 then putK m x true else m
    | none => m
  | _ => m
def backsM (says : List (Stamp × Said)) (l : List Deed) : List (Stamp × Bool) := l.foldl (backStep says) []
def changeStep (says : List (Stamp × Said)) (m : List (Stamp × Str)) (d : Deed) : List (Stamp × Str) :=
  match d.act with
  | .change x s => match getK says x with
    | some t => if t.writer = d.hand.1 then putK m x s else m
    | none => m
  | _ => m
def changesM (says : List (Stamp × Said)) (l : List Deed) : List (Stamp × Str) := l.foldl (changeStep says) []
/-! ### messages -/
structure Msg where
  stamp : Stamp
  room : Str
  under : Option Stamp
  writer : Str
  saying : Str
  changed : Bool
  deriving DecidableEq
def Msg.toD (m : Msg) : D := .tup [stampD m.stamp, .str m.room, underD m.under, .str m.writer, .str m.saying, .bl m.changed]
def mkMsg (anew : List (Stamp × Str)) (p : Stamp × Said) : Msg := ⟨p.1, p.2.room, p.2.under, p.2.writer, (getK anew p.1).getD p.2.saying, (getK anew p.1).isSome⟩
def messages (h : House) (l : List Deed) : List Msg :=
  let says := saysM h l
  (says.filter fun p => (getK (backsM says l) p.1).isNone).map (mkMsg (changesM says l))
@[simp] theorem frz_Msg (m : Msg) : frz m.toD = m.toD := (rfl)
@[simp] theorem rd_Msg (m : Msg) : W.rd m.toD = W.ok m.toD := (rfl)
@[simp] theorem ix_Msg0 (A : AH) (m : Msg) : fIxA A m.toD (.int 0) = some (stampD m.stamp) := by simp [Msg.toD]
@[simp] theorem ix_Msg1 (A : AH) (m : Msg) : fIxA A m.toD (.int 1) = some (.str m.room) := by simp [Msg.toD]
end T3
set_option autoImplicit false
namespace T3
open PySem PySem.Spec PyProof.Rows L2
/-! ### while loops at a heap, by a measure -/
end T3
set_option autoImplicit false
namespace T3
open PySem PySem.Spec PyProof.Rows L2
/-! ### a tree walked from the top -/
section
variable {α : Type} (K : α → List α)
def pre : Nat → Int → α → List (Int × α)
  | 0, _, _ => []
  | n + 1, d, s => (d, s) :: (K s).flatMap (pre n (d + 1))
variable {K} (rank : α → Nat) (hr : ∀ s, ∀ c ∈ K s, rank c < rank s)
include hr
end
/-! ### the forest: each one once -/
section
variable {α : Type} [DecidableEq α] (K : α → List α) (rank : α → Nat) (par : α → Option α)
variable {K rank par} (hp : ∀ s, ∀ c ∈ K s, par c = some s) (hr : ∀ c s, par c = some s → rank c < rank s) (hn : ∀ s, (K s).Nodup)
include hp in
include hp hr in
include hp hr in
include hp hr hn in
include hp hr hn in
end
end T3
set_option autoImplicit false
namespace T3
open PySem PySem.Spec PyProof.Rows L2
/-! ### a dict of lists, at a heap -/
namespace W
end W
section
variable {κ α : Type} [DecidableEq κ]
abbrev DLs (κ α : Type) := List (κ × Addr × List α)
def dlD (kf : κ → D) (m : DLs κ α) : List (D × D) := kD kf (fun p : Addr × List α => D.ref p.1) m
structure DLAt (kf : κ → D) (vf : α → D) (A0 A : AH) (b : Addr) (m : DLs κ α) : Prop where
  dict : A b = some (.dct (dlD kf m))
  lists : ∀ p ∈ m, A p.2.1 = some (.lst (p.2.2.map vf))
  nd : (m.map fun p => p.2.1).Nodup
  keys : (m.map (·.1)).Nodup
  nb : ∀ p ∈ m, p.2.1 ≠ b
  newb : A0 b = none
  new : ∀ p ∈ m, A0 p.2.1 = none
  keep : ∀ c ob, A0 c = some ob → A c = some ob
variable {kf : κ → D} {vf : α → D}
/-- what the dict holds -/
def flat (m : DLs κ α) : List (κ × List α) := m.map fun p => (p.1, p.2.2)
def DLOf (kf : κ → D) (vf : α → D) (A0 A : AH) (b : Addr) (l : List (κ × List α)) : Prop := ∃ m, DLAt kf vf A0 A b m ∧ flat m = l
theorem DLAt.fresh {A0 A : AH} {b : Addr} {m : DLs κ α} (h : DLAt kf vf A0 A b m) {u : κ} (e : getK m u = none) {a : Addr} (ha : A a = none) (s : α) (ob : Ob) :
    DLAt kf vf A0 (put (put (put A a ob) b (.dct (dlD kf (putK m u (a, []))))) a (.lst ([s].map vf))) b (putK m u (a, [s])) := by
  have hu : u ∉ m.map (·.1) := getK_none.mp e
  have hab : a ≠ b := fun z => by subst z; rw [h.dict] at ha; cases ha
  have hna : ∀ p ∈ m, p.2.1 ≠ a := fun p hp z => by have := h.lists p hp; rw [z, ha] at this; cases this
  have hA0 : A0 a = none := by
    cases q : A0 a with
    | none => rfl
    | some o => rw [h.keep a o q] at ha; cases ha
  rw [putK_new hu, putK_new hu]
  refine ⟨?_, fun p hp => ?_, ?_, ?_, fun p hp => ?_, h.newb, fun p hp => ?_, fun c o hc => ?_⟩
  · rw [put_ne (Ne.symm hab), put_same]
    simp [dlD, kD]
  · rcases List.mem_append.mp hp with hp | hp
    · rw [put_ne (hna p hp), put_ne (h.nb p hp), put_ne (hna p hp)]
      exact h.lists p hp
    · simp at hp; subst hp; exact put_same
  · rw [List.map_append, List.nodup_append]
    refine ⟨h.nd, by simp, fun x hx y hy z => ?_⟩
    simp at hy; subst hy; subst z
    obtain ⟨p, hp, e2⟩ := List.mem_map.mp hx
    exact hna p hp e2
  · rw [List.map_append, List.nodup_append]
    exact ⟨h.keys, by simp, fun x hx y hy z => by simp at hy; subst hy; subst z; exact hu hx⟩
  · rcases List.mem_append.mp hp with hp | hp
    · exact h.nb p hp
    · simp at hp; subst hp; exact hab
  · rcases List.mem_append.mp hp with hp | hp
    · exact h.new p hp
    · simp at hp; subst hp; exact hA0
  · have h1 : c ≠ a := fun z => by subst z; rw [hA0] at hc; cases hc
    have h2 : c ≠ b := fun z => by subst z; rw [h.newb] at hc; cases hc
    rw [put_ne h1, put_ne h2, put_ne h1]; exact h.keep c o hc
theorem DLOf.keep {A0 A : AH} {b : Addr} {l : List (κ × List α)} (h : DLOf kf vf A0 A b l) : ∀ c ob, A0 c = some ob → A c = some ob := by
  obtain ⟨m, h, _⟩ := h
  exact h.keep
end
end T3
set_option autoImplicit false
namespace T3
open PySem PySem.Spec PyProof.Rows L2
/-- stamp_of(deed); slots 0:deed -/
def N_stamp_of : List Str := ["deed"]
def F_stamp_of (deed_1 : D) : W D :=
  W.bind (W.tupA (W.acons (W.fzW (W.b2 fIxA (W.ok (frz deed_1)) (W.ok (.int 0)))) (W.acons (W.fzW (W.b2 fIxA (W.ok (frz deed_1)) (W.ok (.int 1)))) (W.anil)))) (W.ok)
def b_stamp_of : TS3 := sSeq (sRet (eTup (aCons (fz (e2 fIxA (eB 0) (fz (eC (.int 0))))) (aCons (fz (e2 fIxA (eB 0) (fz (eC (.int 1))))) (aNil))))) (sNil)
theorem j_stamp_of (E : X3) (deed_1 : D) : JS E b_stamp_of [some deed_1] (F_stamp_of deed_1) NF NB NB W.ok := by
  unfold b_stamp_of F_stamp_of
  exact js_ret (je_tup (ja_cons (je_fz (je_e2 (je_b rfl) (je_fzc))) (ja_cons (je_fz (je_e2 (je_b rfl) (je_fzc))) (ja_nil))))
theorem m_stamp_of (ds A Q) (h : sp1 F_stamp_of ds A Q (fun _ _ _ => False)) : b_stamp_of { nx := fun _ A' => Q .non A', rt := Q } (start3 N_stamp_of ds) A := by
  obtain ⟨deed_1, rfl, u⟩ := h
  exact js_def (fun E => j_stamp_of E _) u
end T3
set_option autoImplicit false
namespace T3
open PySem PySem.Spec PyProof.Rows L2
/-- counts_of(deeds); slots 0:deeds 1:counts 2:deed -/
def N_counts_of : List Str := ["deeds", "counts", "deed"]
def F_counts_of (deeds_1 : D) : W D :=
  W.bind (W.ok (.md [])) fun counts_2 =>
  W.bind (W.iS (W.rd deeds_1)) fun it_9 => W.bind (W.each it_9.2 W.p1 (fun (s_3 : D) (y_5 : D) =>
  (W.bind (W.b2 fAdd (W.fzW (W.bM okDct fGet (W.ok (frz s_3)) (W.acons (W.fzW (W.b2 fIxA (W.ok (frz y_5)) (W.ok (.int 1)))) (W.acons (W.ok (.int 0)) (W.anil))))) (W.ok (.int 1))) fun v_6 => W.bind (W.b2 fIxA (W.ok (frz y_5)) (W.ok (.int 1))) fun k_7 => W.bind (W.pt gDSet s_3 k_7 v_6) fun counts_8 =>
  (W.ok counts_8 : W (D)) : W (D))) it_9.1 counts_2) fun (s_4 : D) =>
  W.ok s_4
def b_counts_of : TS3 := sSeq (sSet 1 (eDNew)) (sFgt [2] (sSeq (sFor (iS (eV 0)) (.nm 2) (sSeq (sPut 1 gDSet (e2 fIxA (eB 2) (fz (eC (.int 1)))) (e2 fAdd (fz (eM okDct fGet (eB 1) (aCons (fz (e2 fIxA (eB 2) (fz (eC (.int 1))))) (aCons (fz (eC (.int 0))) (aNil))))) (fz (eC (.int 1))))) (sFgt [2] (sNil)))) (sSeq (sRetV 1) (sNil))))
theorem j_counts_of (E : X3) (deeds_1 : D) : JS E b_counts_of [some deeds_1, none, none] (F_counts_of deeds_1) NF NB NB W.ok := by
  unfold b_counts_of F_counts_of
  exact js_set (fun counts_2 => [some deeds_1, some counts_2, none]) (je_dnew) (fun _ => rfl) (fun counts_2 => js_fgt [some deeds_1, some counts_2, none] rfl (js_each (fun (s_3 : D) => [some deeds_1, some s_3, none]) (fun (s_3 : D) (y_5 : D) => [some deeds_1, some s_3, some y_5]) counts_2 rfl (ji_s (je_v rfl)) (fun _ => pk1) (fun s_3 y_5 => js_put (fun counts_8 => [some deeds_1, some counts_8, some y_5]) rfl (je_e2 (je_b rfl) (je_fzc)) (je_e2 (je_fz (je_eM (je_b rfl) (ja_cons (je_fz (je_e2 (je_b rfl) (je_fzc))) (ja_cons (je_fzc) (ja_nil))))) (je_fzc)) (fun _ => rfl) (fun counts_8 => js_fgt [some deeds_1, some counts_8, none] rfl (js_nil (⟨_, rfl, rfl⟩)))) (fun s_4 => js_retV rfl)))
theorem m_counts_of (ds A Q) (h : sp1 F_counts_of ds A Q (fun _ _ _ => False)) : b_counts_of { nx := fun _ A' => Q .non A', rt := Q } (start3 N_counts_of ds) A := by
  obtain ⟨deeds_1, rfl, u⟩ := h
  exact js_def (fun E => j_counts_of E _) u
/-- vector_of(log); slots 0:log -/
def N_vector_of : List Str := ["log"]
def F_vector_of (log_1 : D) : W D :=
  W.bind (W.bN fTuple (W.acons (W.fzW (W.b1 fSortIS (W.fzW (W.s1 F_counts_of (W.rd log_1))))) (W.anil))) (W.ok)
def b_vector_of : TS3 := sSeq (sRet (eN fTuple (aCons (fz (e1 fSortIS (fz (eCall (sp1 F_counts_of) [] (aCons (fz (eV 0)) (aNil)))))) (aNil)))) (sNil)
theorem j_vector_of (E : X3) (log_1 : D) : JS E b_vector_of [some log_1] (F_vector_of log_1) NF NB NB W.ok := by
  unfold b_vector_of F_vector_of
  exact js_ret (je_eN (ja_cons (je_fz (je_e1 (je_fz (je_s1 (je_fzv rfl))))) (ja_nil)))
theorem m_vector_of (ds A Q) (h : sp1 F_vector_of ds A Q (fun _ _ _ => False)) : b_vector_of { nx := fun _ A' => Q .non A', rt := Q } (start3 N_vector_of ds) A := by
  obtain ⟨log_1, rfl, u⟩ := h
  exact js_def (fun E => j_vector_of E _) u
/-- greater_counts(one, other); slots 0:one 1:other 2:counts 3:hand 4:count -/
def N_greater_counts : List Str := ["one", "other", "counts", "hand", "count"]
def F_greater_counts (one_1 other_2 : D) : W D :=
  W.bind (W.bN fDict (W.acons (W.ok (frz one_1)) (W.anil))) fun counts_3 =>
  W.bind (W.iS (W.rd other_2)) fun it_10 => W.bind (W.each it_10.2 W.p2 (fun (s_4 : D) (y_6 : D × D) =>
  (W.bind (W.bN fMax2 (W.acons (W.ok (frz y_6.2)) (W.acons (W.fzW (W.bM okDct fGet (W.ok (frz s_4)) (W.acons (W.rd y_6.1) (W.acons (W.ok (.int 0)) (W.anil))))) (W.anil)))) fun v_7 => W.bind (W.rd y_6.1) fun k_8 => W.bind (W.pt gDSet s_4 k_8 v_7) fun counts_9 =>
  (W.ok counts_9 : W (D)) : W (D))) it_10.1 counts_3) fun (s_5 : D) =>
  W.bind (W.bN fTuple (W.acons (W.fzW (W.b1 fSortIS (W.ok (frz s_5)))) (W.anil))) (W.ok)
def b_greater_counts : TS3 := sSeq (sSet 2 (eN fDict (aCons (eB 0) (aNil)))) (sFgt [3, 4] (sSeq (sFor (iS (eV 1)) (.tp [3, 4]) (sSeq (sPut 2 gDSet (eV 3) (eN fMax2 (aCons (eB 4) (aCons (fz (eM okDct fGet (eB 2) (aCons (fz (eV 3)) (aCons (fz (eC (.int 0))) (aNil))))) (aNil))))) (sFgt [3, 4] (sNil)))) (sSeq (sRet (eN fTuple (aCons (fz (e1 fSortIS (eB 2))) (aNil)))) (sNil))))
theorem j_greater_counts (E : X3) (one_1 other_2 : D) : JS E b_greater_counts [some one_1, some other_2, none, none, none] (F_greater_counts one_1 other_2) NF NB NB W.ok := by
  unfold b_greater_counts F_greater_counts
  exact js_set (fun counts_3 => [some one_1, some other_2, some counts_3, none, none]) (je_eN (ja_cons (je_b rfl) (ja_nil))) (fun _ => rfl) (fun counts_3 => js_fgt [some one_1, some other_2, some counts_3, none, none] rfl (js_each (fun (s_4 : D) => [some one_1, some other_2, some s_4, none, none]) (fun (s_4 : D) (y_6 : D × D) => [some one_1, some other_2, some s_4, some y_6.1, some y_6.2]) counts_3 rfl (ji_s (je_v rfl)) (fun _ => pk2) (fun s_4 y_6 => js_put (fun counts_9 => [some one_1, some other_2, some counts_9, some y_6.1, some y_6.2]) rfl (je_v rfl) (je_eN (ja_cons (je_b rfl) (ja_cons (je_fz (je_eM (je_b rfl) (ja_cons (je_fzv rfl) (ja_cons (je_fzc) (ja_nil))))) (ja_nil)))) (fun _ => rfl) (fun counts_9 => js_fgt [some one_1, some other_2, some counts_9, none, none] rfl (js_nil (⟨_, rfl, rfl⟩)))) (fun s_5 => js_ret (je_eN (ja_cons (je_fz (je_e1 (je_b rfl))) (ja_nil))))))
theorem m_greater_counts (ds A Q) (h : sp2 F_greater_counts ds A Q (fun _ _ _ => False)) : b_greater_counts { nx := fun _ A' => Q .non A', rt := Q } (start3 N_greater_counts ds) A := by
  obtain ⟨one_1, other_2, rfl, u⟩ := h
  exact js_def (fun E => j_greater_counts E _ _) u
/-- entry_of(deed); slots 0:deed 1:time 2:hand 3:number 4:act 5:stamp 6:kind -/
def N_entry_of : List Str := ["deed", "time", "hand", "number", "act", "stamp", "kind"]
def F_entry_of (deed_1 : D) : W D :=
  W.bind (W.rd deed_1) fun d_5 => W.un W.p4 (frz d_5) fun (y_2 : D × D × D × D) =>
  W.bind (W.fzW (W.s1 F_stamp_of (W.rd deed_1))) fun stamp_3 =>
  W.bind (W.b2 fIxA (W.ok (frz y_2.2.2.2)) (W.ok (.int 0))) fun kind_4 =>
  W.ite (W.tT (W.b2 fEq (W.ok (frz kind_4)) (W.ok (.str "say")))) (W.bind (W.tupA (W.acons (W.fzW (W.tupA (W.acons (W.ok (.str "say")) (W.acons (W.rd stamp_3) (W.anil))))) (W.acons (W.fzW (W.tupA (W.acons (W.ok .non) (W.acons (W.fzW (W.tupA (W.acons (W.rd y_2.2.2.1) (W.acons (W.fzW (W.b2 fIxA (W.ok (frz y_2.2.2.2)) (W.ok (.int 1)))) (W.acons (W.fzW (W.b2 fIxA (W.ok (frz y_2.2.2.2)) (W.ok (.int 2)))) (W.acons (W.fzW (W.b2 fIxA (W.ok (frz y_2.2.2.2)) (W.ok (.int 3)))) (W.anil))))))) (W.anil))))) (W.anil)))) (W.ok)) (
  W.ite (W.tT (W.b2 fEq (W.ok (frz kind_4)) (W.ok (.str "change")))) (W.bind (W.tupA (W.acons (W.fzW (W.tupA (W.acons (W.ok (.str "change")) (W.acons (W.fzW (W.tupA (W.acons (W.fzW (W.b2 fIxA (W.ok (frz y_2.2.2.2)) (W.ok (.int 1)))) (W.acons (W.fzW (W.b2 fIxA (W.ok (frz y_2.2.1)) (W.ok (.int 0)))) (W.anil))))) (W.anil))))) (W.acons (W.fzW (W.tupA (W.acons (W.rd stamp_3) (W.acons (W.fzW (W.b2 fIxA (W.ok (frz y_2.2.2.2)) (W.ok (.int 2)))) (W.anil))))) (W.anil)))) (W.ok)) (
  W.ite (W.tT (W.b2 fEq (W.ok (frz kind_4)) (W.ok (.str "like")))) (W.bind (W.tupA (W.acons (W.fzW (W.tupA (W.acons (W.ok (.str "like")) (W.acons (W.fzW (W.tupA (W.acons (W.fzW (W.b2 fIxA (W.ok (frz y_2.2.2.2)) (W.ok (.int 1)))) (W.acons (W.fzW (W.b2 fIxA (W.ok (frz y_2.2.1)) (W.ok (.int 0)))) (W.acons (W.fzW (W.b2 fIxA (W.ok (frz y_2.2.2.2)) (W.ok (.int 2)))) (W.anil)))))) (W.anil))))) (W.acons (W.fzW (W.tupA (W.acons (W.rd stamp_3) (W.acons (W.fzW (W.b2 fIxA (W.ok (frz y_2.2.2.2)) (W.ok (.int 3)))) (W.anil))))) (W.anil)))) (W.ok)) (
  W.ite (W.tT (W.b2 fEq (W.ok (frz kind_4)) (W.ok (.str "hush")))) (W.bind (W.tupA (W.acons (W.fzW (W.tupA (W.acons (W.ok (.str "hush")) (W.acons (W.fzW (W.tupA (W.acons (W.fzW (W.b2 fIxA (W.ok (frz y_2.2.1)) (W.ok (.int 0)))) (W.acons (W.fzW (W.b2 fIxA (W.ok (frz y_2.2.2.2)) (W.ok (.int 1)))) (W.anil))))) (W.anil))))) (W.acons (W.fzW (W.tupA (W.acons (W.rd stamp_3) (W.acons (W.fzW (W.b2 fIxA (W.ok (frz y_2.2.2.2)) (W.ok (.int 2)))) (W.anil))))) (W.anil)))) (W.ok)) (
  W.ite (W.tT (W.b2 fEq (W.ok (frz kind_4)) (W.ok (.str "read")))) (W.bind (W.tupA (W.acons (W.fzW (W.tupA (W.acons (W.ok (.str "read")) (W.acons (W.fzW (W.tupA (W.acons (W.fzW (W.b2 fIxA (W.ok (frz y_2.2.1)) (W.ok (.int 0)))) (W.acons (W.fzW (W.b2 fIxA (W.ok (frz y_2.2.2.2)) (W.ok (.int 1)))) (W.anil))))) (W.anil))))) (W.acons (W.fzW (W.tupA (W.acons (W.ok .non) (W.acons (W.fzW (W.b2 fIxA (W.ok (frz y_2.2.2.2)) (W.ok (.int 2)))) (W.anil))))) (W.anil)))) (W.ok)) (
  W.bind (W.tupA (W.acons (W.fzW (W.tupA (W.acons (W.rd kind_4) (W.acons (W.fzW (W.tupA (W.acons (W.fzW (W.b2 fIxA (W.ok (frz y_2.2.2.2)) (W.ok (.int 1)))) (W.acons (W.fzW (W.b2 fIxA (W.ok (frz y_2.2.1)) (W.ok (.int 0)))) (W.anil))))) (W.anil))))) (W.acons (W.fzW (W.tupA (W.acons (W.ok .non) (W.acons (W.ok .non) (W.anil))))) (W.anil)))) (W.ok))))))
def b_entry_of : TS3 := sSeq (sAsgP (.tp [1, 2, 3, 4]) (eV 0)) (sSeq (sSet 5 (fz (eCall (sp1 F_stamp_of) [] (aCons (fz (eV 0)) (aNil))))) (sSeq (sSet 6 (e2 fIxA (eB 4) (fz (eC (.int 0))))) (sSeq (sIf (tV (e2 fEq (eB 6) (fz (eC (.str "say"))))) (sSeq (sRet (eTup (aCons (fz (eTup (aCons (fz (eC (.str "say"))) (aCons (fz (eV 5)) (aNil))))) (aCons (fz (eTup (aCons (fz (eC .non)) (aCons (fz (eTup (aCons (fz (eV 3)) (aCons (fz (e2 fIxA (eB 4) (fz (eC (.int 1))))) (aCons (fz (e2 fIxA (eB 4) (fz (eC (.int 2))))) (aCons (fz (e2 fIxA (eB 4) (fz (eC (.int 3))))) (aNil))))))) (aNil))))) (aNil))))) (sNil)) (sNil)) (sSeq (sIf (tV (e2 fEq (eB 6) (fz (eC (.str "change"))))) (sSeq (sRet (eTup (aCons (fz (eTup (aCons (fz (eC (.str "change"))) (aCons (fz (eTup (aCons (fz (e2 fIxA (eB 4) (fz (eC (.int 1))))) (aCons (fz (e2 fIxA (eB 2) (fz (eC (.int 0))))) (aNil))))) (aNil))))) (aCons (fz (eTup (aCons (fz (eV 5)) (aCons (fz (e2 fIxA (eB 4) (fz (eC (.int 2))))) (aNil))))) (aNil))))) (sNil)) (sNil)) (sSeq (sIf (tV (e2 fEq (eB 6) (fz (eC (.str "like"))))) (sSeq (sRet (eTup (aCons (fz (eTup (aCons (fz (eC (.str "like"))) (aCons (fz (eTup (aCons (fz (e2 fIxA (eB 4) (fz (eC (.int 1))))) (aCons (fz (e2 fIxA (eB 2) (fz (eC (.int 0))))) (aCons (fz (e2 fIxA (eB 4) (fz (eC (.int 2))))) (aNil)))))) (aNil))))) (aCons (fz (eTup (aCons (fz (eV 5)) (aCons (fz (e2 fIxA (eB 4) (fz (eC (.int 3))))) (aNil))))) (aNil))))) (sNil)) (sNil)) (sSeq (sIf (tV (e2 fEq (eB 6) (fz (eC (.str "hush"))))) (sSeq (sRet (eTup (aCons (fz (eTup (aCons (fz (eC (.str "hush"))) (aCons (fz (eTup (aCons (fz (e2 fIxA (eB 2) (fz (eC (.int 0))))) (aCons (fz (e2 fIxA (eB 4) (fz (eC (.int 1))))) (aNil))))) (aNil))))) (aCons (fz (eTup (aCons (fz (eV 5)) (aCons (fz (e2 fIxA (eB 4) (fz (eC (.int 2))))) (aNil))))) (aNil))))) (sNil)) (sNil)) (sSeq (sIf (tV (e2 fEq (eB 6) (fz (eC (.str "read"))))) (sSeq (sRet (eTup (aCons (fz (eTup (aCons (fz (eC (.str "read"))) (aCons (fz (eTup (aCons (fz (e2 fIxA (eB 2) (fz (eC (.int 0))))) (aCons (fz (e2 fIxA (eB 4) (fz (eC (.int 1))))) (aNil))))) (aNil))))) (aCons (fz (eTup (aCons (fz (eC .non)) (aCons (fz (e2 fIxA (eB 4) (fz (eC (.int 2))))) (aNil))))) (aNil))))) (sNil)) (sNil)) (sSeq (sRet (eTup (aCons (fz (eTup (aCons (fz (eV 6)) (aCons (fz (eTup (aCons (fz (e2 fIxA (eB 4) (fz (eC (.int 1))))) (aCons (fz (e2 fIxA (eB 2) (fz (eC (.int 0))))) (aNil))))) (aNil))))) (aCons (fz (eTup (aCons (fz (eC .non)) (aCons (fz (eC .non)) (aNil))))) (aNil))))) (sNil)))))))))
theorem j_entry_of (E : X3) (deed_1 : D) : JS E b_entry_of [some deed_1, none, none, none, none, none, none] (F_entry_of deed_1) NF NB NB W.ok := by
  unfold b_entry_of F_entry_of
  exact js_pat (fun (y_2 : D × D × D × D) => [some deed_1, some y_2.1, some y_2.2.1, some y_2.2.2.1, some y_2.2.2.2, none, none]) pk4 (je_v rfl) (fun y_2 => js_set (fun stamp_3 => [some deed_1, some y_2.1, some y_2.2.1, some y_2.2.2.1, some y_2.2.2.2, some stamp_3, none]) (je_fz (je_s1 (je_fzv rfl))) (fun _ => rfl) (fun stamp_3 => js_set (fun kind_4 => [some deed_1, some y_2.1, some y_2.2.1, some y_2.2.2.1, some y_2.2.2.2, some stamp_3, some kind_4]) (je_e2 (je_b rfl) (je_fzc)) (fun _ => rfl) (fun kind_4 => js_if (jt_val (je_e2 (je_b rfl) (je_fzc))) (js_assoc (js_ret (je_tup (ja_cons (je_fz (je_tup (ja_cons (je_fzc) (ja_cons (je_fzv rfl) (ja_nil))))) (ja_cons (je_fz (je_tup (ja_cons (je_fzc) (ja_cons (je_fz (je_tup (ja_cons (je_fzv rfl) (ja_cons (je_fz (je_e2 (je_b rfl) (je_fzc))) (ja_cons (je_fz (je_e2 (je_b rfl) (je_fzc))) (ja_cons (je_fz (je_e2 (je_b rfl) (je_fzc))) (ja_nil))))))) (ja_nil))))) (ja_nil)))))) (js_nilseq (js_if (jt_val (je_e2 (je_b rfl) (je_fzc))) (js_assoc (js_ret (je_tup (ja_cons (je_fz (je_tup (ja_cons (je_fzc) (ja_cons (je_fz (je_tup (ja_cons (je_fz (je_e2 (je_b rfl) (je_fzc))) (ja_cons (je_fz (je_e2 (je_b rfl) (je_fzc))) (ja_nil))))) (ja_nil))))) (ja_cons (je_fz (je_tup (ja_cons (je_fzv rfl) (ja_cons (je_fz (je_e2 (je_b rfl) (je_fzc))) (ja_nil))))) (ja_nil)))))) (js_nilseq (js_if (jt_val (je_e2 (je_b rfl) (je_fzc))) (js_assoc (js_ret (je_tup (ja_cons (je_fz (je_tup (ja_cons (je_fzc) (ja_cons (je_fz (je_tup (ja_cons (je_fz (je_e2 (je_b rfl) (je_fzc))) (ja_cons (je_fz (je_e2 (je_b rfl) (je_fzc))) (ja_cons (je_fz (je_e2 (je_b rfl) (je_fzc))) (ja_nil)))))) (ja_nil))))) (ja_cons (je_fz (je_tup (ja_cons (je_fzv rfl) (ja_cons (je_fz (je_e2 (je_b rfl) (je_fzc))) (ja_nil))))) (ja_nil)))))) (js_nilseq (js_if (jt_val (je_e2 (je_b rfl) (je_fzc))) (js_assoc (js_ret (je_tup (ja_cons (je_fz (je_tup (ja_cons (je_fzc) (ja_cons (je_fz (je_tup (ja_cons (je_fz (je_e2 (je_b rfl) (je_fzc))) (ja_cons (je_fz (je_e2 (je_b rfl) (je_fzc))) (ja_nil))))) (ja_nil))))) (ja_cons (je_fz (je_tup (ja_cons (je_fzv rfl) (ja_cons (je_fz (je_e2 (je_b rfl) (je_fzc))) (ja_nil))))) (ja_nil)))))) (js_nilseq (js_if (jt_val (je_e2 (je_b rfl) (je_fzc))) (js_assoc (js_ret (je_tup (ja_cons (je_fz (je_tup (ja_cons (je_fzc) (ja_cons (je_fz (je_tup (ja_cons (je_fz (je_e2 (je_b rfl) (je_fzc))) (ja_cons (je_fz (je_e2 (je_b rfl) (je_fzc))) (ja_nil))))) (ja_nil))))) (ja_cons (je_fz (je_tup (ja_cons (je_fzc) (ja_cons (je_fz (je_e2 (je_b rfl) (je_fzc))) (ja_nil))))) (ja_nil)))))) (js_nilseq (js_ret (je_tup (ja_cons (je_fz (je_tup (ja_cons (je_fzv rfl) (ja_cons (je_fz (je_tup (ja_cons (je_fz (je_e2 (je_b rfl) (je_fzc))) (ja_cons (je_fz (je_e2 (je_b rfl) (je_fzc))) (ja_nil))))) (ja_nil))))) (ja_cons (je_fz (je_tup (ja_cons (je_fzc) (ja_cons (je_fzc) (ja_nil))))) (ja_nil)))))))))))))))))
theorem m_entry_of (ds A Q) (h : sp1 F_entry_of ds A Q (fun _ _ _ => False)) : b_entry_of { nx := fun _ A' => Q .non A', rt := Q } (start3 N_entry_of ds) A := by
  obtain ⟨deed_1, rfl, u⟩ := h
  exact js_def (fun E => j_entry_of E _) u
/-- put_into(entries, place, entry); slots 0:entries 1:place 2:entry -/
def N_put_into : List Str := ["entries", "place", "entry"]
def F_put_into (entries_1 place_2 entry_3 : D) : W D :=
  W.bind (W.ite (W.tT (W.b2 (fInA not) (W.ok (frz place_2)) (W.ok (frz entries_1)))) (W.bind (W.rd entry_3) fun v_4 => W.bind (W.rd entries_1) fun o_6 => W.bind (W.rd place_2) fun k_5 => W.bind (W.ptR gDSet o_6 k_5 v_4) fun _ =>
  W.ok () : W (Unit)) (W.bind (W.ite (W.tT (W.b2 fEq (W.fzW (W.b2 fIxA (W.ok (frz place_2)) (W.ok (.int 0)))) (W.ok (.str "read")))) (W.bind (W.tupA (W.acons (W.ok .non) (W.acons (W.fzW (W.s2 F_greater_counts (W.fzW (W.b2 fIxA (W.fzW (W.b2 fIxA (W.ok (frz entries_1)) (W.ok (frz place_2)))) (W.ok (.int 1)))) (W.fzW (W.b2 fIxA (W.ok (frz entry_3)) (W.ok (.int 1)))))) (W.anil)))) fun v_7 => W.bind (W.rd entries_1) fun o_9 => W.bind (W.rd place_2) fun k_8 => W.bind (W.ptR gDSet o_9 k_8 v_7) fun _ =>
  W.ok () : W (Unit)) (W.bind (W.ite (W.andT (W.tT (W.b2 fNotN (W.fzW (W.b2 fIxA (W.ok (frz entry_3)) (W.ok (.int 0)))) (W.ok .non))) (W.tT (W.b2 fGt (W.fzW (W.b2 fIxA (W.ok (frz entry_3)) (W.ok (.int 0)))) (W.fzW (W.b2 fIxA (W.fzW (W.b2 fIxA (W.ok (frz entries_1)) (W.ok (frz place_2)))) (W.ok (.int 0))))))) (W.bind (W.rd entry_3) fun v_10 => W.bind (W.rd entries_1) fun o_12 => W.bind (W.rd place_2) fun k_11 => W.bind (W.ptR gDSet o_12 k_11 v_10) fun _ =>
  W.ok () : W (Unit)) (W.ok ())) fun (s_13 : Unit) =>
  W.ok ())) fun (s_14 : Unit) =>
  W.ok ())) fun (s_15 : Unit) =>
  W.ok .non
def b_put_into : TS3 := sSeq (sIf (tV (e2 (fInA not) (eB 1) (eB 0))) (sSeq (sPutR gDSet (eV 0) (eV 1) (eV 2)) (sFgt [0] (sNil))) (sSeq (sIf (tV (e2 fEq (fz (e2 fIxA (eB 1) (fz (eC (.int 0))))) (fz (eC (.str "read"))))) (sSeq (sPutR gDSet (eV 0) (eV 1) (eTup (aCons (fz (eC .non)) (aCons (fz (eCall (sp2 F_greater_counts) [] (aCons (fz (e2 fIxA (fz (e2 fIxA (eB 0) (eB 1))) (fz (eC (.int 1))))) (aCons (fz (e2 fIxA (eB 2) (fz (eC (.int 1))))) (aNil))))) (aNil))))) (sFgt [0] (sNil))) (sSeq (sIf (tAnd3 (tV (e2 fNotN (fz (e2 fIxA (eB 2) (fz (eC (.int 0))))) (fz (eC .non)))) (tV (e2 fGt (fz (e2 fIxA (eB 2) (fz (eC (.int 0))))) (fz (e2 fIxA (fz (e2 fIxA (eB 0) (eB 1))) (fz (eC (.int 0)))))))) (sSeq (sPutR gDSet (eV 0) (eV 1) (eV 2)) (sFgt [0] (sNil))) (sFgt [0] (sNil))) (sFgt [0] (sNil)))) (sFgt [0] (sNil)))) (sNil)
theorem j_put_into (E : X3) (entries_1 place_2 entry_3 : D) : JS E b_put_into [some entries_1, some place_2, some entry_3] (F_put_into entries_1 place_2 entry_3) NF NB NB W.ok := by
  unfold b_put_into F_put_into
  exact js_join (fun (s_15 : Unit) => [none, some place_2, some entry_3]) (jt_val (je_e2 (je_b rfl) (je_b rfl))) (js_putR (je_v rfl) (je_v rfl) (je_v rfl) (js_fgt [none, some place_2, some entry_3] rfl (js_nil (⟨_, rfl, rfl⟩)))) (js_join (fun (s_14 : Unit) => [none, some place_2, some entry_3]) (jt_val (je_e2 (je_fz (je_e2 (je_b rfl) (je_fzc))) (je_fzc))) (js_putR (je_v rfl) (je_v rfl) (je_tup (ja_cons (je_fzc) (ja_cons (je_fz (je_s2 (je_fz (je_e2 (je_fz (je_e2 (je_b rfl) (je_b rfl))) (je_fzc))) (je_fz (je_e2 (je_b rfl) (je_fzc))))) (ja_nil)))) (js_fgt [none, some place_2, some entry_3] rfl (js_nil (⟨_, rfl, rfl⟩)))) (js_join (fun (s_13 : Unit) => [none, some place_2, some entry_3]) (jt_and (jt_val (je_e2 (je_fz (je_e2 (je_b rfl) (je_fzc))) (je_fzc))) (jt_val (je_e2 (je_fz (je_e2 (je_b rfl) (je_fzc))) (je_fz (je_e2 (je_fz (je_e2 (je_b rfl) (je_b rfl))) (je_fzc)))))) (js_putR (je_v rfl) (je_v rfl) (je_v rfl) (js_fgt [none, some place_2, some entry_3] rfl (js_nil (⟨_, rfl, rfl⟩)))) (js_fgt [none, some place_2, some entry_3] rfl (js_nil (⟨_, rfl, rfl⟩))) (fun s_13 => js_fgt [none, some place_2, some entry_3] rfl (js_nil (⟨_, rfl, rfl⟩)))) (fun s_14 => js_fgt [none, some place_2, some entry_3] rfl (js_nil (⟨_, rfl, rfl⟩)))) (fun s_15 => js_nil (rfl))
theorem m_put_into (ds A Q) (h : sp3 F_put_into ds A Q (fun _ _ _ => False)) : b_put_into { nx := fun _ A' => Q .non A', rt := Q } (start3 N_put_into ds) A := by
  obtain ⟨entries_1, place_2, entry_3, rfl, u⟩ := h
  exact js_def (fun E => j_put_into E _ _ _) u
end T3
set_option autoImplicit false
namespace T3
open PySem PySem.Spec PyProof.Rows L2
/-! ### packs: places and entries -/
inductive MK | change | back | seen | rung
  deriving DecidableEq
def MK.str : MK → Str
  | .change => "change" | .back => "back" | .seen => "seen" | .rung => "rung"
inductive Place
  | say (s : Stamp) | mn (k : MK) (m : Stamp) (n : Str) | like (m : Stamp) (n x : Str) | hush (n : Str) (w : What) | read (n r : Str)
  deriving DecidableEq
def Place.kind : Place → Str
  | .say _ => "say" | .mn k _ _ => k.str | .like _ _ _ => "like" | .hush _ _ => "hush" | .read _ _ => "read"
def Place.key : Place → D
  | .say s => stampD s
  | .mn _ m n => .tup [stampD m, .str n]
  | .like m n x => .tup [stampD m, .str n, .str x]
  | .hush n w => .tup [.str n, w.toD]
  | .read n r => .tup [.str n, .str r]
def Place.toD (p : Place) : D := .tup [.str p.kind, p.key]
theorem ks1 : ("say" : Str) ≠ "change" := by decide +kernel
theorem ks2 : ("say" : Str) ≠ "back" := by decide +kernel
theorem ks3 : ("say" : Str) ≠ "seen" := by decide +kernel
theorem ks4 : ("say" : Str) ≠ "rung" := by decide +kernel
theorem ks5 : ("say" : Str) ≠ "like" := by decide +kernel
theorem ks6 : ("say" : Str) ≠ "hush" := by decide +kernel
theorem ks7 : ("say" : Str) ≠ "read" := by decide +kernel
theorem kc1 : ("change" : Str) ≠ "back" := by decide +kernel
theorem kc2 : ("change" : Str) ≠ "seen" := by decide +kernel
theorem kc3 : ("change" : Str) ≠ "rung" := by decide +kernel
theorem kc4 : ("change" : Str) ≠ "like" := by decide +kernel
theorem kc5 : ("change" : Str) ≠ "hush" := by decide +kernel
theorem kc6 : ("change" : Str) ≠ "read" := by decide +kernel
theorem kb1 : ("back" : Str) ≠ "seen" := by decide +kernel
theorem kb2 : ("back" : Str) ≠ "rung" := by decide +kernel
theorem kb3 : ("back" : Str) ≠ "like" := by decide +kernel
theorem kb4 : ("back" : Str) ≠ "hush" := by decide +kernel
theorem kb5 : ("back" : Str) ≠ "read" := by decide +kernel
theorem kn1 : ("seen" : Str) ≠ "rung" := by decide +kernel
theorem kn2 : ("seen" : Str) ≠ "like" := by decide +kernel
theorem kn3 : ("seen" : Str) ≠ "hush" := by decide +kernel
theorem kn4 : ("seen" : Str) ≠ "read" := by decide +kernel
theorem kr1 : ("rung" : Str) ≠ "like" := by decide +kernel
theorem kr2 : ("rung" : Str) ≠ "hush" := by decide +kernel
theorem kr3 : ("rung" : Str) ≠ "read" := by decide +kernel
theorem kl1 : ("like" : Str) ≠ "hush" := by decide +kernel
theorem kl2 : ("like" : Str) ≠ "read" := by decide +kernel
theorem kh1 : ("hush" : Str) ≠ "read" := by decide +kernel
theorem MK.str_inj {a b : MK} (h : a.str = b.str) : a = b := by
  cases a <;> cases b <;> simp [MK.str, kc1, kc2, kc3, kb1, kb2, kn1, kc1.symm, kc2.symm, kc3.symm, kb1.symm, kb2.symm, kn1.symm] at h ⊢
theorem MK.ne_say (k : MK) : k.str ≠ ("say" : Str) := by cases k <;> first | exact ks1.symm | exact ks2.symm | exact ks3.symm | exact ks4.symm
theorem MK.ne_like (k : MK) : k.str ≠ ("like" : Str) := by cases k <;> first | exact kc4 | exact kb3 | exact kn2 | exact kr1
theorem MK.ne_hush (k : MK) : k.str ≠ ("hush" : Str) := by cases k <;> first | exact kc5 | exact kb4 | exact kn3 | exact kr2
theorem MK.ne_read (k : MK) : k.str ≠ ("read" : Str) := by cases k <;> first | exact kc6 | exact kb5 | exact kn4 | exact kr3
/-- two places of one kind have keys of one shape -/
theorem Place.same {p q : Place} (h : p.kind = q.kind) :
    (∃ s t, p = .say s ∧ q = .say t) ∨ (∃ k m n m' n', p = .mn k m n ∧ q = .mn k m' n') ∨ (∃ m n x m' n' x', p = .like m n x ∧ q = .like m' n' x') ∨ (∃ n w n' w', p = .hush n w ∧ q = .hush n' w') ∨ (∃ n r n' r', p = .read n r ∧ q = .read n' r') := by
  cases p with
  | say s => cases q with
    | say t => exact .inl ⟨s, t, rfl, rfl⟩
    | mn k m n => exact absurd h.symm k.ne_say
    | like m n x => exact absurd h ks5
    | hush n w => exact absurd h ks6
    | read n r => exact absurd h ks7
  | mn k m n => cases q with
    | say t => exact absurd h k.ne_say
    | mn k' m' n' => obtain rfl := MK.str_inj h; exact .inr (.inl ⟨k, m, n, m', n', rfl, rfl⟩)
    | like m n x => exact absurd h k.ne_like
    | hush n w => exact absurd h k.ne_hush
    | read n r => exact absurd h k.ne_read
  | like m n x => cases q with
    | say t => exact absurd h ks5.symm
    | mn k' m' n' => exact absurd h.symm k'.ne_like
    | like m' n' x' => exact .inr (.inr (.inl ⟨m, n, x, m', n', x', rfl, rfl⟩))
    | hush n w => exact absurd h kl1
    | read n r => exact absurd h kl2
  | hush n w => cases q with
    | say t => exact absurd h ks6.symm
    | mn k' m' n' => exact absurd h.symm k'.ne_hush
    | like m' n' x' => exact absurd h kl1.symm
    | hush n' w' => exact .inr (.inr (.inr (.inl ⟨n, w, n', w', rfl, rfl⟩)))
    | read n r => exact absurd h kh1
  | read n r => cases q with
    | say t => exact absurd h ks7.symm
    | mn k' m' n' => exact absurd h.symm k'.ne_read
    | like m' n' x' => exact absurd h kl2.symm
    | hush n' w' => exact absurd h kh1.symm
    | read n' r' => exact .inr (.inr (.inr (.inr ⟨n, r, n', r', rfl, rfl⟩)))
theorem encPlace : Enc Place.toD := ⟨fun a b h => by
    simp only [Place.toD, D.tup.injEq, List.cons.injEq, D.str.injEq, and_true] at h
    obtain ⟨h1, h2⟩ := h
    rcases Place.same h1 with ⟨s, t, rfl, rfl⟩ | ⟨k, m, n, m', n', rfl, rfl⟩ | ⟨m, n, x, m', n', x', rfl, rfl⟩ | ⟨n, w, n', w', rfl, rfl⟩ | ⟨n, r, n', r', rfl, rfl⟩
    · rw [encStamp.inj _ _ h2]
    · simp only [Place.key, D.tup.injEq, List.cons.injEq, D.str.injEq, and_true] at h2
      rw [encStamp.inj _ _ h2.1, h2.2]
    · simp only [Place.key, D.tup.injEq, List.cons.injEq, D.str.injEq, and_true] at h2
      rw [encStamp.inj _ _ h2.1, h2.2.1, h2.2.2]
    · simp only [Place.key, D.tup.injEq, List.cons.injEq, D.str.injEq, and_true] at h2
      rw [h2.1, encWhat.inj _ _ h2.2]
    · simp only [Place.key, D.tup.injEq, List.cons.injEq, D.str.injEq, and_true] at h2
      rw [h2.1, h2.2], fun a => by cases a with
    | hush n w => cases w <;> rfl
    | _ => rfl, fun a => by
    cases a with
    | hush n w => cases w <;> simp [Place.toD, Place.key, What.toD, stampD, handD, dep, deps]
    | _ => simp [Place.toD, Place.key, stampD, handD, dep, deps], fun a => by
    cases a with
    | hush n w => cases w <;> simp [Place.toD, Place.key, What.toD, stampD, handD, kfit, kok, koks, dk, dks, NestedKey.depth, NestedKey.depthAll]
    | _ => simp [Place.toD, Place.key, stampD, handD, kfit, kok, koks, dk, dks, NestedKey.depth, NestedKey.depthAll]⟩
theorem cmp_place (a b : Place) : cmpP (pd a.toD) (pd b.toD) = true := by
  by_cases h1 : a.kind = b.kind
  · rcases Place.same h1 with ⟨s, t, rfl, rfl⟩ | ⟨k, m, n, m', n', rfl, rfl⟩ | ⟨m, n, x, m', n', x', rfl, rfl⟩ | ⟨n, w, n', w', rfl, rfl⟩ | ⟨n, r, n', r', rfl, rfl⟩
    · simp [Place.toD, Place.kind, Place.key, stampD, handD, pd, pds, cmpP, cmpAll, PySem.W.alike, PySem.W.alikeAll]
    · simp [Place.toD, Place.kind, Place.key, stampD, handD, pd, pds, cmpP, cmpAll, PySem.W.alike, PySem.W.alikeAll]
    · simp [Place.toD, Place.kind, Place.key, stampD, handD, pd, pds, cmpP, cmpAll, PySem.W.alike, PySem.W.alikeAll]
    · cases w <;> cases w' <;> simp [Place.toD, Place.kind, Place.key, What.toD, stampD, handD, pd, pds, cmpP, cmpAll, cmpX, cmpXs, PyData.plain, PyData.plainAll, PySem.W.alike, PySem.W.alikeAll, PyData.eqv, str_rp, str_ru, str_pu, str_rp.symm, str_ru.symm, str_pu.symm]
    · simp [Place.toD, Place.kind, Place.key, pd, pds, cmpP, cmpAll, PySem.W.alike, PySem.W.alikeAll]
  · simp [Place.toD, pd, pds, cmpP, cmpAll, PySem.W.alike, PySem.W.alikeAll, PyData.eqv, h1]
theorem okSrt_places (l : List Place) (hl : l.length ≤ 1000) : okSrt (l.map Place.toD) = true :=
  okCmp_mk (fun a _ => encPlace.pok a) (fun a _ => by have := encPlace.dep a; omega) (fun a _ b _ => cmp_place a b) hl
inductive Entry
  | say (num : Int) (r : Str) (u : Option Stamp) (s : Str) | text (st : Stamp) (s : Str) | flag (st : Stamp) (b : Bool) | vec (v : Vec) | mark
  deriving DecidableEq
def Entry.fst : Entry → D
  | .text st _ => stampD st
  | .flag st _ => stampD st
  | _ => .non
def Entry.snd : Entry → D
  | .say num r u s => .tup [.int num, .str r, underD u, .str s]
  | .text _ s => .str s
  | .flag _ b => .bl b
  | .vec v => vecD v
  | .mark => .non
def Entry.toD (e : Entry) : D := .tup [e.fst, e.snd]
def placeOf (d : Deed) : Place := match d.act with
  | .say _ _ _ => .say d.stamp
  | .change m _ => .mn .change m d.hand.1
  | .back m => .mn .back m d.hand.1
  | .like m x _ => .like m d.hand.1 x
  | .read r _ => .read d.hand.1 r
  | .seen m => .mn .seen m d.hand.1
  | .hush w _ => .hush d.hand.1 w
  | .rung m => .mn .rung m d.hand.1
def entryOf (d : Deed) : Entry := match d.act with
  | .say r u s => .say d.num r u s
  | .change _ s => .text d.stamp s
  | .like _ _ b => .flag d.stamp b
  | .read _ v => .vec v
  | .hush _ b => .flag d.stamp b
  | _ => .mark
end T3
set_option autoImplicit false
namespace T3
open PySem PySem.Spec PyProof.Rows L2
def getZ (m : List (Hnd × Int)) (x : Hnd) : Int := (getK m x).getD 0
theorem getZ_same (m : List (Hnd × Int)) (x : Hnd) (v : Int) : getZ (putK m x v) x = v := by unfold getZ; rw [getK_put_same]; rfl
theorem getZ_ne {m : List (Hnd × Int)} {x y : Hnd} (h : y ≠ x) (v : Int) : getZ (putK m x v) y = getZ m y := by unfold getZ; rw [getK_put_ne h]
def hndLt (a b : Hnd) : Prop := strLt a.1 b.1 ∨ a.1 = b.1 ∧ a.2 < b.2
theorem hands_rise (h : House) (ok : h.Ok) : h.hands.Pairwise hndLt := by
  unfold House.hands
  rw [List.pairwise_flatMap]
  constructor
  · intro p _
    rw [List.pairwise_map]
    exact List.pairwise_lt_range.imp fun {a b} hab => .inr ⟨rfl, by simp only; omega⟩
  · have := List.pairwise_map.mp ok.pr
    refine this.imp fun {p r} hpr x hx y hy => ?_
    obtain ⟨_, _, rfl⟩ := List.mem_map.mp hx
    obtain ⟨_, _, rfl⟩ := List.mem_map.mp hy
    exact .inl hpr
def cntStep (m : List (Hnd × Int)) (d : Deed) : List (Hnd × Int) := putK m d.hand (getZ m d.hand + 1)
def cntM (l : List Deed) : List (Hnd × Int) := l.foldl cntStep []
theorem cnt_len : ∀ (l : List Deed) (m : List (Hnd × Int)), (l.foldl cntStep m).length ≤ m.length + l.length
  | [], m => by simp
  | d :: l, m => by
    have := cnt_len l (cntStep m d)
    have : (cntStep m d).length ≤ m.length + 1 := putK_len _ _ _
    rw [List.foldl_cons, List.length_cons]; omega
theorem cnt_get : ∀ (l : List Deed) (m : List (Hnd × Int)) (x : Hnd), getZ (l.foldl cntStep m) x = getZ m x + ((ofHand x l).length : Int)
  | [], m, x => by simp [ofHand]
  | d :: l, m, x => by
    rw [List.foldl_cons, cnt_get l]
    unfold cntStep
    by_cases h : d.hand = x
    · subst h
      rw [getZ_same]
      simp [ofHand]
      omega
    · rw [getZ_ne (fun e => h e.symm)]
      simp [ofHand, h]
theorem cnt_nodup : ∀ (l : List Deed) (m : List (Hnd × Int)), (m.map (·.1)).Nodup → ((l.foldl cntStep m).map (·.1)).Nodup
  | [], m, h => h
  | d :: l, m, h => by rw [List.foldl_cons]; exact cnt_nodup l _ (putK_nodup h)
theorem cnt_keys : ∀ (l : List Deed) (m : List (Hnd × Int)) (x : Hnd), x ∈ (l.foldl cntStep m).map (·.1) ↔ x ∈ m.map (·.1) ∨ ∃ d ∈ l, d.hand = x
  | [], m, x => by simp
  | d :: l, m, x => by
    rw [List.foldl_cons, cnt_keys l]
    unfold cntStep
    rw [putK_keys]
    by_cases hm : d.hand ∈ m.map (·.1)
    · rw [if_pos hm]
      constructor
      · rintro (h | ⟨e, he, rfl⟩)
        · exact .inl h
        · exact .inr ⟨e, List.mem_cons_of_mem _ he, rfl⟩
      · rintro (h | ⟨e, he, rfl⟩)
        · exact .inl h
        · rcases List.mem_cons.mp he with rfl | he
          · exact .inl hm
          · exact .inr ⟨e, he, rfl⟩
    · rw [if_neg hm, List.mem_append]
      constructor
      · rintro ((h | h) | ⟨e, he, rfl⟩)
        · exact .inl h
        · simp at h; exact .inr ⟨d, List.mem_cons_self, h.symm⟩
        · exact .inr ⟨e, List.mem_cons_of_mem _ he, rfl⟩
      · rintro (h | ⟨e, he, rfl⟩)
        · exact .inl (.inl h)
        · rcases List.mem_cons.mp he with rfl | he
          · exact .inl (.inr (by simp))
          · exact .inr ⟨e, he, rfl⟩
theorem get0 (m : List (Hnd × Int)) (x : Hnd) : ((dget (kD handD D.int m) (handD x)).getD (D.int 0)) = .int (getZ m x) := by
  rw [kD_get encHand]; unfold getZ; cases getK m x <;> rfl
theorem d_counts_of (l : List Deed) (hl : l.length ≤ 1000) : F_counts_of (logD l) = W.ok (.md (kD handD .int (cntM l))) := by
  have z0 := sizeLine_eq
  unfold F_counts_of
  simp
  rw [W.each_mapB (fun m : List (Hnd × Int) => D.md (kD handD .int m)) cntStep (fun i m => m.length ≤ i) []]
  rotate_left
  · rfl
  · simp
  · intro i d m hd hi
    have hlt := (List.getElem?_eq_some_iff.mp hd).1
    have hz : (kD handD D.int m).length < sizeLine := by rw [kD_len]; omega
    refine ⟨by have : (cntStep m d).length ≤ m.length + 1 := putK_len _ _ _; omega, _, rfl, ?_⟩
    simp [encHand.fit, get0, hz, kD_put encHand, cntStep]
  · rfl
theorem cmp_pairV (a b : Hnd × Int) : cmpP (pd (pairV a)) (pd (pairV b)) = true := by
  simp [pairV, handD, pd, pds, cmpP, cmpAll, PySem.W.alike, PySem.W.alikeAll]
theorem keyPairV : Key pairV := ⟨encPairV, fun a b h => by
  simp [pairV, handD, pd, pds, PySem.W.keyToks, PySem.W.keyToksAll, cps_inj] at h
  exact Prod.ext (Prod.ext h.1 h.2.1) h.2.2⟩
theorem le_pairV {a b : Hnd × Int} (h : hndLt a.1 b.1) : leD (pairV a) (pairV b) := by
  show (!PyProof.Rows.lexLt PyProof.Rows.itemOrd (PySem.W.keyToks (pd (pairV b))) (PySem.W.keyToks (pd (pairV a)))) = true
  rw [Bool.not_eq_true']
  obtain ⟨⟨x, i⟩, n⟩ := a
  obtain ⟨⟨y, j⟩, m⟩ := b
  simp only [pairV, handD, pd, pds, PySem.W.keyToks, PySem.W.keyToksAll, List.cons_append, List.nil_append, List.append_nil]
  rw [lex_self (O := PyProof.Rows.itemOrd), lex_self (O := PyProof.Rows.itemOrd)]
  rcases h with h | ⟨h1, h2⟩
  · have hne : (Sum.inr y.cps.toList : Int ⊕ List Nat) ≠ .inr x.cps.toList := fun e => by
      have e2 : y.cps.toList = x.cps.toList := by simpa using e
      have h' : x.cps.toList < y.cps.toList := h
      rw [e2] at h'
      exact absurd h' (List.lt_irrefl _)
    rw [lex_diff (O := PyProof.Rows.itemOrd) hne]
    show decide (y.cps.toList < x.cps.toList) = false
    exact decide_eq_false (List.lt_asymm h)
  · simp only at h1 h2
    subst h1
    rw [lex_self (O := PyProof.Rows.itemOrd), lex_self (O := PyProof.Rows.itemOrd)]
    have hne : (Sum.inl j : Int ⊕ List Nat) ≠ .inl i := fun e => by
      have : j = i := by simpa using e
      omega
    rw [lex_diff (O := PyProof.Rows.itemOrd) hne]
    show decide (j < i) = false
    exact decide_eq_false (by omega)
theorem nodup_of_map {α β : Type} {f : α → β} {l : List α} (hn : (l.map f).Nodup) : l.Nodup := (List.pairwise_map.mp hn).imp fun {a b} h e => h (by rw [e])
theorem hndLt_ne {a b : Hnd} (h : hndLt a b) : a ≠ b := fun e => by
  subst e
  rcases h with h | ⟨_, h⟩
  · exact absurd h (List.lt_irrefl _)
  · omega
theorem hands_nodup (h : House) (ok : h.Ok) : h.hands.Nodup := (hands_rise h ok).imp fun {a b} hab => hndLt_ne hab
/-! ### vectors in the order of the hands -/
def vecH (hs : List Hnd) (f : Hnd → Int) : Vec := (hs.map fun x => (x, f x)).filter fun p => decide (0 < p.2)
theorem vecH_keys (hs : List Hnd) (f : Hnd → Int) : ((vecH hs f).map (·.1)).Sublist hs := by
  unfold vecH
  have : (((hs.map fun x => (x, f x)).filter fun p => decide (0 < p.2)).map (·.1)).Sublist ((hs.map fun x => (x, f x)).map (·.1)) := List.Sublist.map _ List.filter_sublist
  have e : ((hs.map fun x => (x, f x)).map (·.1)) = hs := by
    rw [List.map_map]
    exact List.map_id'' (fun _ => rfl) hs
  rw [e] at this
  exact this
theorem vecH_mem {hs : List Hnd} {f : Hnd → Int} {p : Hnd × Int} : p ∈ vecH hs f ↔ p.1 ∈ hs ∧ p.2 = f p.1 ∧ 0 < p.2 := by
  unfold vecH
  rw [List.mem_filter, List.mem_map]
  constructor
  · rintro ⟨⟨x, hx, rfl⟩, h⟩
    exact ⟨hx, rfl, by simpa using h⟩
  · rintro ⟨h1, h2, h3⟩
    exact ⟨⟨p.1, h1, Prod.ext rfl h2.symm⟩, by simpa using h3⟩
theorem vecH_in (hs : List Hnd) (f : Hnd → Int) : VecIn hs (vecH hs f) := ⟨vecH_keys hs f, fun p hp => by have := (vecH_mem.mp hp).2.2; omega⟩
theorem vecH_congr {hs : List Hnd} {f g : Hnd → Int} (h : ∀ x ∈ hs, f x = g x) : vecH hs f = vecH hs g := by
  unfold vecH
  rw [List.map_congr_left fun x hx => by rw [h x hx]]
theorem VecIn.nd {hs : List Hnd} (hn : hs.Nodup) {v : Vec} (hv : VecIn hs v) : (v.map (·.1)).Nodup := hv.sub.nodup hn
theorem getZ_mem {m : List (Hnd × Int)} (hn : (m.map (·.1)).Nodup) (hp : ∀ p ∈ m, 1 ≤ p.2) {p : Hnd × Int} : p ∈ m ↔ p.2 = getZ m p.1 ∧ 0 < p.2 := by
  constructor
  · intro h
    have e := getK_of_mem hn (show (p.1, p.2) ∈ m from h)
    have := hp p h
    exact ⟨by unfold getZ; rw [e]; rfl, by omega⟩
  · rintro ⟨h1, h2⟩
    unfold getZ at h1
    cases e : getK m p.1 with
    | none => rw [e] at h1; have : p.2 = 0 := h1; omega
    | some v =>
      rw [e] at h1
      have hv : v = p.2 := h1.symm
      rw [hv] at e
      exact getK_mem e
/-- a dict of hands with numbers above 0 -/
structure CntOk (hs : List Hnd) (m : List (Hnd × Int)) : Prop where
  nd : (m.map (·.1)).Nodup
  sub : ∀ x ∈ m.map (·.1), x ∈ hs
  pos : ∀ p ∈ m, 1 ≤ p.2
theorem CntOk.perm {hs : List Hnd} (hn : hs.Nodup) {m : List (Hnd × Int)} (ok : CntOk hs m) : (vecH hs (getZ m)).Perm m := by
  have n1 : (vecH hs (getZ m)).Nodup := nodup_of_map ((vecH_keys hs _).nodup hn)
  have n2 : m.Nodup := nodup_of_map ok.nd
  refine (List.perm_ext_iff_of_nodup n1 n2).mpr fun p => ?_
  rw [vecH_mem, getZ_mem ok.nd ok.pos]
  constructor
  · rintro ⟨_, h⟩; exact h
  · rintro ⟨h1, h2⟩
    exact ⟨ok.sub _ (List.mem_map.mpr ⟨p, (getZ_mem ok.nd ok.pos).mpr ⟨h1, h2⟩, rfl⟩), h1, h2⟩
theorem CntOk.len {hs : List Hnd} {m : List (Hnd × Int)} (ok : CntOk hs m) (hl : hs.length ≤ 12) : m.length ≤ 12 := by
  have : ∀ (ks xs : List Hnd), ks.Nodup → (∀ x ∈ ks, x ∈ xs) → ks.length ≤ xs.length := by
    intro ks
    induction ks with
    | nil => intro xs _ _; simp
    | cons k ks ih =>
      intro xs hn hs
      rw [List.nodup_cons] at hn
      have hk := hs k List.mem_cons_self
      have := ih (xs.erase k) hn.2 fun x hx => (List.mem_erase_of_ne (show x ≠ k from fun e => hn.1 (e ▸ hx))).mpr (hs x (List.mem_cons_of_mem _ hx))
      have l1 := List.length_erase_of_mem hk
      have l2 := List.length_pos_of_mem hk
      rw [List.length_cons]; omega
  have := this (m.map (·.1)) hs ok.nd ok.sub
  rw [List.length_map] at this
  omega
theorem vecH_sorted {h : House} (ok : h.Ok) (f : Hnd → Int) : (vecH h.hands f).Pairwise fun a b => leD (pairV a) (pairV b) := by
  have h1 := List.Pairwise.sublist (vecH_keys h.hands f) (hands_rise h ok)
  exact (List.pairwise_map.mp h1).imp fun {a b} hab => le_pairV hab
theorem le_handD {a b : Hnd} (h : hndLt a b) : leD (handD a) (handD b) := by
  show (!PyProof.Rows.lexLt PyProof.Rows.itemOrd (PySem.W.keyToks (pd (handD b))) (PySem.W.keyToks (pd (handD a)))) = true
  rw [Bool.not_eq_true']
  obtain ⟨x, i⟩ := a
  obtain ⟨y, j⟩ := b
  simp only [handD, pd, pds, PySem.W.keyToks, PySem.W.keyToksAll, List.cons_append, List.nil_append, List.append_nil]
  rw [lex_self (O := PyProof.Rows.itemOrd)]
  rcases h with h | ⟨h1, h2⟩
  · have hne : (Sum.inr y.cps.toList : Int ⊕ List Nat) ≠ .inr x.cps.toList := fun e => by
      have e2 : y.cps.toList = x.cps.toList := by simpa using e
      have h' : x.cps.toList < y.cps.toList := h
      rw [e2] at h'
      exact absurd h' (List.lt_irrefl _)
    rw [lex_diff (O := PyProof.Rows.itemOrd) hne]
    show decide (y.cps.toList < x.cps.toList) = false
    exact decide_eq_false (List.lt_asymm h)
  · simp only at h1 h2
    subst h1
    rw [lex_self (O := PyProof.Rows.itemOrd), lex_self (O := PyProof.Rows.itemOrd)]
    have hne : (Sum.inl j : Int ⊕ List Nat) ≠ .inl i := fun e => by
      have : j = i := by simpa using e
      omega
    rw [lex_diff (O := PyProof.Rows.itemOrd) hne]
    show decide (j < i) = false
    exact decide_eq_false (by omega)
theorem cmp_handD (a b : Hnd) : cmpP (pd (handD a)) (pd (handD b)) = true := by
  simp [handD, pd, pds, cmpP, cmpAll, PySem.W.alike, PySem.W.alikeAll]
theorem items_sorted {h : House} (ok : h.Ok) {m : List (Hnd × Int)} (dk : CntOk h.hands m) (A : AH) : fSortIS A (.dct (kD handD .int m)) = some (.ml ((vecH h.hands (getZ m)).map pairV)) := by
  have hlen : m.length ≤ 1000 := by have := dk.len (hands_len h ok); omega
  have hok : okSrt (m.map pairV) = true := okCmp_mk (fun a _ => encPairV.pok a) (fun a _ => by have := encPairV.dep a; omega) (fun a _ b _ => cmp_pairV a b) hlen
  have hs : sortD (m.map pairV) = (vecH h.hands (getZ m)).map pairV := by
    rw [sortD_same keyPairV (dk.perm (hands_nodup h ok)).symm]
    obtain ⟨v, ev, hp, hr⟩ := sortD_map pairV (vecH h.hands (getZ m))
    rw [ev]
    congr 1
    exact pw_unique (fun a b h1 h2 => keyPairV.tok a b (leD_anti h1 h2)) hp hr (vecH_sorted ok _)
  show (if okSrt (entsD (kD handD .int m)) = true then some (D.ml (sortD (entsD (kD handD .int m)))) else none) = _
  rw [entsD_kD, show (m.map fun p => D.tup [handD p.1, .int p.2]) = m.map pairV from rfl, if_pos hok, hs]
theorem keys_sorted {h : House} (ok : h.Ok) {m : List (Hnd × Int)} (dk : CntOk h.hands m) (A : AH) : fSortedS A [.dct (kD handD .int m)] = some (.ml ((vecH h.hands (getZ m)).map fun p => handD p.1)) := by
  have hlen : m.length ≤ 1000 := by have := dk.len (hands_len h ok); omega
  have hok : okSrt ((m.map (·.1)).map handD) = true := okCmp_mk (fun a _ => encHand.pok a) (fun a _ => by have := encHand.dep a; omega) (fun a _ b _ => cmp_handD a b) (by rw [List.length_map]; exact hlen)
  have hs : sortD ((m.map (·.1)).map handD) = ((vecH h.hands (getZ m)).map (·.1)).map handD := by
    rw [sortD_same keyHand ((dk.perm (hands_nodup h ok)).map (·.1)).symm]
    obtain ⟨v, ev, hp, hr⟩ := sortD_map handD ((vecH h.hands (getZ m)).map (·.1))
    rw [ev]
    congr 1
    refine pw_unique (fun a b h1 h2 => keyHand.tok a b (leD_anti h1 h2)) hp hr ?_
    exact (List.Pairwise.sublist (vecH_keys h.hands _) (hands_rise h ok)).imp fun {a b} hab => le_handD hab
  rw [fSortedS_one]
  have er : rowOf A (.dct (kD handD D.int m)) = some ((m.map (·.1)).map handD) := by
    show some ((kD handD D.int m).map (·.1)) = _
    unfold kD; rw [List.map_map, List.map_map]; rfl
  rw [er, Option.bind_some, if_pos hok, hs, List.map_map]; rfl
theorem cnt_ok {h : House} {l : List Deed} (hh : ∀ d ∈ l, d.hand ∈ h.hands) : CntOk h.hands (cntM l) := by
  have hn := cnt_nodup l [] (by simp)
  refine ⟨hn, fun x hx => ?_, fun p hp => ?_⟩
  · rcases (cnt_keys l [] x).mp hx with h1 | ⟨d, hd, rfl⟩
    · simp at h1
    · exact hh d hd
  · have e := getK_of_mem hn (show (p.1, p.2) ∈ l.foldl cntStep [] from hp)
    have hg := cnt_get l [] p.1
    unfold getZ at hg
    rw [e] at hg
    have : p.1 ∈ (l.foldl cntStep []).map (·.1) := List.mem_map.mpr ⟨p, hp, rfl⟩
    rcases (cnt_keys l [] p.1).mp this with h1 | ⟨d, hd, hh'⟩
    · simp at h1
    · have hm : d ∈ ofHand p.1 l := List.mem_filter.mpr ⟨hd, by simpa using hh'⟩
      have := List.length_pos_of_mem hm
      simp [getK] at hg
      omega
def cvec (hs : List Hnd) (l : List Deed) : Vec := vecH hs fun x => ((ofHand x l).length : Int)
theorem d_vector_of {h : House} (ok : h.Ok) {l : List Deed} (hl : l.length ≤ 1000) (hh : ∀ d ∈ l, d.hand ∈ h.hands) : F_vector_of (logD l) = W.ok (vecD (cvec h.hands l)) := by
  unfold F_vector_of
  simp [d_counts_of l hl]
  have er : ∀ A, fSortIS A (.dct (kD handD .int (cntM l))) = some (.ml ((cvec h.hands l).map pairV)) := fun A => by
    rw [items_sorted ok (cnt_ok hh)]
    unfold cvec
    rw [vecH_congr (g := fun x => ((ofHand x l).length : Int)) fun x _ => by
      have := cnt_get l [] x
      have hz : getZ [] x = 0 := rfl
      rw [hz, Int.zero_add] at this
      exact this]
  simp [er]
  rfl
def gmax (hs : List Hnd) (v w : Vec) : Vec := vecH hs fun x => max (getZ v x) (getZ w x)
theorem mx_get : ∀ (w : Vec), (w.map (·.1)).Nodup → (∀ p ∈ w, 1 ≤ p.2) → ∀ (m : List (Hnd × Int)) (x : Hnd), getZ (w.foldl (fun m p => putK m p.1 (max (getZ m p.1) p.2)) m) x = max (getZ m x) (getZ w x) ∨ (getZ w x = 0 ∧ getZ (w.foldl (fun m p => putK m p.1 (max (getZ m p.1) p.2)) m) x = getZ m x)
  | [], _, _, m, x => .inr ⟨rfl, rfl⟩
  | p :: w, hn, hp, m, x => by
    rw [List.map_cons, List.nodup_cons] at hn
    rw [List.foldl_cons]
    have e1 : getZ (p :: w) x = if p.1 = x then p.2 else getZ w x := by
      unfold getZ; rw [getK]; split <;> rfl
    have ih := mx_get w hn.2 (fun q hq => hp q (List.mem_cons_of_mem _ hq)) (putK m p.1 (max (getZ m p.1) p.2)) x
    by_cases c : p.1 = x
    · subst c
      have ez : getZ w p.1 = 0 := by unfold getZ; rw [getK_none.mpr hn.1]; rfl
      rw [e1, if_pos rfl]
      rw [getZ_same, ez] at ih
      have hp1 := hp p List.mem_cons_self
      left
      rcases ih with h1 | h1
      · rw [h1]; omega
      · rw [h1.2]
    · rw [e1, if_neg c]
      rw [getZ_ne (fun e => c e.symm)] at ih
      exact ih
theorem mx_keys : ∀ (w : Vec) (m : List (Hnd × Int)), (m.map (·.1)).Nodup → (∀ p ∈ m, 1 ≤ p.2) → (∀ p ∈ w, 1 ≤ p.2) → ((w.foldl (fun m p => putK m p.1 (max (getZ m p.1) p.2)) m).map (·.1)).Nodup ∧ (∀ x ∈ (w.foldl (fun m p => putK m p.1 (max (getZ m p.1) p.2)) m).map (·.1), x ∈ m.map (·.1) ∨ x ∈ w.map (·.1)) ∧ ∀ p ∈ w.foldl (fun m p => putK m p.1 (max (getZ m p.1) p.2)) m, 1 ≤ p.2
  | [], m, hn, hp, _ => ⟨hn, fun x hx => .inl hx, hp⟩
  | q :: w, m, hn, hp, hw => by
    rw [List.foldl_cons]
    have hq := hw q List.mem_cons_self
    obtain ⟨h1, h2, h3⟩ := mx_keys w (putK m q.1 (max (getZ m q.1) q.2)) (putK_nodup hn) (fun p hp' => by
      rcases putK_mem hp' with e | e
      · rw [e]; simp only; omega
      · exact hp p e) fun p hp' => hw p (List.mem_cons_of_mem _ hp')
    refine ⟨h1, fun x hx => ?_, h3⟩
    rcases h2 x hx with e | e
    · rw [putK_keys] at e
      split at e
      · exact .inl e
      · rcases List.mem_append.mp e with e | e
        · exact .inl e
        · simp at e; exact .inr (by rw [e]; exact List.mem_cons_self)
    · exact .inr (List.mem_cons_of_mem _ e)
theorem mx_ok {hs : List Hnd} (hn : hs.Nodup) {v w : Vec} (hv : VecIn hs v) (hw : VecIn hs w) : CntOk hs (w.foldl (fun m p => putK m p.1 (max (getZ m p.1) p.2)) v) ∧ ∀ x, getZ (w.foldl (fun m p => putK m p.1 (max (getZ m p.1) p.2)) v) x = max (getZ v x) (getZ w x) := by
  obtain ⟨h1, h2, h3⟩ := mx_keys w v (hv.nd hn) hv.pos hw.pos
  refine ⟨⟨h1, fun x hx => (h2 x hx).elim (fun e => hv.sub.subset e) fun e => hw.sub.subset e, h3⟩, fun x => ?_⟩
  rcases mx_get w (hw.nd hn) hw.pos v x with e | ⟨e1, e2⟩
  · exact e
  · rw [e2, e1]
    have : 0 ≤ getZ v x := by
      unfold getZ
      cases e : getK v x with
      | none => exact Int.le_refl _
      | some n => have := hv.pos _ (getK_mem e); show 0 ≤ n; simp only at this; omega
    omega
theorem VecIn.len {hs : List Hnd} {v : Vec} (hv : VecIn hs v) (hl : hs.length ≤ 12) : v.length ≤ 12 := by
  have := hv.sub.length_le
  rw [List.length_map] at this
  omega
theorem dict_vecV (A : AH) {v : Vec} (hv : (v.map (·.1)).Nodup) : fDict A [vecD v] = some (.md (kD handD .int v)) := by
  rw [vecD_eq, fDict_tup, pairsOf_map (f := handD) (g := D.int) (e := pairV) encHand.fit (fun _ => rfl), Option.map_some, mkD_kD encHand D.int v hv]
theorem d_greater_counts {h : House} (ok : h.Ok) {v w : Vec} (hv : VecIn h.hands v) (hw : VecIn h.hands w) : F_greater_counts (vecD v) (vecD w) = W.ok (vecD (gmax h.hands v w)) := by
  have z0 := sizeLine_eq
  have hlen := hands_len h ok
  have hnd := hands_nodup h ok
  obtain ⟨dk, hg⟩ := mx_ok hnd hv hw
  unfold F_greater_counts
  have hvl := hv.len hlen
  have hwl := hw.len hlen
  have p2 : ∀ p : Hnd × Int, W.p2 (pairV p) = some (handD p.1, .int p.2) := fun _ => rfl
  rw [show vecD w = .tup (w.map pairV) from rfl]
  simp [dict_vecV _ (hv.nd hnd)]
  rw [W.each_mapB (fun m : List (Hnd × Int) => D.md (kD handD .int m)) (fun m p => putK m p.1 (max (getZ m p.1) p.2)) (fun i m => m.length ≤ 12 + i) v]
  rotate_left
  · rfl
  · omega
  · intro i p m hp hi
    have hlt := (List.getElem?_eq_some_iff.mp hp).1
    have hz : (kD handD D.int m).length < sizeLine := by rw [kD_len]; omega
    refine ⟨by have : (putK m p.1 (max (getZ m p.1) p.2)).length ≤ m.length + 1 := putK_len _ _ _; omega, _, p2 p, ?_⟩
    have em : (if getZ m p.1 > p.2 then getZ m p.1 else p.2) = max (getZ m p.1) p.2 := by
      split <;> omega
    simp [encHand.fit, get0, hz, kD_put encHand, em]
  · have er : ∀ A, fSortIS A (.dct (kD handD .int (w.foldl (fun m p => putK m p.1 (max (getZ m p.1) p.2)) v))) = some (.ml ((gmax h.hands v w).map pairV)) := fun A => by
      rw [items_sorted ok dk]
      unfold gmax
      rw [vecH_congr fun x _ => hg x]
    simp [er]
    rfl
end T3
set_option autoImplicit false
namespace T3
open PySem PySem.Spec PyProof.Rows L2
structure MadeA (h : House) (hs : List Hnd) (L : List Deed) (ss : List Stamp) (cs ls : List (Hnd × Int)) : Prop extends Pre h hs L where
  says : ∀ s ∈ ss, StampIn hs s
  cnt : ∀ x ∈ hs, getZ cs x = ((ofHand x L).length : Int)
  last : ∀ x ∈ hs, 0 ≤ getZ ls x ∧ ∀ d ∈ L, d.hand = x → d.time ≤ getZ ls x
theorem MadeA.step {h : House} {hs : List Hnd} {L : List Deed} {ss : List Stamp} {cs ls : List (Hnd × Int)} (M : MadeA h hs L ss cs ls) {x : Hnd} (hx : x ∈ hs) {t : Int} (ht : getZ ls x < t) {w : Act} (hw : ActIn h hs w) {ss' : List Stamp} (hs' : ∀ s ∈ ss', s ∈ ss ∨ s = (t, x)) :
    MadeA h hs (L ++ [⟨t, x, ((ofHand x L).length : Int), w⟩]) ss' (putK cs x ((ofHand x L).length + 1)) (putK ls x t) := by
  have hl := M.last x hx
  refine ⟨⟨fun d hd => ?_, ?_, fun y hy => ?_⟩, fun s hs2 => ?_, fun y hy => ?_, fun y hy => ?_⟩
  · rcases List.mem_append.mp hd with hd | hd
    · exact M.deed d hd
    · simp at hd; subst hd
      exact ⟨by simp only; omega, hx, by simp only; omega, hw⟩
  · rw [List.pairwise_append]
    refine ⟨M.rise, by simp, fun d hd e he => ?_⟩
    simp at he; subst he
    intro hh
    simp only at hh ⊢
    refine ⟨by have := hl.2 d hd hh; omega, ?_⟩
    have hm : d ∈ ofHand x L := List.mem_filter.mpr ⟨hd, by simpa using hh⟩
    have hn : d.num ∈ (ofHand x L).map (·.num) := List.mem_map.mpr ⟨d, hm, rfl⟩
    rw [M.nums x hx] at hn
    obtain ⟨j, hj, e⟩ := List.mem_map.mp hn
    have := List.mem_range.mp hj
    rw [← e]; simp; omega
  · rw [ofHand_snoc]
    by_cases e : x = y
    · subst e
      rw [if_pos rfl, List.map_append, M.nums x hx, List.length_append, List.length_singleton, List.range_succ, List.map_append]
      rfl
    · rw [if_neg e]; exact M.nums y hy
  · rcases hs' s hs2 with h | rfl
    · exact M.says s h
    · exact ⟨by simp only; omega, hx⟩
  · rw [ofHand_snoc]
    by_cases e : x = y
    · subst e
      rw [if_pos rfl, getZ_same, List.length_append]; simp
    · rw [if_neg e, getZ_ne (fun z => e z.symm)]; exact M.cnt y hy
  · by_cases e : x = y
    · subst e
      rw [getZ_same]
      refine ⟨by omega, fun d hd he => ?_⟩
      rcases List.mem_append.mp hd with hd | hd
      · have := hl.2 d hd he; omega
      · simp at hd; subst hd; simp
    · rw [getZ_ne (fun z => e z.symm)]
      refine ⟨(M.last y hy).1, fun d hd he => ?_⟩
      rcases List.mem_append.mp hd with hd | hd
      · exact (M.last y hy).2 d hd he
      · simp at hd; subst hd; exact absurd he e
theorem okSort_stamps (l : List Stamp) (hl : l.length ≤ 1000) : okSort (l.map stampD) = true := by
  have hz : l.length ≤ sizeLine := line_of (by omega)
  have hp : poks (l.map stampD) = true := encStamp.cod.poks l
  simp only [okSort, hp, Bool.true_and, List.length_map, hz, decide_true, Bool.and_true, Bool.and_eq_true, Bool.or_eq_true, List.all_eq_true, decide_eq_true_eq]
  refine ⟨⟨fun a ha b hb => ?_, .inl fun a ha => ?_⟩, fun a ha => ?_⟩
  · obtain ⟨x, _, rfl⟩ := List.mem_map.mp ha
    obtain ⟨y, _, rfl⟩ := List.mem_map.mp hb
    simp [stampD, handD, pd, pds, PySem.W.alike, PySem.W.alikeAll]
  · obtain ⟨x, _, rfl⟩ := List.mem_map.mp ha; rfl
  · obtain ⟨x, _, rfl⟩ := List.mem_map.mp ha
    have := encStamp.dep x; omega
theorem sortKD_map {α : Type} (f : α → D) (key : D → D) (l : List α) : ∃ l' : List α, sortKD key (l.map f) = l'.map f ∧ l'.Perm l ∧ l'.Pairwise fun a b => leD (key (f a)) (key (f b)) := by
  obtain ⟨l', hp, e⟩ := perm_map_ex (show (sortKD key (l.map f)).Perm (l.map f) from List.mergeSort_perm _ _)
  refine ⟨l', e, hp, ?_⟩
  have hs : (sortKD key (l.map f)).Pairwise fun a b => PySem.W.dataLe false (fun d => pd (key d)) a b = true := PySem.W.sort_pairwise (PySem.W.sortLe_total _ false _) (l.map f)
  rw [e, List.pairwise_map] at hs
  exact hs
def key2 : D → D
  | .tup xs => .tup (cutD xs none (some 2))
  | d => d
theorem key2_deed (d : Deed) : key2 d.toD = stampD d.stamp := rfl
theorem getZ_in {m : List (Hnd × Int)} {x : Hnd} (h : getZ m x ≠ 0) : getZ m x ∈ m.map (·.2) := by
  unfold getZ at h ⊢
  cases e : getK m x with
  | none => rw [e] at h; exact absurd rfl h
  | some v => exact List.mem_map.mpr ⟨(x, v), getK_mem e, rfl⟩
theorem getZ_D (m : List (Hnd × Int)) (x : Hnd) : ((dget (kD handD D.int m) (handD x)).getD (D.int 0)) = .int (getZ m x) := by
  rw [kD_get encHand]; unfold getZ; cases getK m x <;> rfl
theorem fGet_refD {A : AH} {b : Addr} {xs : List (D × D)} (h : A b = some (.dct xs)) (k d : D) (hk : kfit k = true) : fGet A (.ref b) [k, d] = some ((dget xs k).getD d) := by simp [fGet, vw, h, hk]
theorem okDct_refD {A : AH} {b : Addr} {xs : List (D × D)} (h : A b = some (.dct xs)) : okDct A (.ref b) = true := by simp [okDct, vw, h]
theorem comp_hd {ι δ : Type} {pt : D → Option δ} {tt : δ → W Bool} {te : δ → W D} {A : AH} {ws : Ws} (hw : Held A ws) (inj : ι → D) (c : ι → Bool) (g : ι → D) {Q : D → AH → Prop} {E : X3} : ∀ (xs : List ι) (acc : List D), acc.length + xs.length ≤ sizeLine →
    (∀ x ∈ xs, ∃ y, pt (inj x) = some y ∧ (∀ K : Bool → AH → Prop, K (c x) A → tt y A K E) ∧ (c x = true → ∀ K : D → AH → Prop, K (g x) A → te y A K E)) → Q (.ml (acc ++ (xs.filter c).map fun x => frz (g x))) A → W.comp ws pt tt te (xs.map inj) acc A Q E
  | [], acc, _, _, q => by
    simp only [List.map_nil, W.comp, W.bind_ap]
    exact ⟨hw, by simpa [W.ok] using q⟩
  | x :: xs, acc, hl, h, q => by
    obtain ⟨y, e1, e2, e3⟩ := h x List.mem_cons_self
    rw [List.length_cons] at hl
    simp only [List.map_cons, W.comp, W.bind_ap, e1]
    refine ⟨hw, e2 _ ?_⟩
    cases hc : c x with
    | false =>
      simp only [Bool.false_eq_true, if_false]
      refine comp_hd hw inj c g xs acc (by omega) (fun x hx => h x (List.mem_cons_of_mem _ hx)) ?_
      rw [List.filter_cons, hc] at q
      exact q
    | true =>
      simp only [if_true, W.bind_ap]
      refine e3 hc _ ?_
      have hlt : acc.length < sizeLine := by omega
      simp only [hlt, if_true]
      refine comp_hd hw inj c g xs _ (by rw [List.length_append, List.length_singleton]; omega) (fun x hx => h x (List.mem_cons_of_mem _ hx)) ?_
      rw [List.filter_cons, hc] at q
      simpa using q
theorem d_log {A : AH} (ns : List Int) (hn : ns.length ≤ 63) (h : House) (ok : h.Ok) (Q : D → AH → Prop) (E : X3)
    (q : ∀ l A', LogOk h h.hands l → l.length = ns.length → (∀ b ob, A b = some ob → A' b = some ob) → Q (logD l) A') : F_logE (.lst (ns.map .int)) h.toD A Q E := by
  have z0 := sizeLine_eq
  have hlen := hands_len h ok
  have hne := List.length_pos_iff.mpr (hands_ne h ok)
  unfold F_logE
  simp [d_hands h ok]
  intro a ha b hb
  have hab : a ≠ b := fun e => by subst e; simp [put] at hb
  have hA0 : A b = none := by
    cases e : A b with
    | none => rfl
    | some ob => rw [put_ne (Ne.symm hab), e] at hb; cases hb
  refine W.each_wp E (fun i (t : D × D × D × D) A' => ∃ (L : List Deed) (ss : List Stamp) (cs ls : List (Hnd × Int)), t = (.ref a, .ref b, .md (kD handD .int cs), .ml (L.map Deed.toD)) ∧ A' a = some (.lst (ss.map stampD)) ∧ A' b = some (.dct (kD handD .int ls)) ∧ (∀ c ob, A c = some ob → A' c = some ob) ∧ L.length = i ∧ ss.length ≤ i ∧ cs.length ≤ i ∧ ls.length ≤ i ∧ (ls.map (·.1)).Nodup ∧ MadeA h h.hands L ss cs ls) _ 0 _ _ ?_ (fun i x t A' hx hi => ?_) fun t A' hi => ?_
  · refine ⟨[], [], [], [], rfl, by rw [put_ne hab, put_same]; rfl, put_same, fun c ob hc => ?_, rfl, by simp, by simp, by simp, by simp, ⟨⟨by simp, by simp, by simp [ofHand]⟩, by simp, by simp [getZ, getK, ofHand], by simp [getZ, getK]⟩⟩
    rw [put_ne (fun e => by subst e; rw [hA0] at hc; cases hc), put_ne (fun e => by subst e; rw [ha] at hc; cases hc)]
    exact hc
  · obtain ⟨L, ss, cs, ls, rfl, hA, hB, hk, hL, hss, hcs, hls, hnd, M⟩ := hi
    simp only [Nat.zero_add] at hL hss hcs hls
    rw [List.getElem?_map] at hx
    obtain ⟨n, hh, rfl⟩ := Option.map_eq_some_iff.mp hx
    have hi2 : i < ns.length := (List.getElem?_eq_some_iff.mp hh).1
    refine ⟨_, rfl, fun K k => ?_⟩
    rw [Nat.zero_add] at k
    simp
    refine d_rest n A' _ _ fun r => ?_
    obtain ⟨x, hx, ex⟩ := hands_pick (hs := h.hands) (r := r % (h.hands.length : Int)) (Int.emod_nonneg _ (by omega)) (Int.emod_lt_of_pos _ (by omega))
    have hb128 : (h.hands.length : Int) < 340282366920938463463374607431768211456 := by omega
    obtain ⟨r', hr'⟩ : ∃ r', r' = r / (h.hands.length : Int) := ⟨_, rfl⟩
    simp [ex, hne, hb128, okDct_refD hB, fGet_refD hB _ _ (encHand.fit x), getZ_D, ← hr']
    have tail : ∀ t : Int, getZ ls x < t → F_actE (.int (r' / 24)) h.toD (.lst (h.hands.map handD)) (.ref a) A' (fun d A' => ∃ x_1, A' b = some x_1 ∧ ∃ x_2, gDSet x_1 (handD x) (.int t) = some x_2 ∧ ∃ d_1, (kfit (handD x) = true ∧ D.int (getZ cs x) = d_1) ∧ W.rd (frz d) (put A' b x_2) (fun a_1 A1 => ∃ ob', (L.length < sizeLine ∧ Ob.lst (L.map Deed.toD ++ [.tup [.int t, handD x, frz d_1, a_1]]) = ob') ∧ obOf (dOf ob') = some ob' ∧ ∃ d_2, (kfit (handD x) = true ∧ D.int (getZ cs x) = d_2) ∧ ∃ d_3, fAdd A1 (frz d_2) (.int 1) = some d_3 ∧ (kfit (handD x) = true ∧ (kD handD D.int cs).length < sizeLine) ∧ ∃ d_4, fIxA A1 (frz (frz d)) (.int 0) = some d_4 ∧ ∃ d, fEq A1 (frz d_4) (.str "say") = some d ∧ (d = .bl false ∧ K (.ref a, .ref b, .md (dput (kD handD D.int cs) (handD x) (frz d_3)), dOf ob') A1 ∨ d = .bl true ∧ ∃ x_3, A1 a = some x_3 ∧ okL x_3 = true ∧ ∃ ob1, A1 a = some ob1 ∧ ∃ x_4, (∃ x_5, gAppend ob1 [.tup [.int t, handD x]] = some (x_4, x_5)) ∧ K (.ref a, .ref b, .md (dput (kD handD D.int cs) (handD x) (frz d_3)), dOf ob') (put A1 a x_4))) E) (fun _ _ _ => False) := fun t ht => by
      refine d_act hA (by omega) h ok M.says _ _ _ fun act hact => ?_
      have zL : L.length < sizeLine := by omega
      have zS : (ss.map stampD).length < sizeLine := by rw [List.length_map]; omega
      have lc : (kD handD D.int cs).length < sizeLine := by rw [kD_len]; omega
      have ll : (kD handD D.int ls).length < sizeLine := by rw [kD_len]; omega
      have hz0 : getZ cs x = ((ofHand x L).length : Int) := M.cnt x hx
      have eput : gDSet (.dct (kD handD D.int ls)) (handD x) (.int t) = some (.dct (kD handD D.int (putK ls x t))) := by
        rw [gDSet_dct, if_pos ⟨encHand.fit _, ll⟩, kD_put encHand]
      have ra : W.rd (frz act.toD) = W.ok act.toD := by rw [codAct.frz]; exact T3.W.rd_of (codAct.own act)
      refine ⟨_, hB, _, eput, _, ⟨encHand.fit _, rfl⟩, ?_⟩
      rw [ra, W.ok_ap]
      have eL : Ob.lst (L.map Deed.toD ++ [.tup [.int t, handD x, frz (.int (getZ cs x)), act.toD]]) = .lst ((L ++ [Deed.mk t x ((ofHand x L).length : Int) act]).map Deed.toD) := by
        rw [hz0, List.map_append]; rfl
      refine ⟨_, ⟨zL, eL⟩, rfl, _, ⟨encHand.fit _, rfl⟩, _, fAdd_int .., ⟨encHand.fit _, lc⟩, .str act.kind, by rw [codAct.frz, codAct.frz]; exact ix_act0 _ _, .bl (decide (act.kind = ("say" : Str))), ?_, ?_⟩
      · show fEq _ (.str act.kind) (.str "say") = _
        simp
      have ec : dput (kD handD D.int cs) (handD x) (frz (.int (getZ cs x + 1))) = kD handD D.int (putK cs x (((ofHand x L).length : Int) + 1)) := by
        rw [hz0]; exact kD_put encHand _ _ _ _
      have lp := putK_len x (((ofHand x L).length : Int) + 1) cs
      have lp2 := putK_len x t ls
      have keep1 : ∀ ob1, ∀ c ob', A c = some ob' → put A' b ob1 c = some ob' := fun ob1 c ob' hc => by
        have hcb : c ≠ b := fun e => by subst e; rw [hA0] at hc; cases hc
        rw [put_ne hcb]; exact hk c ob' hc
      have keep2 : ∀ ob1 ob2, ∀ c ob', A c = some ob' → put (put A' b ob1) a ob2 c = some ob' := fun ob1 ob2 c ob' hc => by
        have hca : c ≠ a := fun e => by subst e; rw [ha] at hc; cases hc
        rw [put_ne hca]; exact keep1 ob1 c ob' hc
      have hA1 : ∀ ob, put A' b ob a = some (.lst (ss.map stampD)) := fun ob => by rw [put_ne hab]; exact hA
      by_cases hsay : act.kind = ("say" : Str)
      · rw [decide_eq_true hsay]
        have eg : gAppend (.lst (ss.map stampD)) [.tup [.int t, handD x]] = some (.lst ((ss ++ [(t, x)]).map stampD), .non) := by
          rw [gAppend_lst, if_pos zS, List.map_append]; rfl
        refine .inr ⟨rfl, _, hA1 _, rfl, _, hA1 _, _, ⟨_, eg⟩, ?_⟩
        rw [ec]
        exact k _ _ ⟨_, ss ++ [(t, x)], _, putK ls x t, rfl, put_same, by rw [put_ne (Ne.symm hab), put_same], keep2 _ _, by simp [hL], by simp; omega, by omega, by omega, putK_nodup hnd, M.step (ss' := ss ++ [(t, x)]) hx ht hact fun s hs2 => by simpa using hs2⟩
      · rw [decide_eq_false hsay]
        refine .inl ⟨rfl, ?_⟩
        rw [ec]
        exact k _ _ ⟨_, ss, _, putK ls x t, rfl, hA1 _, put_same, keep1 _, by simp [hL], by omega, by omega, by omega, putK_nodup hnd, M.step (ss' := ss) hx ht hact fun s hs2 => .inl hs2⟩
    have h4 : 0 ≤ r' / 4 % 6 := Int.emod_nonneg _ (by decide)
    by_cases c2 : r' % 4 < 2
    · refine .inr ⟨c2, ?_⟩
      rw [keysW_ref hB]
      show W.comp [(b, [D.md (kD handD D.int ls)])] _ _ _ _ _ _ _ _
      have ek : keysD (kD handD D.int ls) = ls.map fun p => handD p.1 := by unfold keysD kD; rw [List.map_map]; rfl
      rw [ek]
      refine comp_hd (held_dct hB) (fun p : Hnd × Int => handD p.1) (fun _ => true) (fun p => .int p.2) ls [] (by simp; omega) (fun p hp => ⟨_, rfl, fun K k => k, fun _ K k => ?_⟩) ?_
      · have eg : fIxA A' (.ref b) (frz (handD p.1)) = some (.int p.2) := by
          rw [fIxA_refD hB, codHand.frz, if_pos (encHand.fit _), kD_get encHand, getK_of_mem hnd hp]; rfl
        exact ⟨_, eg, k⟩
      have efl : ([] : List D) ++ ((ls.filter fun _ => true).map fun x => frz (D.int x.2)) = (ls.map (·.2)).map D.int := by
        rw [List.filter_eq_self.mpr fun _ _ => rfl, List.nil_append, List.map_map]; rfl
      rw [efl]
      have ea : fAdd A' (D.lst [D.int 0]) (frz (.ml ((ls.map (·.2)).map D.int))) = some (.ml (.int 0 :: (ls.map (·.2)).map D.int)) := by
        have h1 : lim (([D.int 0] : List D).length + ((ls.map (·.2)).map D.int).length) = true := lim_of (by simp; omega)
        rw [frz_ml, fAdd_lst, if_pos h1]; rfl
      obtain ⟨mx, emx, mx0, mall⟩ := fMax_ints A' 0 (ls.map (·.2))
      have hle : getZ ls x ≤ mx := by
        by_cases h0 : getZ ls x = 0
        · omega
        · exact mall _ (getZ_in h0)
      exact ⟨_, ea, _, emx, _, fAdd_int .., tail (1 + mx) (by omega)⟩
    · exact .inl ⟨by omega, tail _ (by omega)⟩
  · obtain ⟨L, ss, cs, ls, rfl, hA, hB, hk, hL, hss, hcs, hls, hnd, M⟩ := hi
    rw [List.length_map, Nat.zero_add] at hL
    obtain ⟨l, el, hpl, hsr⟩ := sortKD_map Deed.toD key2 L
    have hlz : l.length ≤ sizeLine := by rw [hpl.length_eq]; omega
    have ekey : (L.map Deed.toD).map key2 = (L.map Deed.stamp).map stampD := by rw [List.map_map, List.map_map]; rfl
    simp
    refine W.sortK_of (L.map Deed.toD) key2 rfl (fun x hx Q' E' h' => ?_) (by rw [ekey]; exact okSort_stamps _ (by simp; omega)) ?_
    · obtain ⟨d, hd, rfl⟩ := List.mem_map.mp hx
      rw [key2_deed] at h'
      have ecut' : ∀ A, fSl A d.toD none (some 2) = some (stampD d.stamp) := fun A => rfl
      simp [ecut']
      exact h'
    · rw [el]
      simp [hlz]
      exact q l A' ⟨L, hpl, M.toPre, hsr⟩ (by rw [hpl.length_eq, hL]) hk
end T3
set_option autoImplicit false
namespace T3
open PySem PySem.Spec PyProof.Rows L2
/-! ### methods with one default -/
section
variable {P : Program} {w : World} {K : PySem.W.Frag} {mg : Str → Option Value} {base : Heap}
variable [Cls3]
end
section
variable {E : X3} {z : S3} {t1 t2 t3 t4 : TE3} {r1 r2 r3 r4 : W D} {d : D}
end
end T3
set_option autoImplicit false
namespace T3
open PySem PySem.Spec PyProof.Rows L2
variable [Cls3]
/-- Pack.__init__(self, house, log); slots 0:self 1:house 2:log 3:deed 4:place 5:entry -/
def N_Pack_init__ : List Str := ["self", "house", "log", "deed", "place", "entry"]
def F_Pack_init__ (self_1 house_2 log_3 : D) : W D :=
  W.bind (W.rd house_2) fun v_4 => W.bind (W.rd self_1) fun o_5 => W.bind (W.setF "Pack" "house" o_5 v_4) fun _ =>
  W.bind (W.s1 F_vector_of (W.rd log_3)) fun v_6 => W.bind (W.rd self_1) fun o_7 => W.bind (W.setF "Pack" "counted" o_7 v_6) fun _ =>
  W.bind (W.bind (W.ok (.md [])) W.shareX) fun v_8 => W.bind (W.rd self_1) fun o_9 => W.bind (W.setF "Pack" "entries" o_9 v_8) fun _ =>
  W.bind (W.iS (W.rd log_3)) fun it_15 => W.bind (W.each it_15.2 W.p1 (fun (s_10 : Unit) (y_12 : D) =>
  (W.bind (W.s1 F_entry_of (W.rd y_12)) fun d_14 => W.un W.p2 (frz d_14) fun (y_13 : D × D) =>
  W.bind (W.s3 F_put_into (W.fzW (W.fld "Pack" "entries" (W.rd self_1))) (W.rd y_13.1) (W.rd y_13.2)) fun _ =>
  (W.ok () : W (Unit)) : W (Unit))) it_15.1 ()) fun (s_11 : Unit) =>
  W.ok .non
def b_Pack_init__ : TS3 := sSeq (sFldD "Pack" "house" (eV 0) (eV 1)) (sSeq (sFldD "Pack" "counted" (eV 0) (eCall (sp1 F_vector_of) [] (aCons (fz (eV 2)) (aNil)))) (sSeq (sFldD "Pack" "entries" (eV 0) (eSh (eDNew))) (sFgt [3, 4, 5] (sSeq (sFor (iS (eV 2)) (.nm 3) (sSeq (sAsgP (.tp [4, 5]) (eCall (sp1 F_entry_of) [] (aCons (fz (eV 3)) (aNil)))) (sSeq (sDrop (eCall (sp3 F_put_into) [] (aCons (fz (eFld "Pack" "entries" (eV 0))) (aCons (fz (eV 4)) (aCons (fz (eV 5)) (aNil)))))) (sFgt [3, 4, 5] (sNil))))) (sNil)))))
theorem j_Pack_init__ (E : X3) (self_1 house_2 log_3 : D) : JS E b_Pack_init__ [some self_1, some house_2, some log_3, none, none, none] (F_Pack_init__ self_1 house_2 log_3) NF NB NB W.ok := by
  unfold b_Pack_init__ F_Pack_init__
  exact js_fld (je_v rfl) (je_v rfl) (js_fld (je_v rfl) (je_s1 (je_fzv rfl)) (js_fld (je_v rfl) (je_sh (je_dnew)) (js_fgt [some self_1, some house_2, some log_3, none, none, none] rfl (js_each (fun (s_10 : Unit) => [some self_1, some house_2, some log_3, none, none, none]) (fun (s_10 : Unit) (y_12 : D) => [some self_1, some house_2, some log_3, some y_12, none, none]) () rfl (ji_s (je_v rfl)) (fun _ => pk1) (fun s_10 y_12 => js_pat (fun (y_13 : D × D) => [some self_1, some house_2, some log_3, some y_12, some y_13.1, some y_13.2]) pk2 (je_s1 (je_fzv rfl)) (fun y_13 => js_drop (je_s3 (je_fz (je_fld (je_v rfl))) (je_fzv rfl) (je_fzv rfl)) (fun _ => js_fgt [some self_1, some house_2, some log_3, none, none, none] rfl (js_nil (⟨_, rfl, rfl⟩))))) (fun s_11 => js_nil (rfl))))))
theorem m_Pack_init__ (ds A Q) (h : sp3 F_Pack_init__ ds A Q (fun _ _ _ => False)) : b_Pack_init__ { nx := fun _ A' => Q .non A', rt := Q } (start3 N_Pack_init__ ds) A := by
  obtain ⟨self_1, house_2, log_3, rfl, u⟩ := h
  exact js_def (fun E => j_Pack_init__ E _ _ _) u
/-- Pack.table(self); slots 0:self 1:found 2:place 3:stamp 4:value -/
def N_Pack_table : List Str := ["self", "found", "place", "stamp", "value"]
def F_Pack_table (self_1 : D) : W D :=
  W.bind (W.lstA (W.anil)) fun found_2 =>
  W.bind (W.iS (W.bN fSortedS (W.acons (W.fzW (W.fld "Pack" "entries" (W.rd self_1))) (W.anil)))) fun it_9 => W.bind (W.each it_9.2 W.p1 (fun (s_3 : D) (y_5 : D) =>
  (W.bind (W.b2 fIxA (W.fzW (W.fld "Pack" "entries" (W.rd self_1))) (W.ok (frz y_5))) fun d_8 => W.un W.p2 (frz d_8) fun (y_6 : D × D) =>
  W.bind (W.mu okL gAppend s_3 (W.acons (W.fzW (W.tupA (W.acons (W.fzW (W.b2 fIxA (W.ok (frz y_5)) (W.ok (.int 0)))) (W.acons (W.fzW (W.b2 fIxA (W.ok (frz y_5)) (W.ok (.int 1)))) (W.acons (W.rd y_6.1) (W.acons (W.rd y_6.2) (W.anil))))))) (W.anil))) fun found_7 =>
  (W.ok found_7 : W (D)) : W (D))) it_9.1 found_2) fun (s_4 : D) =>
  W.bind (W.bN fTuple (W.acons (W.ok (frz s_4)) (W.anil))) (W.ok)
def b_Pack_table : TS3 := sSeq (sSet 1 (eLst (aNil))) (sFgt [2, 3, 4] (sSeq (sFor (iS (eN fSortedS (aCons (fz (eFld "Pack" "entries" (eV 0))) (aNil)))) (.nm 2) (sSeq (sAsgP (.tp [3, 4]) (e2 fIxA (fz (eFld "Pack" "entries" (eV 0))) (eB 2))) (sSeq (sM 1 okL gAppend (aCons (fz (eTup (aCons (fz (e2 fIxA (eB 2) (fz (eC (.int 0))))) (aCons (fz (e2 fIxA (eB 2) (fz (eC (.int 1))))) (aCons (fz (eV 3)) (aCons (fz (eV 4)) (aNil))))))) (aNil)) kDrop) (sFgt [2, 3, 4] (sNil))))) (sSeq (sRet (eN fTuple (aCons (eB 1) (aNil)))) (sNil))))
theorem j_Pack_table (E : X3) (self_1 : D) : JS E b_Pack_table [some self_1, none, none, none, none] (F_Pack_table self_1) NF NB NB W.ok := by
  unfold b_Pack_table F_Pack_table
  exact js_set (fun found_2 => [some self_1, some found_2, none, none, none]) (je_lst (ja_nil)) (fun _ => rfl) (fun found_2 => js_fgt [some self_1, some found_2, none, none, none] rfl (js_each (fun (s_3 : D) => [some self_1, some s_3, none, none, none]) (fun (s_3 : D) (y_5 : D) => [some self_1, some s_3, some y_5, none, none]) found_2 rfl (ji_s (je_eN (ja_cons (je_fz (je_fld (je_v rfl))) (ja_nil)))) (fun _ => pk1) (fun s_3 y_5 => js_pat (fun (y_6 : D × D) => [some self_1, some s_3, some y_5, some y_6.1, some y_6.2]) pk2 (je_e2 (je_fz (je_fld (je_v rfl))) (je_b rfl)) (fun y_6 => js_mu (fun found_7 => [some self_1, some found_7, some y_5, some y_6.1, some y_6.2]) rfl (ja_cons (je_fz (je_tup (ja_cons (je_fz (je_e2 (je_b rfl) (je_fzc))) (ja_cons (je_fz (je_e2 (je_b rfl) (je_fzc))) (ja_cons (je_fzv rfl) (ja_cons (je_fzv rfl) (ja_nil))))))) (ja_nil)) (fun _ => rfl) (fun found_7 => js_fgt [some self_1, some found_7, none, none, none] rfl (js_nil (⟨_, rfl, rfl⟩))))) (fun s_4 => js_ret (je_eN (ja_cons (je_b rfl) (ja_nil))))))
theorem m_Pack_table (ds A Q) (h : sp1 F_Pack_table ds A Q (fun _ _ _ => False)) : b_Pack_table { nx := fun _ A' => Q .non A', rt := Q } (start3 N_Pack_table ds) A := by
  obtain ⟨self_1, rfl, u⟩ := h
  exact js_def (fun E => j_Pack_table E _) u
/-- Pack.vector(self); slots 0:self -/
def N_Pack_vector : List Str := ["self"]
def F_Pack_vector (self_1 : D) : W D :=
  W.bind (W.fld "Pack" "counted" (W.rd self_1)) (W.ok)
def b_Pack_vector : TS3 := sSeq (sRet (eFld "Pack" "counted" (eV 0))) (sNil)
theorem j_Pack_vector (E : X3) (self_1 : D) : JS E b_Pack_vector [some self_1] (F_Pack_vector self_1) NF NB NB W.ok := by
  unfold b_Pack_vector F_Pack_vector
  exact js_ret (je_fld (je_v rfl))
theorem m_Pack_vector (ds A Q) (h : sp1 F_Pack_vector ds A Q (fun _ _ _ => False)) : b_Pack_vector { nx := fun _ A' => Q .non A', rt := Q } (start3 N_Pack_vector ds) A := by
  obtain ⟨self_1, rfl, u⟩ := h
  exact js_def (fun E => j_Pack_vector E _) u
end T3
set_option autoImplicit false
namespace T3
open PySem PySem.Spec PyProof.Rows L2
variable [Cls3]
/-- same(found, due_here); slots 0:found 1:due_here 2:one 3:other -/
def N_same : List Str := ["_law_found", "_law_due_here", "_law_one", "_law_other"]
def F_same : Nat → D → D → W D
  | 0, _, _ => W.bad
  | n + 1, found_1, duehere_2 =>
  W.ite (W.tT (W.b2 fIsN (W.ok (frz duehere_2)) (W.ok .non))) (W.bind (W.b2 fIsN (W.ok (frz found_1)) (W.ok .non)) (W.ok)) (
  W.ite (W.tT (W.b1 (fIsi "bool") (W.ok (frz duehere_2)))) (W.bind (W.andE (W.b1 (fIsi "bool") (W.ok (frz found_1))) (W.b2 fEq (W.ok (frz found_1)) (W.ok (frz duehere_2)))) (W.ok)) (
  W.ite (W.tT (W.b1 (fIsi "str") (W.ok (frz duehere_2)))) (W.bind (W.andE (W.b1 (fIsi "str") (W.ok (frz found_1))) (W.b2 fEq (W.ok (frz found_1)) (W.ok (frz duehere_2)))) (W.ok)) (
  W.ite (W.tT (W.b1 (fIsi "int") (W.ok (frz duehere_2)))) (W.bind (W.andE (W.b1 (fIsi "int") (W.ok (frz found_1))) (W.andE (W.notE (W.b1 (fIsi "bool") (W.ok (frz found_1)))) (W.b2 fEq (W.ok (frz found_1)) (W.ok (frz duehere_2))))) (W.ok)) (
  W.ite (W.andT (W.tT (W.b1 (fIsi "list") (W.ok (frz duehere_2)))) (W.notT (W.tT (W.b1 (fIsi "list") (W.ok (frz found_1)))))) (W.bind (W.ok (.bl false)) (W.ok)) (
  W.ite (W.andT (W.tT (W.b1 (fIsi "tuple") (W.ok (frz duehere_2)))) (W.notT (W.tT (W.b1 (fIsi "tuple") (W.ok (frz found_1)))))) (W.bind (W.ok (.bl false)) (W.ok)) (
  W.ite (W.tT (W.b2 fNe (W.fzW (W.bN fLen (W.acons (W.ok (frz found_1)) (W.anil)))) (W.fzW (W.bN fLen (W.acons (W.ok (frz duehere_2)) (W.anil)))))) (W.bind (W.ok (.bl false)) (W.ok)) (
  W.bind (W.iZ (W.rd found_1) (W.rd duehere_2)) fun it_6 => W.bind (W.loop it_6.2 W.p2 (fun (s_3 : Unit) (y_5 : D × D) =>
  (W.ite (W.notT (W.tT (W.s2 (F_same n) (W.rd y_5.1) (W.rd y_5.2)))) (W.bind (W.ok (.bl false)) (fun d => W.ok (.rt d))) (
  (W.ok (.nx ()) : W (Fl (Unit)))) : W (Fl (Unit)))) it_6.1 ()) (W.out (W.ok) fun (s_4 : Unit) =>
  W.bind (W.ok (.bl true)) (W.ok)))))))))
def b_same (self : Sp3) : TS3 := sSeq (sIf (tV (e2 fIsN (eB 1) (fz (eC .non)))) (sSeq (sRet (e2 fIsN (eB 0) (fz (eC .non)))) (sNil)) (sNil)) (sSeq (sIf (tV (e1 (fIsi "bool") (eB 1))) (sSeq (sRet (eAnd (e1 (fIsi "bool") (eB 0)) (e2 fEq (eB 0) (eB 1)))) (sNil)) (sNil)) (sSeq (sIf (tV (e1 (fIsi "str") (eB 1))) (sSeq (sRet (eAnd (e1 (fIsi "str") (eB 0)) (e2 fEq (eB 0) (eB 1)))) (sNil)) (sNil)) (sSeq (sIf (tV (e1 (fIsi "int") (eB 1))) (sSeq (sRet (eAnd (e1 (fIsi "int") (eB 0)) (eAnd (eNot (e1 (fIsi "bool") (eB 0))) (e2 fEq (eB 0) (eB 1))))) (sNil)) (sNil)) (sSeq (sIf (tAnd3 (tV (e1 (fIsi "list") (eB 1))) (tNot3 (tV (e1 (fIsi "list") (eB 0))))) (sSeq (sRet (eC (.bl false))) (sNil)) (sNil)) (sSeq (sIf (tAnd3 (tV (e1 (fIsi "tuple") (eB 1))) (tNot3 (tV (e1 (fIsi "tuple") (eB 0))))) (sSeq (sRet (eC (.bl false))) (sNil)) (sNil)) (sSeq (sIf (tV (e2 fNe (fz (eN fLen (aCons (eB 0) (aNil)))) (fz (eN fLen (aCons (eB 1) (aNil)))))) (sSeq (sRet (eC (.bl false))) (sNil)) (sNil)) (sFgt [2, 3] (sSeq (sFor (iZp (aCons (fz (eV 0)) (aCons (fz (eV 1)) (aNil)))) (.tp [2, 3]) (sSeq (sIf (tNot3 (tV (eCall self [] (aCons (fz (eV 2)) (aCons (fz (eV 3)) (aNil)))))) (sSeq (sRet (eC (.bl false))) (sNil)) (sNil)) (sFgt [2, 3] (sNil)))) (sSeq (sRet (eC (.bl true))) (sNil))))))))))
theorem j_same (n : Nat) (E : X3) (found_1 duehere_2 : D) : JS E (b_same (sp2 (F_same n))) [some found_1, some duehere_2, none, none] (F_same (n + 1) found_1 duehere_2) NF NB NB W.ok := by
  unfold b_same
  rw [F_same]
  exact js_if (jt_val (je_e2 (je_b rfl) (je_fzc))) (js_assoc (js_ret (je_e2 (je_b rfl) (je_fzc)))) (js_nilseq (js_if (jt_val (je_e1 (je_b rfl))) (js_assoc (js_ret (je_and (je_e1 (je_b rfl)) (je_e2 (je_b rfl) (je_b rfl))))) (js_nilseq (js_if (jt_val (je_e1 (je_b rfl))) (js_assoc (js_ret (je_and (je_e1 (je_b rfl)) (je_e2 (je_b rfl) (je_b rfl))))) (js_nilseq (js_if (jt_val (je_e1 (je_b rfl))) (js_assoc (js_ret (je_and (je_e1 (je_b rfl)) (je_and (je_not (je_e1 (je_b rfl))) (je_e2 (je_b rfl) (je_b rfl)))))) (js_nilseq (js_if (jt_and (jt_val (je_e1 (je_b rfl))) (jt_not (jt_val (je_e1 (je_b rfl))))) (js_assoc (js_ret (je_c))) (js_nilseq (js_if (jt_and (jt_val (je_e1 (je_b rfl))) (jt_not (jt_val (je_e1 (je_b rfl))))) (js_assoc (js_ret (je_c))) (js_nilseq (js_if (jt_val (je_e2 (je_fz (je_eN (ja_cons (je_b rfl) (ja_nil)))) (je_fz (je_eN (ja_cons (je_b rfl) (ja_nil)))))) (js_assoc (js_ret (je_c))) (js_nilseq (js_fgt [some found_1, some duehere_2, none, none] rfl (js_loop (fun (s_3 : Unit) => [some found_1, some duehere_2, none, none]) (fun (s_3 : Unit) (y_5 : D × D) => [some found_1, some duehere_2, some y_5.1, some y_5.2]) () rfl (ji_z (je_fzv rfl) (je_fzv rfl)) (fun _ => pk2) (fun s_3 y_5 => js_if (jt_not (jt_val (je_s2 (je_fzv rfl) (je_fzv rfl)))) (js_assoc (js_ret (je_c))) (js_nilseq (js_fgt [some found_1, some duehere_2, none, none] rfl (js_nil (⟨_, rfl, rfl⟩))))) (fun s_4 => js_ret (je_c)))))))))))))))))
theorem m_same (n : Nat) (ds A Q) (h : sp2 (F_same (n + 1)) ds A Q (fun _ _ _ => False)) : b_same (sp2 (F_same n)) { nx := fun _ A' => Q .non A', rt := Q } (start3 N_same ds) A := by
  obtain ⟨found_1, duehere_2, rfl, u⟩ := h
  exact js_def (fun E => j_same n E _ _) u
/-- kept(deed); slots 0:deed 1:time 2:hand 3:number 4:act_here -/
def N_kept : List Str := ["_law_deed", "_law_time", "_law_hand", "_law_number", "_law_act_here"]
def F_kept (deed_1 : D) : W D :=
  W.bind (W.rd deed_1) fun d_3 => W.un W.p4 (frz d_3) fun (y_2 : D × D × D × D) =>
  W.ite (W.tT (W.b2 fEq (W.fzW (W.b2 fIxA (W.ok (frz y_2.2.2.2)) (W.ok (.int 0)))) (W.ok (.str "say")))) (W.bind (W.tupA (W.acons (W.fzW (W.tupA (W.acons (W.ok (.str "say")) (W.acons (W.fzW (W.tupA (W.acons (W.rd y_2.1) (W.acons (W.rd y_2.2.1) (W.anil))))) (W.anil))))) (W.acons (W.ok .non) (W.acons (W.fzW (W.b2 fAdd (W.fzW (W.tupA (W.acons (W.rd y_2.2.2.1) (W.anil)))) (W.fzW (W.bS (W.ok (frz y_2.2.2.2)) (W.oA (W.ok (.int 1))) (W.oN))))) (W.anil))))) (W.ok)) (
  W.ite (W.tT (W.b2 fEq (W.fzW (W.b2 fIxA (W.ok (frz y_2.2.2.2)) (W.ok (.int 0)))) (W.ok (.str "hush")))) (W.bind (W.tupA (W.acons (W.fzW (W.tupA (W.acons (W.ok (.str "hush")) (W.acons (W.fzW (W.tupA (W.acons (W.fzW (W.b2 fIxA (W.ok (frz y_2.2.1)) (W.ok (.int 0)))) (W.acons (W.fzW (W.b2 fIxA (W.ok (frz y_2.2.2.2)) (W.ok (.int 1)))) (W.anil))))) (W.anil))))) (W.acons (W.fzW (W.tupA (W.acons (W.rd y_2.1) (W.acons (W.rd y_2.2.1) (W.anil))))) (W.acons (W.fzW (W.b2 fIxA (W.ok (frz y_2.2.2.2)) (W.ok (.int 2)))) (W.anil))))) (W.ok)) (
  W.ite (W.tT (W.b2 fEq (W.fzW (W.b2 fIxA (W.ok (frz y_2.2.2.2)) (W.ok (.int 0)))) (W.ok (.str "read")))) (W.bind (W.tupA (W.acons (W.fzW (W.tupA (W.acons (W.ok (.str "read")) (W.acons (W.fzW (W.tupA (W.acons (W.fzW (W.b2 fIxA (W.ok (frz y_2.2.1)) (W.ok (.int 0)))) (W.acons (W.fzW (W.b2 fIxA (W.ok (frz y_2.2.2.2)) (W.ok (.int 1)))) (W.anil))))) (W.anil))))) (W.acons (W.ok .non) (W.acons (W.fzW (W.b2 fIxA (W.ok (frz y_2.2.2.2)) (W.ok (.int 2)))) (W.anil))))) (W.ok)) (
  W.ite (W.tT (W.b2 fEq (W.fzW (W.b2 fIxA (W.ok (frz y_2.2.2.2)) (W.ok (.int 0)))) (W.ok (.str "like")))) (W.bind (W.tupA (W.acons (W.fzW (W.tupA (W.acons (W.ok (.str "like")) (W.acons (W.fzW (W.tupA (W.acons (W.fzW (W.b2 fIxA (W.ok (frz y_2.2.2.2)) (W.ok (.int 1)))) (W.acons (W.fzW (W.b2 fIxA (W.ok (frz y_2.2.1)) (W.ok (.int 0)))) (W.acons (W.fzW (W.b2 fIxA (W.ok (frz y_2.2.2.2)) (W.ok (.int 2)))) (W.anil)))))) (W.anil))))) (W.acons (W.fzW (W.tupA (W.acons (W.rd y_2.1) (W.acons (W.rd y_2.2.1) (W.anil))))) (W.acons (W.fzW (W.b2 fIxA (W.ok (frz y_2.2.2.2)) (W.ok (.int 3)))) (W.anil))))) (W.ok)) (
  W.ite (W.tT (W.b2 fEq (W.fzW (W.b2 fIxA (W.ok (frz y_2.2.2.2)) (W.ok (.int 0)))) (W.ok (.str "change")))) (W.bind (W.tupA (W.acons (W.fzW (W.tupA (W.acons (W.ok (.str "change")) (W.acons (W.fzW (W.tupA (W.acons (W.fzW (W.b2 fIxA (W.ok (frz y_2.2.2.2)) (W.ok (.int 1)))) (W.acons (W.fzW (W.b2 fIxA (W.ok (frz y_2.2.1)) (W.ok (.int 0)))) (W.anil))))) (W.anil))))) (W.acons (W.fzW (W.tupA (W.acons (W.rd y_2.1) (W.acons (W.rd y_2.2.1) (W.anil))))) (W.acons (W.fzW (W.b2 fIxA (W.ok (frz y_2.2.2.2)) (W.ok (.int 2)))) (W.anil))))) (W.ok)) (
  W.bind (W.tupA (W.acons (W.fzW (W.tupA (W.acons (W.fzW (W.b2 fIxA (W.ok (frz y_2.2.2.2)) (W.ok (.int 0)))) (W.acons (W.fzW (W.tupA (W.acons (W.fzW (W.b2 fIxA (W.ok (frz y_2.2.2.2)) (W.ok (.int 1)))) (W.acons (W.fzW (W.b2 fIxA (W.ok (frz y_2.2.1)) (W.ok (.int 0)))) (W.anil))))) (W.anil))))) (W.acons (W.ok .non) (W.acons (W.ok .non) (W.anil))))) (W.ok))))))
def b_kept : TS3 := sSeq (sAsgP (.tp [1, 2, 3, 4]) (eV 0)) (sSeq (sIf (tV (e2 fEq (fz (e2 fIxA (eB 4) (fz (eC (.int 0))))) (fz (eC (.str "say"))))) (sSeq (sRet (eTup (aCons (fz (eTup (aCons (fz (eC (.str "say"))) (aCons (fz (eTup (aCons (fz (eV 1)) (aCons (fz (eV 2)) (aNil))))) (aNil))))) (aCons (fz (eC .non)) (aCons (fz (e2 fAdd (fz (eTup (aCons (fz (eV 3)) (aNil)))) (fz (eSl (eB 4) (oAt (eC (.int 1))) (oNo))))) (aNil)))))) (sNil)) (sNil)) (sSeq (sIf (tV (e2 fEq (fz (e2 fIxA (eB 4) (fz (eC (.int 0))))) (fz (eC (.str "hush"))))) (sSeq (sRet (eTup (aCons (fz (eTup (aCons (fz (eC (.str "hush"))) (aCons (fz (eTup (aCons (fz (e2 fIxA (eB 2) (fz (eC (.int 0))))) (aCons (fz (e2 fIxA (eB 4) (fz (eC (.int 1))))) (aNil))))) (aNil))))) (aCons (fz (eTup (aCons (fz (eV 1)) (aCons (fz (eV 2)) (aNil))))) (aCons (fz (e2 fIxA (eB 4) (fz (eC (.int 2))))) (aNil)))))) (sNil)) (sNil)) (sSeq (sIf (tV (e2 fEq (fz (e2 fIxA (eB 4) (fz (eC (.int 0))))) (fz (eC (.str "read"))))) (sSeq (sRet (eTup (aCons (fz (eTup (aCons (fz (eC (.str "read"))) (aCons (fz (eTup (aCons (fz (e2 fIxA (eB 2) (fz (eC (.int 0))))) (aCons (fz (e2 fIxA (eB 4) (fz (eC (.int 1))))) (aNil))))) (aNil))))) (aCons (fz (eC .non)) (aCons (fz (e2 fIxA (eB 4) (fz (eC (.int 2))))) (aNil)))))) (sNil)) (sNil)) (sSeq (sIf (tV (e2 fEq (fz (e2 fIxA (eB 4) (fz (eC (.int 0))))) (fz (eC (.str "like"))))) (sSeq (sRet (eTup (aCons (fz (eTup (aCons (fz (eC (.str "like"))) (aCons (fz (eTup (aCons (fz (e2 fIxA (eB 4) (fz (eC (.int 1))))) (aCons (fz (e2 fIxA (eB 2) (fz (eC (.int 0))))) (aCons (fz (e2 fIxA (eB 4) (fz (eC (.int 2))))) (aNil)))))) (aNil))))) (aCons (fz (eTup (aCons (fz (eV 1)) (aCons (fz (eV 2)) (aNil))))) (aCons (fz (e2 fIxA (eB 4) (fz (eC (.int 3))))) (aNil)))))) (sNil)) (sNil)) (sSeq (sIf (tV (e2 fEq (fz (e2 fIxA (eB 4) (fz (eC (.int 0))))) (fz (eC (.str "change"))))) (sSeq (sRet (eTup (aCons (fz (eTup (aCons (fz (eC (.str "change"))) (aCons (fz (eTup (aCons (fz (e2 fIxA (eB 4) (fz (eC (.int 1))))) (aCons (fz (e2 fIxA (eB 2) (fz (eC (.int 0))))) (aNil))))) (aNil))))) (aCons (fz (eTup (aCons (fz (eV 1)) (aCons (fz (eV 2)) (aNil))))) (aCons (fz (e2 fIxA (eB 4) (fz (eC (.int 2))))) (aNil)))))) (sNil)) (sNil)) (sSeq (sRet (eTup (aCons (fz (eTup (aCons (fz (e2 fIxA (eB 4) (fz (eC (.int 0))))) (aCons (fz (eTup (aCons (fz (e2 fIxA (eB 4) (fz (eC (.int 1))))) (aCons (fz (e2 fIxA (eB 2) (fz (eC (.int 0))))) (aNil))))) (aNil))))) (aCons (fz (eC .non)) (aCons (fz (eC .non)) (aNil)))))) (sNil)))))))
theorem j_kept (E : X3) (deed_1 : D) : JS E b_kept [some deed_1, none, none, none, none] (F_kept deed_1) NF NB NB W.ok := by
  unfold b_kept F_kept
  exact js_pat (fun (y_2 : D × D × D × D) => [some deed_1, some y_2.1, some y_2.2.1, some y_2.2.2.1, some y_2.2.2.2]) pk4 (je_v rfl) (fun y_2 => js_if (jt_val (je_e2 (je_fz (je_e2 (je_b rfl) (je_fzc))) (je_fzc))) (js_assoc (js_ret (je_tup (ja_cons (je_fz (je_tup (ja_cons (je_fzc) (ja_cons (je_fz (je_tup (ja_cons (je_fzv rfl) (ja_cons (je_fzv rfl) (ja_nil))))) (ja_nil))))) (ja_cons (je_fzc) (ja_cons (je_fz (je_e2 (je_fz (je_tup (ja_cons (je_fzv rfl) (ja_nil)))) (je_fz (je_sl (je_b rfl) (jo_at (je_c)) (jo_no))))) (ja_nil))))))) (js_nilseq (js_if (jt_val (je_e2 (je_fz (je_e2 (je_b rfl) (je_fzc))) (je_fzc))) (js_assoc (js_ret (je_tup (ja_cons (je_fz (je_tup (ja_cons (je_fzc) (ja_cons (je_fz (je_tup (ja_cons (je_fz (je_e2 (je_b rfl) (je_fzc))) (ja_cons (je_fz (je_e2 (je_b rfl) (je_fzc))) (ja_nil))))) (ja_nil))))) (ja_cons (je_fz (je_tup (ja_cons (je_fzv rfl) (ja_cons (je_fzv rfl) (ja_nil))))) (ja_cons (je_fz (je_e2 (je_b rfl) (je_fzc))) (ja_nil))))))) (js_nilseq (js_if (jt_val (je_e2 (je_fz (je_e2 (je_b rfl) (je_fzc))) (je_fzc))) (js_assoc (js_ret (je_tup (ja_cons (je_fz (je_tup (ja_cons (je_fzc) (ja_cons (je_fz (je_tup (ja_cons (je_fz (je_e2 (je_b rfl) (je_fzc))) (ja_cons (je_fz (je_e2 (je_b rfl) (je_fzc))) (ja_nil))))) (ja_nil))))) (ja_cons (je_fzc) (ja_cons (je_fz (je_e2 (je_b rfl) (je_fzc))) (ja_nil))))))) (js_nilseq (js_if (jt_val (je_e2 (je_fz (je_e2 (je_b rfl) (je_fzc))) (je_fzc))) (js_assoc (js_ret (je_tup (ja_cons (je_fz (je_tup (ja_cons (je_fzc) (ja_cons (je_fz (je_tup (ja_cons (je_fz (je_e2 (je_b rfl) (je_fzc))) (ja_cons (je_fz (je_e2 (je_b rfl) (je_fzc))) (ja_cons (je_fz (je_e2 (je_b rfl) (je_fzc))) (ja_nil)))))) (ja_nil))))) (ja_cons (je_fz (je_tup (ja_cons (je_fzv rfl) (ja_cons (je_fzv rfl) (ja_nil))))) (ja_cons (je_fz (je_e2 (je_b rfl) (je_fzc))) (ja_nil))))))) (js_nilseq (js_if (jt_val (je_e2 (je_fz (je_e2 (je_b rfl) (je_fzc))) (je_fzc))) (js_assoc (js_ret (je_tup (ja_cons (je_fz (je_tup (ja_cons (je_fzc) (ja_cons (je_fz (je_tup (ja_cons (je_fz (je_e2 (je_b rfl) (je_fzc))) (ja_cons (je_fz (je_e2 (je_b rfl) (je_fzc))) (ja_nil))))) (ja_nil))))) (ja_cons (je_fz (je_tup (ja_cons (je_fzv rfl) (ja_cons (je_fzv rfl) (ja_nil))))) (ja_cons (je_fz (je_e2 (je_b rfl) (je_fzc))) (ja_nil))))))) (js_nilseq (js_ret (je_tup (ja_cons (je_fz (je_tup (ja_cons (je_fz (je_e2 (je_b rfl) (je_fzc))) (ja_cons (je_fz (je_tup (ja_cons (je_fz (je_e2 (je_b rfl) (je_fzc))) (ja_cons (je_fz (je_e2 (je_b rfl) (je_fzc))) (ja_nil))))) (ja_nil))))) (ja_cons (je_fzc) (ja_cons (je_fzc) (ja_nil))))))))))))))))
theorem m_kept (ds A Q) (h : sp1 F_kept ds A Q (fun _ _ _ => False)) : b_kept { nx := fun _ A' => Q .non A', rt := Q } (start3 N_kept ds) A := by
  obtain ⟨deed_1, rfl, u⟩ := h
  exact js_def (fun E => j_kept E _) u
/-- greater(one, other); slots 0:one 1:other 2:counts 3:hand 4:count -/
def N_greater : List Str := ["_law_one", "_law_other", "_law_counts", "_law_hand", "_law_count"]
def F_greater (one_1 other_2 : D) : W D :=
  W.bind (W.ok (.md [])) fun counts_3 =>
  W.bind (W.iS (W.b2 fAdd (W.fzW (W.bN fListA (W.acons (W.ok (frz one_1)) (W.anil)))) (W.fzW (W.bN fListA (W.acons (W.ok (frz other_2)) (W.anil)))))) fun it_11 => W.bind (W.each it_11.2 W.p2 (fun (s_4 : D) (y_6 : D × D) =>
  (W.bind (W.bN fMax2 (W.acons (W.fzW (W.bM okDct fGet (W.ok (frz s_4)) (W.acons (W.rd y_6.1) (W.acons (W.ok (.int 0)) (W.anil))))) (W.acons (W.ok (frz y_6.2)) (W.anil)))) fun v_7 => W.bind (W.rd y_6.1) fun k_8 => W.bind (W.pt gDSet s_4 k_8 v_7) fun counts_9 =>
  (W.ok counts_9 : W (D)) : W (D))) it_11.1 counts_3) fun (s_5 : D) =>
  W.bind (W.bN fTuple (W.acons (W.fzW (W.lc (W.iS (W.bN fSortedS (W.acons (W.ok (frz (frz s_5))) (W.anil)))) W.p1 (fun (y_10 : D) => W.ok true) (fun (y_10 : D) => W.tupA (W.acons (W.rd y_10) (W.acons (W.fzW (W.b2 fIxA (W.ok (frz (frz s_5))) (W.ok (frz y_10)))) (W.anil)))))) (W.anil))) (W.ok)
def b_greater : TS3 := sSeq (sSet 2 (eDNew)) (sFgt [3, 4] (sSeq (sFor (iS (e2 fAdd (fz (eN fListA (aCons (eB 0) (aNil)))) (fz (eN fListA (aCons (eB 1) (aNil)))))) (.tp [3, 4]) (sSeq (sPut 2 gDSet (eV 3) (eN fMax2 (aCons (fz (eM okDct fGet (eB 2) (aCons (fz (eV 3)) (aCons (fz (eC (.int 0))) (aNil))))) (aCons (eB 4) (aNil))))) (sFgt [3, 4] (sNil)))) (sFgt [3] (sFz 2 (sSeq (sRet (eN fTuple (aCons (fz (eLc (iS (eN fSortedS (aCons (eB 2) (aNil)))) (.nm 3) (tYes3) (eTup (aCons (fz (eV 3)) (aCons (fz (e2 fIxA (eB 2) (eB 3))) (aNil)))) [3])) (aNil)))) (sNil))))))
theorem j_greater (E : X3) (one_1 other_2 : D) : JS E b_greater [some one_1, some other_2, none, none, none] (F_greater one_1 other_2) NF NB NB W.ok := by
  unfold b_greater F_greater
  exact js_set (fun counts_3 => [some one_1, some other_2, some counts_3, none, none]) (je_dnew) (fun _ => rfl) (fun counts_3 => js_fgt [some one_1, some other_2, some counts_3, none, none] rfl (js_each (fun (s_4 : D) => [some one_1, some other_2, some s_4, none, none]) (fun (s_4 : D) (y_6 : D × D) => [some one_1, some other_2, some s_4, some y_6.1, some y_6.2]) counts_3 rfl (ji_s (je_e2 (je_fz (je_eN (ja_cons (je_b rfl) (ja_nil)))) (je_fz (je_eN (ja_cons (je_b rfl) (ja_nil)))))) (fun _ => pk2) (fun s_4 y_6 => js_put (fun counts_9 => [some one_1, some other_2, some counts_9, some y_6.1, some y_6.2]) rfl (je_v rfl) (je_eN (ja_cons (je_fz (je_eM (je_b rfl) (ja_cons (je_fzv rfl) (ja_cons (je_fzc) (ja_nil))))) (ja_cons (je_b rfl) (ja_nil)))) (fun _ => rfl) (fun counts_9 => js_fgt [some one_1, some other_2, some counts_9, none, none] rfl (js_nil (⟨_, rfl, rfl⟩)))) (fun s_5 => js_fgt [some one_1, some other_2, some s_5, none, none] rfl (js_fz [some one_1, some other_2, some (frz s_5), none, none] rfl rfl (js_ret (je_eN (ja_cons (je_fz (je_lc (fun (y_10 : D) => [some one_1, some other_2, some (frz s_5), some y_10, none]) (nn0 rfl) (ji_s (je_eN (ja_cons (je_b rfl) (ja_nil)))) pk1 (fun y_10 => jt_yes) (fun y_10 => je_tup (ja_cons (je_fzv rfl) (ja_cons (je_fz (je_e2 (je_b rfl) (je_b rfl))) (ja_nil)))))) (ja_nil))))))))
theorem m_greater (ds A Q) (h : sp2 F_greater ds A Q (fun _ _ _ => False)) : b_greater { nx := fun _ A' => Q .non A', rt := Q } (start3 N_greater ds) A := by
  obtain ⟨one_1, other_2, rfl, u⟩ := h
  exact js_def (fun E => j_greater E _ _) u
/-- due(log_here); slots 0:log_here 1:kept_here 2:counts 3:deed 4:place 5:stamp 6:value 7:table 8:hand -/
def N_due : List Str := ["_law_log_here", "_law_kept_here", "_law_counts", "_law_deed", "_law_place", "_law_stamp", "_law_value", "_law_table", "_law_hand"]
def F_due (loghere_1 : D) : W D :=
  W.bind (W.ok (.md [])) fun kepthere_2 =>
  W.bind (W.ok (.md [])) fun counts_3 =>
  W.bind (W.iS (W.rd loghere_1)) fun it_20 => W.bind (W.each it_20.2 W.p1 (fun (s_4 : D × D) (y_6 : D) =>
  (W.bind (W.s1 F_kept (W.rd y_6)) fun d_16 => W.un W.p3 (frz d_16) fun (y_7 : D × D × D) =>
  W.bind (W.ite (W.andT (W.tT (W.b2 fEq (W.fzW (W.b2 fIxA (W.ok (frz y_7.1)) (W.ok (.int 0)))) (W.ok (.str "read")))) (W.tT (W.b2 (fInA id) (W.ok (frz y_7.1)) (W.ok (frz s_4.1))))) (W.bind (W.fzW (W.s2 F_greater (W.fzW (W.b2 fIxA (W.fzW (W.b2 fIxA (W.ok (frz s_4.1)) (W.ok (frz y_7.1)))) (W.ok (.int 1)))) (W.rd y_7.2.2))) fun value_8 =>
  W.ok value_8 : W (D)) (W.ok y_7.2.2)) fun (s_9 : D) =>
  W.bind (W.tupA (W.acons (W.rd y_7.2.1) (W.acons (W.rd s_9) (W.anil)))) fun v_10 => W.bind (W.rd y_7.1) fun k_11 => W.bind (W.pt gDSet s_4.1 k_11 v_10) fun kepthere_12 =>
  W.bind (W.b2 fAdd (W.fzW (W.bM okDct fGet (W.ok (frz s_4.2)) (W.acons (W.fzW (W.b2 fIxA (W.ok (frz y_6)) (W.ok (.int 1)))) (W.acons (W.ok (.int 0)) (W.anil))))) (W.ok (.int 1))) fun v_13 => W.bind (W.b2 fIxA (W.ok (frz y_6)) (W.ok (.int 1))) fun k_14 => W.bind (W.pt gDSet s_4.2 k_14 v_13) fun counts_15 =>
  (W.ok (kepthere_12, counts_15) : W (D × D)) : W (D × D))) it_20.1 (kepthere_2, counts_3)) fun (s_5 : D × D) =>
  W.bind (W.bN fTuple (W.acons (W.fzW (W.lc (W.iS (W.bN fSortedS (W.acons (W.ok (frz (frz s_5.1))) (W.anil)))) W.p1 (fun (y_17 : D) => W.ok true) (fun (y_17 : D) => W.b2 fAdd (W.ok (frz y_17)) (W.fzW (W.b2 fIxA (W.ok (frz (frz s_5.1))) (W.ok (frz y_17))))))) (W.anil))) fun table_18 =>
  W.bind (W.tupA (W.acons (W.rd table_18) (W.acons (W.fzW (W.bN fTuple (W.acons (W.fzW (W.lc (W.iS (W.bN fSortedS (W.acons (W.ok (frz (frz s_5.2))) (W.anil)))) W.p1 (fun (y_19 : D) => W.ok true) (fun (y_19 : D) => W.tupA (W.acons (W.rd y_19) (W.acons (W.fzW (W.b2 fIxA (W.ok (frz (frz s_5.2))) (W.ok (frz y_19)))) (W.anil)))))) (W.anil)))) (W.anil)))) (W.ok)
def b_due : TS3 := sSeq (sSet 1 (eDNew)) (sSeq (sSet 2 (eDNew)) (sFgt [3, 4, 5, 6] (sSeq (sFor (iS (eV 0)) (.nm 3) (sSeq (sAsgP (.tp [4, 5, 6]) (eCall (sp1 F_kept) [] (aCons (fz (eV 3)) (aNil)))) (sSeq (sIf (tAnd3 (tV (e2 fEq (fz (e2 fIxA (eB 4) (fz (eC (.int 0))))) (fz (eC (.str "read"))))) (tV (e2 (fInA id) (eB 4) (eB 1)))) (sSeq (sSet 6 (fz (eCall (sp2 F_greater) [] (aCons (fz (e2 fIxA (fz (e2 fIxA (eB 1) (eB 4))) (fz (eC (.int 1))))) (aCons (fz (eV 6)) (aNil)))))) (sNil)) (sNil)) (sSeq (sPut 1 gDSet (eV 4) (eTup (aCons (fz (eV 5)) (aCons (fz (eV 6)) (aNil))))) (sSeq (sPut 2 gDSet (e2 fIxA (eB 3) (fz (eC (.int 1)))) (e2 fAdd (fz (eM okDct fGet (eB 2) (aCons (fz (e2 fIxA (eB 3) (fz (eC (.int 1))))) (aCons (fz (eC (.int 0))) (aNil))))) (fz (eC (.int 1))))) (sFgt [3, 4, 5, 6] (sNil))))))) (sFgt [4] (sFz 1 (sSeq (sSet 7 (eN fTuple (aCons (fz (eLc (iS (eN fSortedS (aCons (eB 1) (aNil)))) (.nm 4) (tYes3) (e2 fAdd (eB 4) (fz (e2 fIxA (eB 1) (eB 4)))) [4])) (aNil)))) (sFz 2 (sSeq (sRet (eTup (aCons (fz (eV 7)) (aCons (fz (eN fTuple (aCons (fz (eLc (iS (eN fSortedS (aCons (eB 2) (aNil)))) (.nm 8) (tYes3) (eTup (aCons (fz (eV 8)) (aCons (fz (e2 fIxA (eB 2) (eB 8))) (aNil)))) [8])) (aNil)))) (aNil))))) (sNil)))))))))
theorem j_due (E : X3) (loghere_1 : D) : JS E b_due [some loghere_1, none, none, none, none, none, none, none, none] (F_due loghere_1) NF NB NB W.ok := by
  unfold b_due F_due
  exact js_set (fun kepthere_2 => [some loghere_1, some kepthere_2, none, none, none, none, none, none, none]) (je_dnew) (fun _ => rfl) (fun kepthere_2 => js_set (fun counts_3 => [some loghere_1, some kepthere_2, some counts_3, none, none, none, none, none, none]) (je_dnew) (fun _ => rfl) (fun counts_3 => js_fgt [some loghere_1, some kepthere_2, some counts_3, none, none, none, none, none, none] rfl (js_each (fun (s_4 : D × D) => [some loghere_1, some s_4.1, some s_4.2, none, none, none, none, none, none]) (fun (s_4 : D × D) (y_6 : D) => [some loghere_1, some s_4.1, some s_4.2, some y_6, none, none, none, none, none]) (kepthere_2, counts_3) rfl (ji_s (je_v rfl)) (fun _ => pk1) (fun s_4 y_6 => js_pat (fun (y_7 : D × D × D) => [some loghere_1, some s_4.1, some s_4.2, some y_6, some y_7.1, some y_7.2.1, some y_7.2.2, none, none]) pk3 (je_s1 (je_fzv rfl)) (fun y_7 => js_join (fun (s_9 : D) => [some loghere_1, some s_4.1, some s_4.2, some y_6, some y_7.1, some y_7.2.1, some s_9, none, none]) (jt_and (jt_val (je_e2 (je_fz (je_e2 (je_b rfl) (je_fzc))) (je_fzc))) (jt_val (je_e2 (je_b rfl) (je_b rfl)))) (js_set (fun value_8 => [some loghere_1, some s_4.1, some s_4.2, some y_6, some y_7.1, some y_7.2.1, some value_8, none, none]) (je_fz (je_s2 (je_fz (je_e2 (je_fz (je_e2 (je_b rfl) (je_b rfl))) (je_fzc))) (je_fzv rfl))) (fun _ => rfl) (fun value_8 => js_nil (⟨_, rfl, rfl⟩))) (js_nil (⟨_, rfl, rfl⟩)) (fun s_9 => js_put (fun kepthere_12 => [some loghere_1, some kepthere_12, some s_4.2, some y_6, some y_7.1, some y_7.2.1, some s_9, none, none]) rfl (je_v rfl) (je_tup (ja_cons (je_fzv rfl) (ja_cons (je_fzv rfl) (ja_nil)))) (fun _ => rfl) (fun kepthere_12 => js_put (fun counts_15 => [some loghere_1, some kepthere_12, some counts_15, some y_6, some y_7.1, some y_7.2.1, some s_9, none, none]) rfl (je_e2 (je_b rfl) (je_fzc)) (je_e2 (je_fz (je_eM (je_b rfl) (ja_cons (je_fz (je_e2 (je_b rfl) (je_fzc))) (ja_cons (je_fzc) (ja_nil))))) (je_fzc)) (fun _ => rfl) (fun counts_15 => js_fgt [some loghere_1, some kepthere_12, some counts_15, none, none, none, none, none, none] rfl (js_nil (⟨_, rfl, rfl⟩))))))) (fun s_5 => js_fgt [some loghere_1, some s_5.1, some s_5.2, none, none, none, none, none, none] rfl (js_fz [some loghere_1, some (frz s_5.1), some s_5.2, none, none, none, none, none, none] rfl rfl (js_set (fun table_18 => [some loghere_1, some (frz s_5.1), some s_5.2, none, none, none, none, some table_18, none]) (je_eN (ja_cons (je_fz (je_lc (fun (y_17 : D) => [some loghere_1, some (frz s_5.1), some s_5.2, none, some y_17, none, none, none, none]) (nn0 rfl) (ji_s (je_eN (ja_cons (je_b rfl) (ja_nil)))) pk1 (fun y_17 => jt_yes) (fun y_17 => je_e2 (je_b rfl) (je_fz (je_e2 (je_b rfl) (je_b rfl)))))) (ja_nil))) (fun _ => rfl) (fun table_18 => js_fz [some loghere_1, some (frz s_5.1), some (frz s_5.2), none, none, none, none, some table_18, none] rfl rfl (js_ret (je_tup (ja_cons (je_fzv rfl) (ja_cons (je_fz (je_eN (ja_cons (je_fz (je_lc (fun (y_19 : D) => [some loghere_1, some (frz s_5.1), some (frz s_5.2), none, none, none, none, some table_18, some y_19]) (nn0 rfl) (ji_s (je_eN (ja_cons (je_b rfl) (ja_nil)))) pk1 (fun y_19 => jt_yes) (fun y_19 => je_tup (ja_cons (je_fzv rfl) (ja_cons (je_fz (je_e2 (je_b rfl) (je_b rfl))) (ja_nil)))))) (ja_nil)))) (ja_nil))))))))))))
theorem m_due (ds A Q) (h : sp1 F_due ds A Q (fun _ _ _ => False)) : b_due { nx := fun _ A' => Q .non A', rt := Q } (start3 N_due ds) A := by
  obtain ⟨loghere_1, rfl, u⟩ := h
  exact js_def (fun E => j_due E _) u
/-- law(script); slots 0:script 1:house_here 2:log_here 3:some 4:table 5:vector_here 6:pack -/
def N_law : List Str := ["_law_script", "_law_house_here", "_law_log_here", "_law_some", "_law_table", "_law_vector_here", "_law_pack"]
def F_law (script_1 : D) : W D :=
  W.bind (W.fzW (W.s1 F_houseS (W.fzW (W.s2 F_cell_at (W.rd script_1) (W.ok (.int 0)))))) fun househere_2 =>
  W.bind (W.fzW (W.s2 F_logE (W.fzW (W.bS (W.ok (frz script_1)) (W.oA (W.ok (.int 1))) (W.oA (W.ok (.int 63))))) (W.rd househere_2))) fun loghere_3 =>
  W.bind (W.iS (W.lstA (W.acons (W.rd loghere_3) (W.acons (W.fzW (W.bS (W.ok (frz loghere_3)) (W.oN) (W.oA (W.b2 fFdiv (W.fzW (W.bN fLen (W.acons (W.ok (frz loghere_3)) (W.anil)))) (W.ok (.int 2)))))) (W.acons (W.fzW (W.tupA (W.anil))) (W.anil)))))) fun it_10 => W.bind (W.loop it_10.2 W.p1 (fun (s_4 : Unit) (y_6 : D) =>
  (W.bind (W.s1 F_due (W.rd y_6)) fun d_9 => W.un W.p2 (frz d_9) fun (y_7 : D × D) =>
  W.bind (W.fzW (W.mk2 "Pack" F_Pack_init__ (W.rd househere_2) (W.rd y_6))) fun pack_8 =>
  W.ite (W.orT (W.notT (W.tT (W.s2 (F_same 8) (W.fzW (W.s1 F_Pack_table (W.ins "Pack" "table" (W.rd pack_8)))) (W.rd y_7.1)))) (W.notT (W.tT (W.s2 (F_same 8) (W.fzW (W.s1 F_Pack_vector (W.ins "Pack" "vector" (W.rd pack_8)))) (W.rd y_7.2))))) (W.bind (W.ok (.bl false)) (fun d => W.ok (.rt d))) (
  W.ite (W.orT (W.tT (W.b2 fGt (W.fzW (W.bN fLen (W.acons (W.fzW (W.s1 F_Pack_table (W.ins "Pack" "table" (W.rd pack_8)))) (W.anil)))) (W.fzW (W.bN fLen (W.acons (W.ok (frz y_6)) (W.anil)))))) (W.tT (W.b2 fNe (W.fzW (W.s1 F_Pack_table (W.ins "Pack" "table" (W.rd pack_8)))) (W.fzW (W.s1 F_Pack_table (W.ins "Pack" "table" (W.mk2 "Pack" F_Pack_init__ (W.rd househere_2) (W.rd y_6)))))))) (W.bind (W.ok (.bl false)) (fun d => W.ok (.rt d))) (
  (W.ok (.nx ()) : W (Fl (Unit))))) : W (Fl (Unit)))) it_10.1 ()) (W.out (W.ok) fun (s_5 : Unit) =>
  W.bind (W.ok (.bl true)) (W.ok))
def b_law : TS3 := sSeq (sSet 1 (fz (eCall (sp1 F_houseS) [] (aCons (fz (eCall (sp2 F_cell_at) [] (aCons (fz (eV 0)) (aCons (fz (eC (.int 0))) (aNil))))) (aNil))))) (sSeq (sSet 2 (fz (eCall (sp2 F_logE) [] (aCons (fz (eSl (eB 0) (oAt (eC (.int 1))) (oAt (eC (.int 63))))) (aCons (fz (eV 1)) (aNil)))))) (sFgt [3, 4, 5, 6] (sSeq (sFor (iS (eLst (aCons (fz (eV 2)) (aCons (fz (eSl (eB 2) (oNo) (oAt (e2 fFdiv (fz (eN fLen (aCons (eB 2) (aNil)))) (fz (eC (.int 2))))))) (aCons (fz (eTup (aNil))) (aNil)))))) (.nm 3) (sSeq (sAsgP (.tp [4, 5]) (eCall (sp1 F_due) [] (aCons (fz (eV 3)) (aNil)))) (sSeq (sSet 6 (fz (eMake "Pack" (sp3 F_Pack_init__) [] (aCons (fz (eV 1)) (aCons (fz (eV 3)) (aNil)))))) (sSeq (sIf (tOr3 (tNot3 (tV (eCall (sp2 (F_same 8)) [] (aCons (fz (eCall (sp1 F_Pack_table) [] (aCons (eIns "Pack" "table" (eV 6)) aNil))) (aCons (fz (eV 4)) (aNil)))))) (tNot3 (tV (eCall (sp2 (F_same 8)) [] (aCons (fz (eCall (sp1 F_Pack_vector) [] (aCons (eIns "Pack" "vector" (eV 6)) aNil))) (aCons (fz (eV 5)) (aNil))))))) (sSeq (sRet (eC (.bl false))) (sNil)) (sNil)) (sSeq (sIf (tOr3 (tV (e2 fGt (fz (eN fLen (aCons (fz (eCall (sp1 F_Pack_table) [] (aCons (eIns "Pack" "table" (eV 6)) aNil))) (aNil)))) (fz (eN fLen (aCons (eB 3) (aNil)))))) (tV (e2 fNe (fz (eCall (sp1 F_Pack_table) [] (aCons (eIns "Pack" "table" (eV 6)) aNil))) (fz (eCall (sp1 F_Pack_table) [] (aCons (eIns "Pack" "table" (eMake "Pack" (sp3 F_Pack_init__) [] (aCons (fz (eV 1)) (aCons (fz (eV 3)) (aNil))))) aNil)))))) (sSeq (sRet (eC (.bl false))) (sNil)) (sNil)) (sFgt [3, 4, 5, 6] (sNil))))))) (sSeq (sRet (eC (.bl true))) (sNil)))))
theorem j_law (E : X3) (script_1 : D) : JS E b_law [some script_1, none, none, none, none, none, none] (F_law script_1) NF NB NB W.ok := by
  unfold b_law F_law
  exact js_set (fun househere_2 => [some script_1, some househere_2, none, none, none, none, none]) (je_fz (je_s1 (je_fz (je_s2 (je_fzv rfl) (je_fzc))))) (fun _ => rfl) (fun househere_2 => js_set (fun loghere_3 => [some script_1, some househere_2, some loghere_3, none, none, none, none]) (je_fz (je_s2 (je_fz (je_sl (je_b rfl) (jo_at (je_c)) (jo_at (je_c)))) (je_fzv rfl))) (fun _ => rfl) (fun loghere_3 => js_fgt [some script_1, some househere_2, some loghere_3, none, none, none, none] rfl (js_loop (fun (s_4 : Unit) => [some script_1, some househere_2, some loghere_3, none, none, none, none]) (fun (s_4 : Unit) (y_6 : D) => [some script_1, some househere_2, some loghere_3, some y_6, none, none, none]) () rfl (ji_s (je_lst (ja_cons (je_fzv rfl) (ja_cons (je_fz (je_sl (je_b rfl) (jo_no) (jo_at (je_e2 (je_fz (je_eN (ja_cons (je_b rfl) (ja_nil)))) (je_fzc))))) (ja_cons (je_fz (je_tup (ja_nil))) (ja_nil)))))) (fun _ => pk1) (fun s_4 y_6 => js_pat (fun (y_7 : D × D) => [some script_1, some househere_2, some loghere_3, some y_6, some y_7.1, some y_7.2, none]) pk2 (je_s1 (je_fzv rfl)) (fun y_7 => js_set (fun pack_8 => [some script_1, some househere_2, some loghere_3, some y_6, some y_7.1, some y_7.2, some pack_8]) (je_fz (je_mk2 (je_fzv rfl) (je_fzv rfl))) (fun _ => rfl) (fun pack_8 => js_if (jt_or (jt_not (jt_val (je_s2 (je_fz (je_s1 (je_ins (je_v rfl)))) (je_fzv rfl)))) (jt_not (jt_val (je_s2 (je_fz (je_s1 (je_ins (je_v rfl)))) (je_fzv rfl))))) (js_assoc (js_ret (je_c))) (js_nilseq (js_if (jt_or (jt_val (je_e2 (je_fz (je_eN (ja_cons (je_fz (je_s1 (je_ins (je_v rfl)))) (ja_nil)))) (je_fz (je_eN (ja_cons (je_b rfl) (ja_nil)))))) (jt_val (je_e2 (je_fz (je_s1 (je_ins (je_v rfl)))) (je_fz (je_s1 (je_ins (je_mk2 (je_fzv rfl) (je_fzv rfl)))))))) (js_assoc (js_ret (je_c))) (js_nilseq (js_fgt [some script_1, some househere_2, some loghere_3, none, none, none, none] rfl (js_nil (⟨_, rfl, rfl⟩))))))))) (fun s_5 => js_ret (je_c)))))
theorem m_law (ds A Q) (h : sp1 F_law ds A Q (fun _ _ _ => False)) : b_law { nx := fun _ A' => Q .non A', rt := Q } (start3 N_law ds) A := by
  obtain ⟨script_1, rfl, u⟩ := h
  exact js_def (fun E => j_law E _) u
end T3
set_option autoImplicit false
namespace T3
open PySem PySem.Spec PyProof.Rows L2
/-! ### what a log must be for the program -/
theorem leD_iff (a b : D) : leD a b ↔ PySem.W.dataLt (pd b) (pd a) = false := by
  show ((!PySem.W.dataLt (pd b) (pd a)) = true) ↔ _
  rw [Bool.not_eq_true']
def leS (a b : Stamp) : Prop := leD (stampD a) (stampD b)
structure LogP (h : House) (l : List Deed) : Prop where
  rooms : RoomsIn h l
  nd : (l.map Deed.stamp).Nodup
  srt : (l.map Deed.stamp).Pairwise leS
  len : l.length ≤ 1000
  say : ∀ d ∈ l, ∀ s, ((∃ r u, d.act = .say r u s) ∨ ∃ x, d.act = .change x s) → s.length ≤ 1000
/-! ### says, one ahead of what stands beneath it -/
structure SaysOk (m : List (Stamp × Said)) : Prop where
  nd : (m.map (·.1)).Nodup
  und : ∀ (i : Nat) (p : Stamp × Said) (u : Stamp), m[i]? = some p → p.2.under = some u → ∃ (j : Nat) (q : Stamp × Said), j < i ∧ m[j]? = some q ∧ q.1 = u ∧ q.2.room = p.2.room
theorem SaysOk.nil : SaysOk [] := ⟨by simp, fun i p u h => by simp at h⟩
/-! ### kids -/
def kids (says : List (Stamp × Said)) (r : Str) (u : Option Stamp) : List Stamp := (says.filter fun p => decide (p.2.room = r) && decide (p.2.under = u)).map (·.1)
section
variable {says : List (Stamp × Said)} (ok : SaysOk says) (r : Str)
include ok
end
/-- a room's rows, the taken back ones too -/
def forest (says : List (Stamp × Said)) (r : Str) (w : List Stamp) (d : Int) : List (Int × Stamp) := w.flatMap fun s => pre (fun s => kids says r (some s)) (says.length + 1) d s
end T3
set_option autoImplicit false
namespace T3
open PySem PySem.Spec PyProof.Rows L2
def rowD (p : Int × Stamp) : D := .tup [.int p.1, stampD p.2]
@[simp] theorem frz_rowD (p : Int × Stamp) : frz (rowD p) = rowD p := (rfl)
@[simp] theorem rd_rowD (p : Int × Stamp) : W.rd (rowD p) = W.ok (rowD p) := (rfl)
/-- what is left to be walked -/
def left (says : List (Stamp × Said)) (r : Str) (w : List (Int × Stamp)) : List (Int × Stamp) := w.reverse.flatMap fun p => forest says r [p.2] p.1
end T3
set_option autoImplicit false
namespace T3
open PySem PySem.Spec PyProof.Rows L2
/-! ### what a person has read -/
def vecOf (name r : Str) (d : Deed) : Option Vec := match d.act with
  | .read r' v => if d.hand.1 = name ∧ r' = r then some v else none
  | _ => none
def vecsM (l : List Deed) (name r : Str) : List Vec := l.filterMap (vecOf name r)
def seenStep (name : Str) (m : List (Stamp × Bool)) (d : Deed) : List (Stamp × Bool) := match d.act with
  | .seen x => if d.hand.1 = name then putK m x true else m
  | _ => m
def seenM (l : List Deed) (name : Str) : List (Stamp × Bool) := l.foldl (seenStep name) []
/-! ### deeds by their stamps -/
def isSay (d : Deed) : Bool := match d.act with
  | .say _ _ _ => true
  | _ => false
def sodM (l : List Deed) : List (Stamp × Deed) := (l.filter isSay).map fun d => (d.stamp, d)
theorem ix_stampOf (d : Deed) : F_stamp_of d.toD = W.ok (stampD d.stamp) := by
  unfold F_stamp_of
  simp [stampD_mk]; rfl
/-! ### within a vector -/
def cntV (v : Vec) (x : Hnd) : Int := (getK (v.foldl (fun m p => putK m p.1 p.2) []) x).getD 0
end T3
set_option autoImplicit false
namespace T3
open PySem PySem.Spec PyProof.Rows L2
/-! ### messages, what stands behind them -/
/-- the deed's number -/
def numAt (l : List Deed) (s : Stamp) : Int := match getK (sodM l) s with
  | some d => d.num
  | none => 0
/-! ### read by -/
def withinM (l : List Deed) (name : Str) (r : Str) (s : Stamp) : Bool := (vecsM l name r).any fun v => decide (numAt l s < cntV v s.2)
def readM (l : List Deed) (name : Str) (m : Msg) : Bool := decide (m.writer = name) || (withinM l name m.room m.stamp || (getK (seenM l name) m.stamp).isSome)
def readBy (h : House) (l : List Deed) (name : Str) : List (Stamp × Bool) := (messages h l).map fun m => (m.stamp, readM l name m)
end T3
set_option autoImplicit false
namespace T3
open PySem PySem.Spec PyProof.Rows L2
/-! ### what is new -/
def known (h : House) (l : List Deed) (name : Str) (s : Stamp) : Bool := (getK (readBy h l name) s).getD false
end T3
set_option autoImplicit false
namespace T3
open PySem PySem.Spec PyProof.Rows L2
def ltS (a b : Stamp) : Bool := ltD (stampD a) (stampD b)
theorem leS_iff (a b : Stamp) : leS a b ↔ ltS b a = false := leD_iff _ _
theorem ltS_of {a b : Stamp} (h : leS a b) (hn : a ≠ b) : ltS a b = true := by
  cases e : ltS a b with
  | true => rfl
  | false =>
    have h2 : leS b a := (leS_iff b a).mpr e
    exact absurd (keyStamp.tok a b (leD_anti h h2)) hn
end T3
set_option autoImplicit false
namespace T3
open PySem PySem.Spec PyProof.Rows L2
/-! ### packs -/
def mixE (hs : List Hnd) (m : List (Place × Entry)) (p : Place) (e e0 : Entry) : List (Place × Entry) := match e, e0 with
  | .vec v, .vec v0 => putK m p (.vec (gmax hs v0 v))
  | .text st s, .text st0 _ => if ltS st0 st = true then putK m p (.text st s) else m
  | .flag st b, .flag st0 _ => if ltS st0 st = true then putK m p (.flag st b) else m
  | _, _ => m
def putE (hs : List Hnd) (m : List (Place × Entry)) (p : Place) (e : Entry) : List (Place × Entry) :=
  match getK m p with
  | none => putK m p e
  | some e0 => mixE hs m p e e0
def packE (hs : List Hnd) (l : List Deed) : List (Place × Entry) := l.foldl (fun m d => putE hs m (placeOf d) (entryOf d)) []
/-- which entries a place may have -/
def Fit (hs : List Hnd) (p : Place) (e : Entry) : Prop := match p, e with
  | .say _, .say _ _ _ _ => True
  | .mn k _ _, .text _ _ => k = .change
  | .mn k _ _, .mark => k ≠ .change
  | .like _ _ _, .flag _ _ => True
  | .hush _ _, .flag _ _ => True
  | .read _ _, .vec v => VecIn hs v
  | _, _ => False
theorem fit_of {h : House} {d : Deed} (hd : DeedIn h h.hands d) : Fit h.hands (placeOf d) (entryOf d) := by
  have ha := hd.act
  unfold placeOf entryOf Fit
  revert ha
  cases d.act <;> intro ha <;> simp
  exact ha.2
structure EOk (hs : List Hnd) (m : List (Place × Entry)) : Prop where
  nd : (m.map (·.1)).Nodup
  fit : ∀ p e, getK m p = some e → Fit hs p e
theorem putE_len (hs : List Hnd) (m : List (Place × Entry)) (p : Place) (e : Entry) : (putE hs m p e).length ≤ m.length + 1 := by
  unfold putE
  split
  · exact putK_len _ _ _
  · unfold mixE
    split
    · exact putK_len _ _ _
    · split
      · exact putK_len _ _ _
      · omega
    · split
      · exact putK_len _ _ _
      · omega
    · omega
theorem EOk.put {hs : List Hnd} {m : List (Place × Entry)} (ok : EOk hs m) {p : Place} {e : Entry} (f : Fit hs p e) : EOk hs (putK m p e) :=
  ⟨putK_nodup ok.nd, fun q e' h => by
    by_cases c : q = p
    · rw [c, getK_put_same] at h; cases h; rw [c]; exact f
    · rw [getK_put_ne c] at h; exact ok.fit q e' h⟩
theorem EOk.putE {hs : List Hnd} {m : List (Place × Entry)} (ok : EOk hs m) {p : Place} {e : Entry} (f : Fit hs p e) : EOk hs (putE hs m p e) := by
  unfold T3.putE
  split
  · exact ok.put f
  · rename_i e0 he0
    have f0 := ok.fit p e0 he0
    unfold mixE
    split
    · refine ok.put ?_
      cases p <;> simp [Fit] at f ⊢
      exact vecH_in _ _
    · split
      · exact ok.put f
      · exact ok
    · split
      · exact ok.put f
      · exact ok
    · exact ok
theorem put_eq {A : AH} {a : Addr} {ob : Ob} (h : A a = some ob) : put A a ob = A := by
  funext c
  by_cases e : c = a
  · rw [e, put_same, h]
  · rw [put_ne e]
theorem fInA_refD {A : AH} {a : Addr} {xs : List (D × D)} (h : A a = some (.dct xs)) (g : Bool → Bool) (k : D) : fInA g A k (.ref a) = if kfit k = true then some (.bl (g (dget xs k).isSome)) else none := by simp [fInA, vw, h]
theorem ix_e0 (A : AH) (e : Entry) : fIxA A e.toD (.int 0) = some e.fst := (at0 e.fst [e.snd] : _)
theorem ix_e1 (A : AH) (e : Entry) : fIxA A e.toD (.int 1) = some e.snd := (at1 e.fst e.snd [] : _)
theorem ix_p0 (A : AH) (p : Place) : fIxA A p.toD (.int 0) = some (.str p.kind) := (at0 (D.str p.kind) [p.key] : _)
theorem ix_p1 (A : AH) (p : Place) : fIxA A p.toD (.int 1) = some p.key := (at1 (D.str p.kind) p.key [] : _)
theorem rd_entry (e : Entry) : W.rd e.toD = W.ok e.toD := rfl
theorem frz_entry (e : Entry) : frz e.toD = e.toD := rfl
theorem frz_place (p : Place) : frz p.toD = p.toD := rfl
theorem rd_place (p : Place) : W.rd p.toD = W.ok p.toD := rfl
theorem frz_fst (e : Entry) : frz e.fst = e.fst := by cases e <;> rfl
theorem frz_snd (e : Entry) : frz e.snd = e.snd := by cases e <;> rfl
theorem frz_key (p : Place) : frz p.key = p.key := by
  cases p <;> rfl
theorem fGt_stamp (A : AH) (a b : Stamp) : fGt A (stampD a) (stampD b) = some (.bl (ltS b a)) := by
  have h : okLt (stampD a) (stampD b) = true := by
    have h1 := encStamp.pok a
    have h2 := encStamp.pok b
    have h3 : PySem.W.alike (pd (stampD a)) (pd (stampD b)) = true := by simp [stampD, handD, pd, pds, PySem.W.alike, PySem.W.alikeAll]
    have h4 := encStamp.dep a
    have h5 : decide (dep (stampD a) ≤ 60) = true := by simp; omega
    unfold okLt
    rw [h1, h2, h3, h5]
    rfl
  unfold fGt
  rw [if_pos h]
  rfl
def entK (m : List (Place × Entry)) : List (D × D) := kD Place.toD Entry.toD m
theorem d_put_into {A : AH} {er : Addr} {h : House} (ok : h.Ok) {m : List (Place × Entry)} (hA : A er = some (.dct (entK m))) (mk : EOk h.hands m) (hl : m.length ≤ 900) {p : Place} {e : Entry} (f : Fit h.hands p e) (Q : D → AH → Prop) (E : X3)
    (q : Q .non (put A er (.dct (entK (putE h.hands m p e))))) : F_put_into (.ref er) p.toD e.toD A Q E := by
  have z0 := sizeLine_eq
  have hz : (entK m).length < sizeLine := by unfold entK; rw [kD_len]; omega
  have hget : dget (entK m) p.toD = (getK m p).map Entry.toD := kD_get encPlace _ _ _
  have hin : fInA not A p.toD (.ref er) = some (.bl (!(getK m p).isSome)) := by
    rw [fInA_refD hA, if_pos (encPlace.fit _), hget]; cases getK m p <;> rfl
  have hput : ∀ e', gDSet (.dct (entK m)) p.toD e'.toD = some (.dct (entK (putK m p e'))) := fun e' => by
    rw [gDSet_dct, if_pos ⟨encPlace.fit _, hz⟩]
    unfold entK; rw [kD_put encPlace]
  have rr : W.rd (.ref er) = W.ok (.ref er) := rfl
  have fr : frz (D.ref er) = .ref er := rfl
  unfold F_put_into
  cases hg : getK m p with
  | none =>
    rw [hg] at hin
    have eP : putE h.hands m p e = putK m p e := by unfold putE; rw [hg]
    rw [eP] at q
    simp [frz_entry, frz_place, rd_entry, rd_place, rr, fr, hin, hput, hA]
    exact q
  | some e0 =>
    rw [hg] at hin
    have f0 := mk.fit p e0 hg
    have hix : fIxA A (.ref er) p.toD = some e0.toD := by
      rw [fIxA_refD hA, if_pos (encPlace.fit _), hget, hg]; rfl
    simp [frz_entry, frz_place, rd_entry, rd_place, rr, fr, hin, hix, ix_e0, ix_e1, ix_p0, frz_fst, frz_snd]
    have keep : putE h.hands m p e = m → Q .non A := fun eP => by rw [eP, put_eq hA] at q; exact q
    have stp : ∀ (st st0 : Stamp), e.fst = stampD st → e0.fst = stampD st0 → putE h.hands m p e = (if ltS st0 st = true then putK m p e else m) →
        (if e.fst = .non then Q .non A else ∃ d, fGt A e.fst e0.fst = some d ∧ (d = .bl false ∧ Q .non A ∨ d = .bl true ∧ ∃ x, A er = some x ∧ ∃ x_1, gDSet x p.toD e.toD = some x_1 ∧ Q .non (put A er x_1))) := fun st st0 h1 h2 eP => by
      rw [h1, h2, if_neg (show ¬ stampD st = .non from fun e => by cases e)]
      refine ⟨_, fGt_stamp _ _ _, ?_⟩
      cases hlt : ltS st0 st with
      | false =>
        rw [hlt, if_neg (by decide)] at eP
        exact .inl ⟨rfl, keep eP⟩
      | true =>
        rw [hlt, if_pos rfl] at eP
        rw [eP] at q
        exact .inr ⟨rfl, _, hA, _, hput e, q⟩
    have eP : putE h.hands m p e = mixE h.hands m p e e0 := by unfold putE; rw [hg]
    have noread : p.kind ≠ ("read" : Str) → (if e.fst = .non then Q .non A else ∃ d, fGt A e.fst e0.fst = some d ∧ (d = .bl false ∧ Q .non A ∨ d = .bl true ∧ ∃ x, A er = some x ∧ ∃ x_1, gDSet x p.toD e.toD = some x_1 ∧ Q .non (put A er x_1))) → (if p.kind = ("read" : Str) then F_greater_counts e0.snd e.snd A (fun d A' => ∃ x, A' er = some x ∧ ∃ x_1, gDSet x p.toD (.tup [.non, frz d]) = some x_1 ∧ Q .non (put A' er x_1)) (fun _ _ _ => False) else (if e.fst = .non then Q .non A else ∃ d, fGt A e.fst e0.fst = some d ∧ (d = .bl false ∧ Q .non A ∨ d = .bl true ∧ ∃ x, A er = some x ∧ ∃ x_1, gDSet x p.toD e.toD = some x_1 ∧ Q .non (put A er x_1)))) := fun hn hh => by rw [if_neg hn]; exact hh
    cases p with
    | say s =>
      refine noread ks7 ?_
      cases e <;> simp [Fit] at f
      cases e0 <;> simp [Fit] at f0
      rw [if_pos (show (Entry.say _ _ _ _).fst = D.non from rfl)]
      exact keep eP
    | mn k mm n =>
      refine noread k.ne_read ?_
      cases e <;> simp [Fit] at f
      · cases e0 <;> simp [Fit] at f0
        · exact stp _ _ rfl rfl eP
        · exact absurd f f0
      · cases e0 <;> simp [Fit] at f0
        · exact absurd f0 f
        · rw [if_pos (show Entry.mark.fst = D.non from rfl)]; exact keep eP
    | like mm n x =>
      refine noread kl2 ?_
      cases e <;> simp [Fit] at f
      cases e0 <;> simp [Fit] at f0
      exact stp _ _ rfl rfl eP
    | hush n w =>
      refine noread kh1 ?_
      cases e <;> simp [Fit] at f
      cases e0 <;> simp [Fit] at f0
      exact stp _ _ rfl rfl eP
    | read n r =>
      cases e <;> simp [Fit] at f
      rename_i v
      cases e0 <;> simp [Fit] at f0
      rename_i v0
      rw [if_pos (show (Place.read n r).kind = ("read" : Str) from rfl)]
      show F_greater_counts (vecD v0) (vecD v) A _ _
      rw [d_greater_counts ok f0 f, W.ok_ap]
      rw [eP] at q
      exact ⟨_, hA, _, hput (.vec (gmax h.hands v0 v)), q⟩
end T3
set_option autoImplicit false
namespace T3
open PySem PySem.Spec PyProof.Rows L2
theorem d_entry_of (d : Deed) : F_entry_of d.toD = W.ok (.tup [(placeOf d).toD, (entryOf d).toD]) := by
  unfold F_entry_of
  have p4 : W.p4 d.toD = some (.int d.time, handD d.hand, .int d.num, d.act.toD) := rfl
  have rd : W.rd d.toD = W.ok d.toD := T3.W.rd_of (codDeed.own d)
  have hh : ∀ A, fIxA A (handD d.hand) (.int 0) = some (.str d.hand.1) := fun A => by simp [handD]
  have rs : W.rd (stampD d.stamp) = W.ok (stampD d.stamp) := rfl
  have fs : frz (stampD d.stamp) = stampD d.stamp := rfl
  have rwh : ∀ w : What, W.rd w.toD = W.ok w.toD := fun w => T3.W.rd_of (encWhat.cod.own w)
  have fwh : ∀ w : What, frz w.toD = w.toD := encWhat.cod.frz
  have fst' : ∀ st : Stamp, frz (stampD st) = stampD st := fun _ => rfl
  have rst : ∀ st : Stamp, W.rd (stampD st) = W.ok (stampD st) := fun _ => rfl
  have fu : ∀ u, frz (underD u) = underD u := fun u => by cases u <;> rfl
  have fv : ∀ v : Vec, frz (vecD v) = vecD v := fun _ => rfl
  simp only [rd, W.ok_bind, codDeed.frz, W.un_some p4]
  unfold placeOf entryOf
  have fin : ∀ {a b : W D}, a = b → a = b := id
  cases e : d.act <;> simp [Act.kind, Act.toD, ix_stampOf, fst', rst, fu, fv, fwh, hh, codHand.frz] <;> rfl
theorem pack_snoc (hs : List Hnd) (l : List Deed) (d : Deed) : packE hs (l ++ [d]) = putE hs (packE hs l) (placeOf d) (entryOf d) := by
  unfold packE; rw [List.foldl_append]; rfl
theorem pack_ok {h : House} : ∀ (l : List Deed) (m : List (Place × Entry)), EOk h.hands m → (∀ d ∈ l, DeedIn h h.hands d) → EOk h.hands (l.foldl (fun m d => putE h.hands m (placeOf d) (entryOf d)) m) ∧ (l.foldl (fun m d => putE h.hands m (placeOf d) (entryOf d)) m).length ≤ m.length + l.length
  | [], m, hm, _ => ⟨hm, by simp⟩
  | d :: l, m, hm, hd => by
    rw [List.foldl_cons]
    obtain ⟨h1, h2⟩ := pack_ok l _ (hm.putE (fit_of (hd d List.mem_cons_self))) fun e he => hd e (List.mem_cons_of_mem _ he)
    refine ⟨h1, ?_⟩
    have := putE_len h.hands m (placeOf d) (entryOf d)
    rw [List.length_cons]; omega
theorem EOk.nil (hs : List Hnd) : EOk hs [] := ⟨by simp, fun p e hg => by simp [getK] at hg⟩
section
variable [Cls3]
def packFs (h : House) (v : D) (er : Addr) : List (Str × D) := [("house", h.toD), ("counted", v), ("entries", .ref er)]
structure PackAt (A : AH) (a : Addr) (h : House) (v : Vec) (er : Addr) (m : List (Place × Entry)) : Prop where
  ins : A a = some (.ins (Cls3.at_ "Pack") (packFs h (vecD v) er))
  ent : A er = some (.dct (entK m))
theorem PackAt.ne {A : AH} {a : Addr} {h : House} {v : Vec} {er : Addr} {m : List (Place × Entry)} (p : PackAt A a h v er m) : er ≠ a := fun e => by
  have h1 := p.ins
  rw [← e, p.ent] at h1; cases h1
theorem d_pinit {A : AH} {a : Addr} {h : House} (ok : h.Ok) {l : List Deed} (hd : ∀ d ∈ l, DeedIn h h.hands d) (hl : l.length ≤ 900) (ha : A a = some (.ins (Cls3.at_ "Pack") [])) (Q : D → AH → Prop) (E : X3)
    (q : ∀ er A', A er = none → (∀ c, c ≠ a → c ≠ er → A' c = A c) → PackAt A' a h (cvec h.hands l) er (packE h.hands l) → Q .non A') : F_Pack_init__ (.ref a) h.toD (logD l) A Q E := by
  have z0 := sizeLine_eq
  have rl : W.rd (logD l) = W.ok (logD l) := rfl
  have rr : ∀ c, W.rd (.ref c) = W.ok (.ref c) := fun _ => rfl
  have rh : W.rd h.toD = W.ok h.toD := rfl
  have dv := d_vector_of ok (l := l) (by omega) fun d hd' => (hd d hd').hand
  unfold F_Pack_init__
  simp only [rl, rr, rh, dv]
  simp
  rw [W.setF_of ha (by show 0 < 1000; omega), dv, W.ok_ap, W.setF_of put_same (by show 1 < 1000; omega)]
  refine ⟨.dct [], rfl, fun er her => ?_⟩
  obtain ⟨A2, hA2⟩ : ∃ A2, A2 = put (put A a (.ins (Cls3.at_ "Pack") (putFD "house" (frz h.toD) []))) a (.ins (Cls3.at_ "Pack") (putFD "counted" (frz (vecD (cvec h.hands l))) (putFD "house" (frz h.toD) []))) := ⟨_, rfl⟩
  rw [← hA2] at her ⊢
  have ha2 : A2 a = some (.ins (Cls3.at_ "Pack") (putFD "counted" (frz (vecD (cvec h.hands l))) (putFD "house" (frz h.toD) []))) := by rw [hA2]; exact put_same
  have hne : er ≠ a := fun e => by rw [e, ha2] at her; cases her
  have k2 : ∀ c, c ≠ a → A2 c = A c := fun c hc => by rw [hA2, put_ne hc, put_ne hc]
  have hAer : A er = none := by rw [← k2 er hne]; exact her
  have ha3 : put A2 er (.dct []) a = some (.ins (Cls3.at_ "Pack") (putFD "counted" (frz (vecD (cvec h.hands l))) (putFD "house" (frz h.toD) []))) := by rw [put_ne (Ne.symm hne)]; exact ha2
  rw [W.setF_of ha3 (by show 2 < 1000; omega)]
  obtain ⟨A4, hA4⟩ : ∃ A4, A4 = put (put A2 er (.dct [])) a (.ins (Cls3.at_ "Pack") (packFs h (vecD (cvec h.hands l)) er)) := ⟨_, rfl⟩
  have e4 : put (put A2 er (.dct [])) a (.ins (Cls3.at_ "Pack") (putFD "entries" (frz (.ref er)) (putFD "counted" (frz (vecD (cvec h.hands l))) (putFD "house" (frz h.toD) [])))) = A4 := by rw [hA4]; rfl
  rw [e4]
  have p4 : PackAt A4 a h (cvec h.hands l) er (packE h.hands []) := ⟨by rw [hA4]; exact put_same, by rw [hA4, put_ne hne, put_same]; rfl⟩
  have k4 : ∀ c, c ≠ a → c ≠ er → A4 c = A c := fun c h1 h2 => by rw [hA4, put_ne h1, put_ne h2]; exact k2 c h1
  clear hA4 e4 ha3 ha2 hA2 her
  refine W.each_wp E (fun i (_ : Unit) A' => PackAt A' a h (cvec h.hands l) er (packE h.hands (l.take i)) ∧ ∀ c, c ≠ a → c ≠ er → A' c = A c) _ 0 () A4 ⟨p4, k4⟩ (fun i y s A5 hy hi => ?_) fun s A5 hi => ?_
  · obtain ⟨p5, k5⟩ := hi
    rw [Nat.zero_add] at p5
    rw [List.getElem?_map] at hy
    obtain ⟨d, hd', rfl⟩ := Option.map_eq_some_iff.mp hy
    have hi2 : i < l.length := (List.getElem?_eq_some_iff.mp hd').1
    have etk : l.take (i + 1) = l.take i ++ [d] := by rw [List.take_add_one, hd']; rfl
    refine ⟨_, rfl, fun K kk => ?_⟩
    rw [Nat.zero_add, etk, pack_snoc] at kk
    have rd : W.rd d.toD = W.ok d.toD := T3.W.rd_of (codDeed.own d)
    have p2 : W.p2 (frz (.tup [(placeOf d).toD, (entryOf d).toD])) = some ((placeOf d).toD, (entryOf d).toD) := rfl
    simp [rd, d_entry_of]
    refine ⟨_, _, rfl, ?_⟩
    rw [W.fldW_of p5.ins rfl, rd_place, W.ok_ap, rd_entry, W.ok_ap]
    obtain ⟨mk, ml⟩ := pack_ok (l.take i) [] (EOk.nil h.hands) fun e he => hd e (List.mem_of_mem_take he)
    have hml : (packE h.hands (l.take i)).length ≤ 900 := by
      have : (l.take i).length = i := by rw [List.length_take]; omega
      unfold packE
      simp only [List.length_nil] at ml
      omega
    have hd2 := hd d (List.mem_of_getElem? hd')
    refine d_put_into ok p5.ent mk hml (fit_of hd2) _ _ (kk _ _ ⟨⟨by rw [put_ne (Ne.symm hne)]; exact p5.ins, put_same⟩, fun c h1 h2 => by rw [put_ne h2]; exact k5 c h1 h2⟩)
  · obtain ⟨p5, k5⟩ := hi
    rw [Nat.zero_add, List.length_map, List.take_length] at p5
    exact q er A5 hAer k5 p5
end
end T3
set_option autoImplicit false
namespace T3
open PySem PySem.Spec PyProof.Rows L2
noncomputable def sortP (l : List Place) : List Place := (sortD_map Place.toD l).choose
theorem sortP_eq (l : List Place) : sortD (l.map Place.toD) = (sortP l).map Place.toD := (sortD_map Place.toD l).choose_spec.1
theorem sortP_perm (l : List Place) : (sortP l).Perm l := (sortD_map Place.toD l).choose_spec.2.1
def rowP (m : List (Place × Entry)) (p : Place) : D := match getK m p with
  | some e => .tup [.str p.kind, p.key, e.fst, e.snd]
  | none => .non
noncomputable def tableD (m : List (Place × Entry)) : D := .tup ((sortP (m.map (·.1))).map (rowP m))
theorem keys_ent (m : List (Place × Entry)) : (entK m).map (·.1) = (m.map (·.1)).map Place.toD := by unfold entK kD; rw [List.map_map, List.map_map]; rfl
theorem sorted_ent {m : List (Place × Entry)} (hl : m.length ≤ 900) {A : AH} {d : D} (hr : rowOf A d = some ((entK m).map (·.1))) : fSortedS A [d] = some (.ml ((sortP (m.map (·.1))).map Place.toD)) := by
  rw [fSortedS_one, hr, Option.bind_some, keys_ent, if_pos (okSrt_places _ (by rw [List.length_map]; omega)), sortP_eq]
theorem frz_row (m : List (Place × Entry)) (p : Place) : frz (rowP m p) = rowP m p := by
  unfold rowP; cases getK m p <;> rfl
section
variable [Cls3]
theorem d_table {A : AH} {a : Addr} {h : House} {v : Vec} {er : Addr} {m : List (Place × Entry)} (p : PackAt A a h v er m) (hl : m.length ≤ 900) (Q : D → AH → Prop) (E : X3) (q : Q (tableD m) A) : F_Pack_table (.ref a) A Q E := by
  have z0 := sizeLine_eq
  have rr : ∀ c, W.rd (.ref c) = W.ok (.ref c) := fun _ => rfl
  have fr : ∀ c, frz (D.ref c) = .ref c := fun _ => rfl
  have hlk : (packFs h (vecD v) er).lookup ("entries" : Str) = some (.ref er) := rfl
  have hro : rowOf A (.ref er) = some ((entK m).map (·.1)) := by
    unfold rowOf
    rw [show vw A (.ref er) = .dct (entK m) from by simp [vw, p.ent]]
  have hsl : (sortP (m.map (·.1))).length = m.length := by rw [(sortP_perm _).length_eq, List.length_map]
  unfold F_Pack_table
  simp [rr]
  rw [W.fldW_of p.ins hlk, fr]
  refine ⟨_, sorted_ent hl hro, ?_⟩
  have it : itemsW A (frz (.ml ((sortP (m.map (·.1))).map Place.toD))) = some ((sortP (m.map (·.1))).map Place.toD, []) := rfl
  rw [it]
  show W.each [] _ _ _ _ _ _ _
  refine W.each_wp E (fun i (s : D) A' => A' = A ∧ s = .ml (((sortP (m.map (·.1))).take i).map (rowP m))) _ 0 _ A ⟨rfl, rfl⟩ (fun i y s A' hy hi => ?_) fun s A' hi => ?_
  · obtain ⟨rfl, rfl⟩ := hi
    rw [List.getElem?_map] at hy
    obtain ⟨pl, hpl, rfl⟩ := Option.map_eq_some_iff.mp hy
    have hi2 : i < (sortP (m.map (·.1))).length := (List.getElem?_eq_some_iff.mp hpl).1
    have hmem : pl ∈ m.map (·.1) := (sortP_perm _).subset (List.mem_of_getElem? hpl)
    obtain ⟨e, he⟩ : ∃ e, getK m pl = some e := by
      cases hg : getK m pl with
      | none => exact absurd hmem (getK_none.mp hg)
      | some e => exact ⟨e, rfl⟩
    refine ⟨_, rfl, fun K kk => ?_⟩
    have etk : (sortP (m.map (·.1))).take (i + 1) = (sortP (m.map (·.1))).take i ++ [pl] := by rw [List.take_add_one, hpl]; rfl
    rw [Nat.zero_add, etk, List.map_append] at kk
    have hzl : (((sortP (m.map (·.1))).take (0 + i)).map (rowP m)).length < sizeLine := by rw [List.length_map, List.length_take]; omega
    have hix : fIxA A' (.ref er) pl.toD = some e.toD := by
      rw [fIxA_refD p.ent, if_pos (encPlace.fit _)]
      unfold entK
      rw [kD_get encPlace, he]; rfl
    have erow : rowP m pl = .tup [.str pl.kind, pl.key, e.fst, e.snd] := by unfold rowP; rw [he]
    simp [frz_place]
    rw [W.fldW_of p.ins hlk, fr]
    have r1 : W.rd e.fst = W.ok e.fst := by cases e <;> rfl
    have r2 : W.rd e.snd = W.ok e.snd := by cases e <;> rfl
    refine ⟨_, hix, e.fst, e.snd, rfl, _, ix_p0 _ _, _, ix_p1 _ _, ?_⟩
    rw [r1, W.ok_ap, r2, W.ok_ap]
    refine ⟨_, ⟨by omega, rfl⟩, rfl, kk _ _ ⟨rfl, ?_⟩⟩
    rw [← List.map_take, frz_key]
    show D.ml _ = D.ml _
    rw [List.map_singleton, erow]
    rfl
  · obtain ⟨rfl, rfl⟩ := hi
    rw [Nat.zero_add, List.length_map, List.take_length]
    simp
    exact q
theorem d_pvector {A : AH} {a : Addr} {h : House} {v : Vec} {er : Addr} {m : List (Place × Entry)} (p : PackAt A a h v er m) (Q : D → AH → Prop) (E : X3) (q : Q (vecD v) A) : F_Pack_vector (.ref a) A Q E := by
  have rr : ∀ c, W.rd (.ref c) = W.ok (.ref c) := fun _ => rfl
  have hlk : (packFs h (vecD v) er).lookup ("counted" : Str) = some (vecD v) := rfl
  unfold F_Pack_vector
  simp [rr]
  rw [W.fldW_of p.ins hlk]
  exact q
end
end T3
set_option autoImplicit false
namespace T3
open PySem PySem.Spec PyProof.Rows L2
theorem stamps_nodup {h : House} {hs : List Hnd} {L : List Deed} (p : Pre h hs L) : (L.map Deed.stamp).Nodup := by
  rw [List.Nodup, List.pairwise_map]
  refine p.rise.imp fun {a b} hab e => ?_
  have e1 : a.hand = b.hand := congrArg (·.2) e
  have e2 : a.time = b.time := congrArg (·.1) e
  have := (hab e1).1
  omega
theorem LogOk.ndl {h : House} {l : List Deed} (lo : LogOk h h.hands l) : (l.map Deed.stamp).Nodup := by
  obtain ⟨L, hp, pre, _⟩ := lo
  exact (hp.map Deed.stamp).nodup_iff.mpr (stamps_nodup pre)
theorem LogOk.facts {h : House} {hs : List Hnd} {l : List Deed} (ok : LogOk h hs l) : ∀ d ∈ l, DeedIn h hs d := by
  obtain ⟨L, hp, pre, _⟩ := ok
  exact fun d hd => pre.deed d (hp.mem_iff.mp hd)
/-! ### what a pack holds of a log -/
structure PInv (l : List Deed) (m : List (Place × Entry)) : Prop where
  stp : ∀ p e st, getK m p = some e → e.fst = stampD st → ∃ d ∈ l, d.stamp = st
  say : ∀ s, Place.say s ∈ m.map (·.1) → ∃ d ∈ l, d.stamp = s
theorem PInv.mono {l l' : List Deed} {m : List (Place × Entry)} (i : PInv l m) (h : ∀ d ∈ l, d ∈ l') : PInv l' m :=
  ⟨fun p e st h1 h2 => let ⟨d, hd, q⟩ := i.stp p e st h1 h2; ⟨d, h d hd, q⟩, fun s hs => let ⟨d, hd, q⟩ := i.say s hs; ⟨d, h d hd, q⟩⟩
theorem PInv.put {l : List Deed} {m : List (Place × Entry)} (i : PInv l m) {p : Place} {e : Entry} (h1 : ∀ st, e.fst = stampD st → ∃ d ∈ l, d.stamp = st) (h2 : ∀ s, p = .say s → ∃ d ∈ l, d.stamp = s) : PInv l (putK m p e) :=
  ⟨fun q e' st g1 g2 => by
    by_cases c : q = p
    · rw [c, getK_put_same] at g1; cases g1; exact h1 st g2
    · rw [getK_put_ne c] at g1; exact i.stp q e' st g1 g2, fun s hs => by
    rw [putK_keys] at hs
    split at hs
    · exact i.say s hs
    · rcases List.mem_append.mp hs with h | h
      · exact i.say s h
      · exact h2 s (List.mem_singleton.mp h).symm⟩
theorem stampD_inj {a b : Stamp} (h : stampD a = stampD b) : a = b := encStamp.inj _ _ h
theorem fst_of (d : Deed) : ∀ st, (entryOf d).fst = stampD st → d.stamp = st := fun st h => by
  unfold entryOf at h
  cases e : d.act <;> rw [e] at h <;> simp only [Entry.fst] at h <;> first | exact stampD_inj h | cases h
theorem say_of (d : Deed) : ∀ s, placeOf d = .say s → d.stamp = s := fun s h => by
  unfold placeOf at h
  cases e : d.act <;> rw [e] at h <;> simp only [Place.say.injEq] at h <;> first | exact h | cases h
theorem PInv.putE {hs : List Hnd} {l : List Deed} {m : List (Place × Entry)} (i2 : PInv l m) {p : Place} {e : Entry} (h1 : ∀ st, e.fst = stampD st → ∃ d ∈ l, d.stamp = st) (h2 : ∀ s, p = .say s → ∃ d ∈ l, d.stamp = s) : PInv l (T3.putE hs m p e) := by
  unfold T3.putE
  split
  · exact i2.put h1 h2
  · unfold mixE
    split
    · exact i2.put (fun st h => by cases h) h2
    · split
      · exact i2.put h1 h2
      · exact i2
    · split
      · exact i2.put h1 h2
      · exact i2
    · exact i2
theorem PInv.step {hs : List Hnd} {l : List Deed} {m : List (Place × Entry)} (i : PInv l m) (d : Deed) : PInv (l ++ [d]) (T3.putE hs m (placeOf d) (entryOf d)) :=
  (i.mono fun e he => List.mem_append.mpr (.inl he)).putE (fun st h => ⟨d, by simp, fst_of d st h⟩) fun s h => ⟨d, by simp, say_of d s h⟩
theorem PInv.nil : PInv [] [] := ⟨fun p e st h => by simp [getK] at h, fun s h => by simp at h⟩
theorem pack_inv (hs : List Hnd) : ∀ (l pre : List Deed) (m : List (Place × Entry)), PInv pre m → PInv (pre ++ l) (l.foldl (fun m d => putE hs m (placeOf d) (entryOf d)) m)
  | [], pre, m, h => by rw [List.append_nil]; exact h
  | d :: l, pre, m, h => by
    have := pack_inv hs l (pre ++ [d]) _ (h.step (hs := hs) d)
    rw [List.append_assoc] at this
    exact this
theorem putK_self {κ α : Type} [DecidableEq κ] {k : κ} {d : α} : ∀ {ps : List (κ × α)}, getK ps k = some d → putK ps k d = ps
  | [], h => by cases h
  | (k', d') :: r, h => by
    rw [getK] at h
    rw [putK]
    split at h
    · rename_i e; cases h; rw [if_pos e, e]
    · rename_i e; rw [if_neg e, putK_self h]
/-- what the law keeps -/
def lawE (hs : List Hnd) (m : List (Place × Entry)) (d : Deed) : Entry := match entryOf d, getK m (placeOf d) with
  | .vec v, some (.vec v0) => .vec (gmax hs v0 v)
  | e, _ => e
/-- deeds one by one, each later than all ahead of it: the last of a place stands -/
theorem law_put {h : House} {l : List Deed} {m : List (Place × Entry)} (mk : EOk h.hands m) (i : PInv l m) {d : Deed} (hd : DeedIn h h.hands d) (hlt : ∀ e ∈ l, leS e.stamp d.stamp ∧ e.stamp ≠ d.stamp) : putK m (placeOf d) (lawE h.hands m d) = putE h.hands m (placeOf d) (entryOf d) := by
  have f := fit_of hd
  unfold putE lawE
  cases hg : getK m (placeOf d) with
  | none =>
    cases he : entryOf d <;> rfl
  | some e0 =>
    have f0 := mk.fit _ _ hg
    have lt : ∀ st st0, (entryOf d).fst = stampD st → e0.fst = stampD st0 → ltS st0 st = true := fun st st0 h1 h2 => by
      obtain ⟨e, he, q⟩ := i.stp _ _ _ hg h2
      rw [← fst_of d st h1, ← q]
      exact ltS_of (hlt e he).1 (hlt e he).2
    cases he : entryOf d with
    | say num r u s =>
      have hp : ∃ st, placeOf d = .say st := by
        unfold entryOf at he
        unfold placeOf
        cases ea : d.act <;> rw [ea] at he <;> simp at he
        exact ⟨_, rfl⟩
      obtain ⟨st, hp⟩ := hp
      have hm : Place.say st ∈ m.map (·.1) := by
        by_cases c : Place.say st ∈ m.map (·.1)
        · exact c
        · rw [hp, getK_none.mpr c] at hg; cases hg
      obtain ⟨e, hel, q⟩ := i.say st hm
      exact absurd (q.trans (say_of d st hp).symm) (hlt e hel).2
    | text st s =>
      rw [he] at f lt
      cases hp : placeOf d <;> rw [hp] at f f0 <;> simp [Fit] at f
      cases he0 : e0 <;> rw [he0] at f0 lt <;> simp [Fit] at f0
      · show putK m _ (Entry.text st s) = if ltS _ st = true then putK m _ (Entry.text st s) else m
        rw [if_pos (lt _ _ rfl rfl)]
      · exact absurd f f0
    | flag st b =>
      rw [he] at f lt
      cases hp : placeOf d <;> rw [hp] at f f0 <;> simp [Fit] at f <;> cases he0 : e0 <;> rw [he0] at f0 lt <;> simp [Fit] at f0
      · show putK m _ (Entry.flag st b) = if ltS _ st = true then putK m _ (Entry.flag st b) else m
        rw [if_pos (lt _ _ rfl rfl)]
      · show putK m _ (Entry.flag st b) = if ltS _ st = true then putK m _ (Entry.flag st b) else m
        rw [if_pos (lt _ _ rfl rfl)]
    | vec v =>
      rw [he] at f
      cases hp : placeOf d <;> rw [hp] at f f0 <;> simp [Fit] at f
      cases he0 : e0 <;> rw [he0] at f0 <;> simp [Fit] at f0
      rfl
    | mark =>
      rw [he] at f
      cases hp : placeOf d <;> rw [hp] at f f0 <;> simp [Fit] at f
      cases he0 : e0 <;> rw [he0] at f0 <;> simp [Fit] at f0
      · exact absurd f0 f
      · show putK m _ Entry.mark = m
        rw [hp, he0] at hg
        exact putK_self hg
theorem LogOk.later {h : House} {l : List Deed} (lo : LogOk h h.hands l) {i : Nat} {d : Deed} (hd : l[i]? = some d) : ∀ e ∈ l.take i, leS e.stamp d.stamp ∧ e.stamp ≠ d.stamp := fun e he => by
  have nd := List.pairwise_map.mp lo.ndl
  obtain ⟨L, _, _, hs⟩ := lo
  have hb := List.pairwise_iff_getElem.mp (hs.and nd)
  obtain ⟨j, hj, ej⟩ := List.mem_iff_getElem.mp he
  obtain ⟨hi, ed⟩ := List.getElem?_eq_some_iff.mp hd
  rw [List.length_take] at hj
  have hj2 : j < l.length := by omega
  have := hb j i hj2 hi (by omega)
  rw [List.getElem_take] at ej
  rw [ej, ed] at this
  exact this
end T3
set_option autoImplicit false
namespace T3
open PySem PySem.Spec PyProof.Rows L2
theorem d_kept (d : Deed) : F_kept d.toD = W.ok (.tup [(placeOf d).toD, (entryOf d).fst, (entryOf d).snd]) := by
  unfold F_kept
  have p4 : W.p4 d.toD = some (.int d.time, handD d.hand, .int d.num, d.act.toD) := rfl
  have rd : W.rd d.toD = W.ok d.toD := T3.W.rd_of (codDeed.own d)
  have hh : ∀ A, fIxA A (handD d.hand) (.int 0) = some (.str d.hand.1) := fun A => by simp [handD]
  have rh : W.rd (handD d.hand) = W.ok (handD d.hand) := rfl
  have fwh : ∀ w : What, frz w.toD = w.toD := encWhat.cod.frz
  have fst' : ∀ st : Stamp, frz (stampD st) = stampD st := fun _ => rfl
  have rst : ∀ st : Stamp, W.rd (stampD st) = W.ok (stampD st) := fun _ => rfl
  have fu : ∀ u, frz (underD u) = underD u := fun u => by cases u <;> rfl
  have fv : ∀ v : Vec, frz (vecD v) = vecD v := fun _ => rfl
  simp only [rd, W.ok_bind, codDeed.frz, W.un_some p4]
  unfold placeOf entryOf
  cases e : d.act with
  | say r u s =>
    have ec : cutD [D.str "say", .str r, underD u, .str s] (some 1) none = [.str r, underD u, .str s] := rfl
    have l4 : lim (1 + [D.str r, underD u, .str s].length) = true := lim_of (by show 1 + 3 ≤ _; omega)
    simp only [List.length_cons, List.length_nil, Nat.zero_add, Nat.reduceAdd] at l4
    simp [Act.kind, Act.toD, rh, fst', rst, fu, fv, fwh, hh, codHand.frz, ec, l4]
    rfl
  | hush w b =>
    simp [Act.kind, Act.toD, rh, fst', rst, fu, fv, fwh, hh, codHand.frz]
    rfl
  | _ => simp [Act.kind, Act.toD, rh, fst', rst, fu, fv, fwh, hh, codHand.frz] <;> rfl
theorem mx_nil : ∀ (v m : List (Hnd × Int)), ((m ++ v).map (·.1)).Nodup → (∀ p ∈ v, 1 ≤ p.2) → v.foldl (fun m p => putK m p.1 (max (getZ m p.1) p.2)) m = m ++ v
  | [], m, _, _ => by rw [List.append_nil]; rfl
  | p :: v, m, hn, hp => by
    have hnm : p.1 ∉ m.map (·.1) := fun hm => by
      rw [List.map_append, List.nodup_append] at hn
      exact hn.2.2 _ hm p.1 (by simp) rfl
    have ez : getZ m p.1 = 0 := by unfold getZ; rw [getK_none.mpr hnm]; rfl
    have h1 := hp p List.mem_cons_self
    have em : max (getZ m p.1) p.2 = p.2 := by rw [ez]; omega
    rw [List.foldl_cons, em, putK_new hnm, mx_nil v (m ++ [(p.1, p.2)]) (by rw [List.append_assoc]; exact hn) fun q hq => hp q (List.mem_cons_of_mem _ hq), List.append_assoc]
    rfl
theorem sorted_pairs {h : House} (ok : h.Ok) {m : List (Hnd × Int)} (dk : CntOk h.hands m) (g : Hnd → Int) (hg : ∀ x, getZ m x = g x) :
  (W.bN fTuple (((W.op fun A => (rowOf A (frz (frz (D.md (kD handD D.int m))))).bind fun ds => if okSrt ds = true then some (D.ml (sortD ds)) else none).iS.lc W.p1 (fun y_10 => W.ok true) fun y_10 => ((W.rd y_10).acons ((W.op fun A => fIxA A (frz (frz (D.md (kD handD D.int m)))) (frz y_10)).fzW.acons (W.ok []))).tupA).fzW.acons (W.ok []))).bind W.ok = W.ok (vecD (vecH h.hands g)) := by
  have z0 := sizeLine_eq
  have hlen := hands_len h ok
  have ek : ∀ A, ((rowOf A (frz (frz (D.md (kD handD D.int m))))).bind fun ds => if okSrt ds = true then some (D.ml (sortD ds)) else none) = some (.ml ((vecH h.hands (getZ m)).map fun p => handD p.1)) := fun A => by
    rw [← fSortedS_one]; exact keys_sorted ok dk A
  have evg : vecH h.hands (getZ m) = vecH h.hands g := vecH_congr fun x _ => hg x
  rw [(congrArg W.op (funext ek)).trans (W.op_some _)]
  have hvl := (vecH_in h.hands (getZ m)).len hlen
  simp
  rw [comp1T (f := fun p : Hnd × Int => handD p.1) pairV (by omega) (fun p hp => ?_)]
  rotate_left
  · have hmem : p ∈ m := (getZ_mem dk.nd dk.pos).mpr (vecH_mem.mp hp).2
    have eg : dget (kD handD D.int m) (handD p.1) = some (.int p.2) := by
      rw [kD_get encHand, getK_of_mem dk.nd hmem]; rfl
    have rh : W.rd (handD p.1) = W.ok (handD p.1) := rfl
    simp [encHand.fit, codHand.frz, eg, rh]
    rfl
  · rw [evg]
    simp
    rfl
theorem d_greater {h : House} (ok : h.Ok) {v w : Vec} (hv : VecIn h.hands v) (hw : VecIn h.hands w) : F_greater (vecD v) (vecD w) = W.ok (vecD (gmax h.hands v w)) := by
  have z0 := sizeLine_eq
  have hlen := hands_len h ok
  have hnd := hands_nodup h ok
  obtain ⟨dk, hg⟩ := mx_ok hnd hv hw
  have hvl := hv.len hlen
  have hwl := hw.len hlen
  have p2 : ∀ p : Hnd × Int, W.p2 (pairV p) = some (handD p.1, .int p.2) := fun _ => rfl
  have efold : (v ++ w).foldl (fun m p => putK m p.1 (max (getZ m p.1) p.2)) [] = w.foldl (fun m p => putK m p.1 (max (getZ m p.1) p.2)) v := by
    rw [List.foldl_append, mx_nil v [] (by simpa using hv.nd hnd) hv.pos, List.nil_append]
  unfold F_greater
  have l1 : ∀ (A : AH) (v : Vec), fListA A [vecD v] = some (.ml (v.map pairV)) := fun _ _ => rfl
  have ea : ∀ A, fAdd A (frz (.ml (v.map pairV))) (frz (.ml (w.map pairV))) = some (.ml ((v ++ w).map pairV)) := fun A => by
    show fAdd A (.lst _) (.lst _) = _
    rw [fAdd_lst, if_pos (lim_of (by rw [List.length_map, List.length_map]; omega)), List.map_append]
  have hlim : lim (v.length + w.length) = true := lim_of (by omega)
  simp [l1, hlim]
  rw [← List.map_append]
  rw [W.each_mapB (fun m : List (Hnd × Int) => D.md (kD handD .int m)) (fun m p => putK m p.1 (max (getZ m p.1) p.2)) (fun i m => m.length ≤ i) []]
  rotate_left
  · rfl
  · simp
  · intro i p m hp hi
    have hlt := (List.getElem?_eq_some_iff.mp hp).1
    rw [List.length_append] at hlt
    have hz : (kD handD D.int m).length < sizeLine := by rw [kD_len]; omega
    refine ⟨by have : (putK m p.1 (max (getZ m p.1) p.2)).length ≤ m.length + 1 := putK_len _ _ _; omega, _, p2 p, ?_⟩
    have em : (if p.2 > getZ m p.1 then p.2 else getZ m p.1) = max (getZ m p.1) p.2 := by
      split <;> omega
    simp [encHand.fit, get0, hz, kD_put encHand, em]
  rw [efold]
  obtain ⟨m, hm⟩ : ∃ m, m = w.foldl (fun m p => putK m p.1 (max (getZ m p.1) p.2)) v := ⟨_, rfl⟩
  rw [← hm] at dk hg ⊢
  exact sorted_pairs ok dk _ hg
end T3
set_option autoImplicit false
namespace T3
open PySem PySem.Spec PyProof.Rows L2
structure SLog (h : House) (l : List Deed) : Prop where
  deed : ∀ d ∈ l, DeedIn h h.hands d
  later : ∀ (i : Nat) (d : Deed), l[i]? = some d → ∀ e ∈ l.take i, leS e.stamp d.stamp ∧ e.stamp ≠ d.stamp
  len : l.length ≤ 900
theorem SLog.of {h : House} {l : List Deed} (lo : LogOk h h.hands l) (hl : l.length ≤ 900) : SLog h l := ⟨lo.facts, fun i d hd => lo.later hd, hl⟩
theorem SLog.take {h : House} {l : List Deed} (s : SLog h l) (n : Nat) : SLog h (l.take n) := by
  refine ⟨fun d hd => s.deed d (List.mem_of_mem_take hd), fun i d hd e he => ?_, by have := s.len; rw [List.length_take]; omega⟩
  have hi : i < (l.take n).length := (List.getElem?_eq_some_iff.mp hd).1
  rw [List.length_take] at hi
  rw [List.getElem?_take_of_lt (by omega)] at hd
  rw [List.take_take, Nat.min_eq_left (by omega)] at he
  exact s.later i d hd e he
theorem SLog.nil (h : House) : SLog h [] := ⟨by simp, fun i d hd => by simp at hd, by simp⟩
theorem d_due {h : House} (ok : h.Ok) {l : List Deed} (sl : SLog h l) : F_due (logD l) = W.ok (.tup [tableD (packE h.hands l), vecD (cvec h.hands l)]) := by
  have z0 := sizeLine_eq
  have hll := sl.len
  have hlen := hands_len h ok
  unfold F_due
  simp
  rw [W.each_mapB (fun t : List (Place × Entry) × List (Hnd × Int) => (D.md (entK t.1), D.md (kD handD .int t.2))) (fun t d => (putE h.hands t.1 (placeOf d) (entryOf d), cntStep t.2 d)) (fun i t => t.1 = packE h.hands (l.take i) ∧ t.2 = cntM (l.take i)) ([], [])]
  rotate_left
  · rfl
  · exact ⟨rfl, rfl⟩
  · intro i d t hd hi
    obtain ⟨m, cs⟩ := t
    obtain ⟨e1, e2⟩ := hi
    simp only at e1 e2
    have hi2 : i < l.length := (List.getElem?_eq_some_iff.mp hd).1
    have etk : l.take (i + 1) = l.take i ++ [d] := by rw [List.take_add_one, hd]; rfl
    have hdd := sl.deed d (List.mem_of_getElem? hd)
    obtain ⟨mk, ml⟩ := pack_ok (l.take i) [] (EOk.nil h.hands) fun e he => sl.deed e (List.mem_of_mem_take he)
    have pv := pack_inv h.hands (l.take i) [] [] PInv.nil
    rw [List.nil_append] at pv
    have mk' : EOk h.hands m := by rw [e1]; exact mk
    have pv' : PInv (l.take i) m := by rw [e1]; exact pv
    have hml : m.length ≤ 900 := by
      have : (l.take i).length = i := by rw [List.length_take]; omega
      rw [e1]; unfold packE
      simp only [List.length_nil] at ml
      omega
    have hcl : cs.length ≤ 900 := by
      have h1 := cnt_len (l.take i) []
      have : (l.take i).length = i := by rw [List.length_take]; omega
      rw [e2]; unfold cntM
      simp only [List.length_nil] at h1
      omega
    refine ⟨⟨by rw [etk, pack_snoc, e1], by rw [etk, e2]; unfold cntM; rw [List.foldl_append]; rfl⟩, _, rfl, ?_⟩
    have lp := law_put mk' pv' hdd (sl.later i d hd)
    have hz : (entK m).length < sizeLine := by unfold entK; rw [kD_len]; omega
    have hz2 : (kD handD D.int cs).length < sizeLine := by rw [kD_len]; omega
    have f1 : ∀ A, fIxA A d.toD (.int 1) = some (handD d.hand) := fun A => by simp [Deed.toD]
    have rd : W.rd d.toD = W.ok d.toD := T3.W.rd_of (codDeed.own d)
    have hget : dget (entK m) (placeOf d).toD = (getK m (placeOf d)).map Entry.toD := kD_get encPlace _ _ _
    have hput : ∀ e', dput (entK m) (placeOf d).toD e'.toD = entK (putK m (placeOf d) e') := fun e' => kD_put encPlace _ _ _ _
    simp [rd, d_kept, codDeed.frz, f1, codHand.frz, encHand.fit, get0, hz2, kD_put encHand, frz_place, rd_place, ix_p0, encPlace.fit, hget, hz]
    have r1 : ∀ e : Entry, W.rd e.fst = W.ok e.fst := fun e => by cases e <;> rfl
    have r2 : ∀ e : Entry, W.rd e.snd = W.ok e.snd := fun e => by cases e <;> rfl
    have fin : ∀ e' : Entry, e' = lawE h.hands m d → (W.ok (D.md (dput (entK m) (placeOf d).toD (frz (.tup [e'.fst, e'.snd]))), D.md (kD handD D.int (putK cs d.hand (getZ cs d.hand + 1)))) : W (D × D)) = W.ok (D.md (entK (putE h.hands m (placeOf d) (entryOf d))), D.md (kD handD D.int (cntStep cs d))) := fun e' ee => by
      have : frz (.tup [e'.fst, e'.snd]) = e'.toD := rfl
      rw [this, hput e', ee, lp]; rfl
    have f := fit_of hdd
    by_cases hr : (placeOf d).kind = ("read" : Str)
    · obtain ⟨n, r, v, hp, he⟩ : ∃ n r v, placeOf d = .read n r ∧ entryOf d = .vec v := by
        unfold placeOf at hr ⊢
        unfold entryOf
        cases ea : d.act <;> rw [ea] at hr <;> simp [Place.kind] at hr <;> first | exact absurd hr ks7 | exact absurd hr kl2 | exact absurd hr kh1 | exact absurd hr (MK.ne_read _) | exact ⟨_, _, _, rfl, rfl⟩
      cases hg : getK m (placeOf d) with
      | none =>
        simp [hr, r1, r2]
        refine fin _ ?_
        unfold lawE; rw [hg]; cases entryOf d <;> rfl
      | some e0 =>
        have f0 := mk'.fit _ _ hg
        rw [hp] at f0
        rw [hp, he] at f
        cases he0 : e0 <;> rw [he0] at f0 <;> simp [Fit] at f0
        rename_i v0
        have fv : VecIn h.hands v := f
        have el : lawE h.hands m d = .vec (gmax h.hands v0 v) := by unfold lawE; rw [hg, he, he0]
        have e1 : ∀ A, fIxA A (Entry.vec v0).toD (.int 1) = some (vecD v0) := fun A => ix_e1 A _
        have rv : W.rd (Entry.vec v).snd = W.ok (vecD v) := rfl
        have rv2 : ∀ v, W.rd (vecD v) = W.ok (vecD v) := fun _ => rfl
        have fv2 : ∀ v, frz (vecD v) = vecD v := fun _ => rfl
        simp [hr, he, rv, e1, frz_entry, fv2, d_greater ok f0 fv, rv2]
        rw [he] at fin
        exact fin (.vec (gmax h.hands v0 v)) el.symm
    · simp [hr, r1, r2]
      refine fin _ ?_
      unfold lawE
      cases he : entryOf d <;> cases hg : getK m (placeOf d) <;> try rfl
      rename_i v e0
      rw [he] at f
      exfalso
      cases hp : placeOf d <;> rw [hp] at f hr <;> simp [Fit] at f
      exact hr rfl
  · have ef : l.foldl (fun (t : List (Place × Entry) × List (Hnd × Int)) d => (putE h.hands t.1 (placeOf d) (entryOf d), cntStep t.2 d)) ([], []) = (packE h.hands l, cntM l) := by
      have : ∀ (l : List Deed) (m : List (Place × Entry)) (cs : List (Hnd × Int)), l.foldl (fun (t : List (Place × Entry) × List (Hnd × Int)) d => (putE h.hands t.1 (placeOf d) (entryOf d), cntStep t.2 d)) (m, cs) = (l.foldl (fun m d => putE h.hands m (placeOf d) (entryOf d)) m, l.foldl cntStep cs) := by
        intro l
        induction l with
        | nil => intro m cs; rfl
        | cons d l ih => intro m cs; rw [List.foldl_cons, ih]; rfl
      exact this l [] []
    rw [ef]
    have hh : ∀ d ∈ l, d.hand ∈ h.hands := fun d hd => (sl.deed d hd).hand
    have esp := sorted_pairs ok (cnt_ok hh) (fun x => ((ofHand x l).length : Int)) fun x => by
      have := cnt_get l [] x
      have hz : getZ [] x = 0 := rfl
      rw [hz, Int.zero_add] at this
      exact this
    obtain ⟨mk, ml⟩ := pack_ok l [] (EOk.nil h.hands) sl.deed
    have ml2 : (packE h.hands l).length ≤ 900 := by unfold packE; simp only [List.length_nil] at ml; omega
    have ek : ∀ A, ((rowOf A (frz (frz (D.md (entK (packE h.hands l)))))).bind fun ds => if okSrt ds = true then some (D.ml (sortD ds)) else none) = some (.ml ((sortP ((packE h.hands l).map (·.1))).map Place.toD)) := fun A => by
      rw [← fSortedS_one]
      exact sorted_ent ml2 rfl
    rw [show ∀ t : W D, t.bind W.ok = t from fun _ => rfl] at esp
    dsimp only
    rw [esp]
    rw [(congrArg W.op (funext ek)).trans (W.op_some _)]
    have hsl : (sortP ((packE h.hands l).map (·.1))).length = (packE h.hands l).length := by rw [(sortP_perm _).length_eq, List.length_map]
    simp
    rw [comp1T (f := Place.toD) (rowP (packE h.hands l)) (by omega) (fun p hp => ?_)]
    rotate_left
    · have hmem : p ∈ (packE h.hands l).map (·.1) := (sortP_perm _).subset hp
      obtain ⟨e, he⟩ : ∃ e, getK (packE h.hands l) p = some e := by
        cases hg : getK (packE h.hands l) p with
        | none => exact absurd hmem (getK_none.mp hg)
        | some e => exact ⟨e, rfl⟩
      have hgt : dget (entK (packE h.hands l)) p.toD = some e.toD := by unfold entK; rw [kD_get encPlace, he]; rfl
      have ead : ∀ A, fAdd A p.toD e.toD = some (rowP (packE h.hands l) p) := fun A => by
        show fAdd A (.tup [.str p.kind, p.key]) (.tup [e.fst, e.snd]) = _
        rw [fAdd_tup, if_pos (lim_of (by show 2 + 2 ≤ _; omega))]
        unfold rowP; rw [he]; rfl
      simp [frz_place, encPlace.fit, hgt, frz_entry, ead]
    · have et : ∀ A, fTuple A [frz (.ml ((sortP ((packE h.hands l).map (·.1))).map fun x => frz (rowP (packE h.hands l) x)))] = some (tableD (packE h.hands l)) := fun A => by
        have : ((sortP ((packE h.hands l).map (·.1))).map fun x => frz (rowP (packE h.hands l) x)) = (sortP ((packE h.hands l).map (·.1))).map (rowP (packE h.hands l)) := List.map_congr_left fun x _ => frz_row _ _
        rw [this]; rfl
      have eop : (W.bN fTuple ((W.ok (D.ml ((sortP ((packE h.hands l).map (·.1))).map fun x => frz (rowP (packE h.hands l) x)))).fzW.acons (W.ok []))) = W.ok (tableD (packE h.hands l)) := (congrArg W.op (funext et)).trans (W.op_some _)
      rw [eop]
      rfl
end T3
set_option autoImplicit false
namespace T3
open PySem PySem.Spec PyProof.Rows L2
/-- trees of texts, numbers, truths, nothing and tuples, of a depth -/
def simU : Nat → D → Bool
  | _ + 1, .str _ => true
  | _ + 1, .int _ => true
  | _ + 1, .bl _ => true
  | _ + 1, .non => true
  | n + 1, .tup xs => decide (xs.length ≤ 1000) && xs.all (simU n)
  | _, _ => false
theorem simU_rd {n : Nat} {d : D} (h : simU n d = true) : W.rd d = W.ok d := by
  cases n with
  | zero => simp [simU] at h
  | succ n => cases d <;> first | rfl | (simp [simU] at h; done) | (simp; done)
theorem simU_frz {n : Nat} {d : D} (h : simU n d = true) : frz d = d := by
  cases n with
  | zero => simp [simU] at h
  | succ n => cases d <;> first | rfl | (simp [simU] at h; done) | (simp; done)
theorem simU_pok : ∀ (n : Nat) (d : D), simU n d = true → pok d = true ∧ dep d ≤ n
  | 0, d, h => by simp [simU] at h
  | n + 1, d, h => by
    cases d with
    | str x => simp [pok, dep]
    | int x => simp [pok, dep]
    | bl x => simp [pok, dep]
    | non => simp [pok, dep]
    | tup xs =>
      simp only [simU, Bool.and_eq_true, decide_eq_true_eq, List.all_eq_true] at h
      obtain ⟨hl, hx⟩ := h
      have : ∀ ys : List D, (∀ y ∈ ys, simU n y = true) → poks ys = true ∧ deps ys ≤ n := by
        intro ys
        induction ys with
        | nil => intro _; simp [poks, deps]
        | cons y ys ih =>
          intro hy
          obtain ⟨a1, a2⟩ := simU_pok n y (hy y List.mem_cons_self)
          obtain ⟨b1, b2⟩ := ih fun z hz => hy z (List.mem_cons_of_mem _ hz)
          rw [poks, deps, a1, b1]
          exact ⟨rfl, by omega⟩
      obtain ⟨h1, h2⟩ := this xs hx
      rw [pok, dep]
      exact ⟨h1, by omega⟩
    | _ => simp [simU] at h
theorem fNe_self {n : Nat} {d : D} (h : simU n d = true) (hn : n ≤ 60) (A : AH) : fNe A d d = some (.bl false) := by
  obtain ⟨h1, h2⟩ := simU_pok n d h
  have hv : vw A d = d := vw_pok h1
  have hk : okEq d d = true := by
    unfold okEq
    rw [h1, decide_eq_true (show dep d ≤ 60 by omega)]; rfl
  unfold fNe
  rw [hv, if_pos hk, show eqD d d = true from eqv_refl d h1]; rfl
theorem loop_nxU {ι δ : Type} {pt : D → Option δ} {body : Unit → δ → W (Fl Unit)} {f : ι → D} : ∀ (xs : List ι), (∀ x ∈ xs, ∃ y, pt (f x) = some y ∧ body () y = W.ok (.nx ())) → W.loop [] pt body (xs.map f) () = W.ok (.nx ())
  | [], _ => by simp [W.loop]
  | x :: xs, h => by
    obtain ⟨y, e1, e2⟩ := h x List.mem_cons_self
    simp only [List.map_cons, W.loop, W.held_nil, W.ok_bind, e1, e2]
    exact loop_nxU xs fun z hz => h z (List.mem_cons_of_mem _ hz)
theorem same_sim : ∀ (n : Nat) (d : D), simU n d = true → F_same n d d = W.ok (.bl true)
  | 0, d, h => by simp [simU] at h
  | n + 1, d, h => by
    have z0 := sizeLine_eq
    cases d with
    | non =>
      unfold F_same
      simp
    | bl b =>
      have fb : ∀ A, fIsi "bool" A (.bl b) = some (.bl true) := fun A => by rw [fIsi_bl]; decide
      unfold F_same
      simp [fb]
    | str x =>
      have fb : ∀ A, fIsi "bool" A (.str x) = some (.bl false) := fun A => by rw [fIsi_str]; decide
      have fs : ∀ A, fIsi "str" A (.str x) = some (.bl true) := fun A => by rw [fIsi_str]; decide
      unfold F_same
      simp [fb, fs]
    | int i =>
      have fb : ∀ A, fIsi "bool" A (.int i) = some (.bl false) := fun A => by rw [fIsi_int]; decide
      have fs : ∀ A, fIsi "str" A (.int i) = some (.bl false) := fun A => by rw [fIsi_int]; decide
      have fi : ∀ A, fIsi "int" A (.int i) = some (.bl true) := fun A => by rw [fIsi_int]; decide
      unfold F_same
      simp [fb, fs, fi]
    | tup xs =>
      simp only [simU, Bool.and_eq_true, decide_eq_true_eq, List.all_eq_true] at h
      obtain ⟨hl, hx⟩ := h
      have fb : ∀ A, fIsi "bool" A (.tup xs) = some (.bl false) := fun A => by rw [fIsi_tup]; decide
      have fs : ∀ A, fIsi "str" A (.tup xs) = some (.bl false) := fun A => by rw [fIsi_tup]; decide
      have fi : ∀ A, fIsi "int" A (.tup xs) = some (.bl false) := fun A => by rw [fIsi_tup]; decide
      have fl : ∀ A, fIsi "list" A (.tup xs) = some (.bl false) := fun A => by rw [fIsi_tup]; decide
      have ft : ∀ A, fIsi "tuple" A (.tup xs) = some (.bl true) := fun A => by rw [fIsi_tup]; decide
      have fn : ∀ A, fIsN A (.tup xs) .non = some (.bl false) := fun A => by simp
      have ne : ∀ A (i : Int), fNe A (.int i) (.int i) = some (.bl false) := fun A i => by simp
      unfold F_same
      simp [fb, fs, fi, fl, ft, fn, ne]
      rw [loop_nxU xs fun x hm => ⟨(x, x), rfl, ?_⟩]
      · simp
      · have e := same_sim n x (hx x hm)
        have er : W.rd x = W.ok x := simU_rd (hx x hm)
        simp [er, simU_frz (hx x hm), e]
    | _ => simp [simU] at h
theorem sim_what (n : Nat) (w : What) : simU (n + 4) w.toD = true := by cases w <;> simp [What.toD, stampD, handD, simU]
theorem sim_under (n : Nat) (u : Option Stamp) : simU (n + 3) (underD u) = true := by cases u <;> simp [underD, stampD, handD, simU]
theorem sim_vec (n : Nat) {v : Vec} (hl : v.length ≤ 1000) : simU (n + 4) (vecD v) = true := by
  show (decide ((v.map fun p => D.tup [handD p.1, .int p.2]).length ≤ 1000) && (v.map fun p => D.tup [handD p.1, .int p.2]).all (simU (n + 3))) = true
  rw [List.length_map, decide_eq_true hl, Bool.true_and, List.all_eq_true]
  intro d hd
  obtain ⟨p, _, rfl⟩ := List.mem_map.mp hd
  simp [handD, simU]
theorem sim_key (n : Nat) (p : Place) : simU (n + 5) p.key = true := by
  cases p with
  | hush m w =>
    have := sim_what n w
    simp [Place.key, simU, this]
  | _ => simp [Place.key, stampD, handD, simU]
theorem sim_fst (n : Nat) (e : Entry) : simU (n + 3) e.fst = true := by cases e <;> simp [Entry.fst, stampD, handD, simU]
theorem sim_snd (n : Nat) {hs : List Hnd} (hlen : hs.length ≤ 12) {p : Place} {e : Entry} (f : Fit hs p e) : simU (n + 4) e.snd = true := by
  cases e with
  | say num r u s =>
    have := sim_under n u
    simp [Entry.snd, simU, this]
  | vec v =>
    have hv : VecIn hs v := by cases p <;> simp [Fit] at f; exact f
    have := hv.len hlen
    exact sim_vec n (by omega)
  | _ => simp [Entry.snd, simU]
theorem sim_row (n : Nat) {hs : List Hnd} (hlen : hs.length ≤ 12) {m : List (Place × Entry)} (mk : EOk hs m) (p : Place) : simU (n + 6) (rowP m p) = true := by
  unfold rowP
  cases hg : getK m p with
  | none => rfl
  | some e =>
    have h1 := sim_key n p
    have h2 := sim_fst (n + 2) e
    have h3 := sim_snd (n + 1) hlen (mk.fit p e hg)
    simp [simU, h1, h2, h3]
theorem sim_table (n : Nat) {hs : List Hnd} (hlen : hs.length ≤ 12) {m : List (Place × Entry)} (mk : EOk hs m) (hl : m.length ≤ 900) : simU (n + 7) (tableD m) = true := by
  have hsl : (sortP (m.map (·.1))).length = m.length := by rw [(sortP_perm _).length_eq, List.length_map]
  show (decide (((sortP (m.map (·.1))).map (rowP m)).length ≤ 1000) && ((sortP (m.map (·.1))).map (rowP m)).all (simU (n + 6))) = true
  rw [List.length_map, hsl, decide_eq_true (by omega), Bool.true_and, List.all_eq_true]
  intro d hd
  obtain ⟨p, _, rfl⟩ := List.mem_map.mp hd
  exact sim_row n hlen mk p
end T3
set_option autoImplicit false
namespace T3
open PySem PySem.Spec PyProof.Rows L2
/-! ### the end of a law that makes a lambda and has classes -/
theorem walk_tabK {l : PySem.W.OpenLaw} {k : Nat} {q : Program} {loose : List Str} {XP : (Str → Option Value) → Heap → Prop} {YP : World → Heap → Prop} {d : DefRec} {K : Params → PySem.W.Frag} {x nm : Str} {F : PySem.W.Frag → D → W D}
    (hn : l.most = some 63) (hdf : d.params.defaults = []) (hr : Room k callerA) (hY : ∀ (w : World) (h : Heap), YP w h → (K w.params).In h) (hrec : ((recsOf q).any fun e => e.name == nm) = true)
    (hlaw : ∀ (K : PySem.W.Frag) (ns : List Int), ns.length ≤ 63 → ∀ (Q : D → AH → Prop) (E : X3) (A : AH), (∀ A, Q (.bl true) A) → F K (script ns) A Q E)
    (FF : ∀ (w : World) (mg : Str → Option Value) (fa : Addr) (h : Heap), (K w.params).In h → h.Ns mainGlobals mg → mg d.name = some (.ref fa) → ∀ (c P a : Addr) (o : Obj) (fd : FuncData), mg nm = some (.ref a) → h.get? a = some o → o.data = .func fd → fd.code = .ref c →
      noTab (K w.params) = true ∧ ∃ fd : FuncData, (∀ (s : Shared) (u : Value), BindsTo s fd ⟨[u], []⟩ [(x, u)]) ∧ ∀ base : Heap, (K w.params).In base → base.Ns mainGlobals mg → LamX.TabB base mg c P → FnOk l.prog w (K w.params) mg base CX0 k fa fd [x] (lspT (K w.params) w P (sp1 (F (K w.params))))) :
    PySem.W.WalkO q loose XP YP l.row.toRowW d [] (fun f vs => PySem.call f vs) := by
  refine Att.attach_callB hn hdf fun w s₀ s₁ mg mb fa o pm cd doc a vs ns G Y ho hd hcd hmg hobj hints hlen hbits hg => ?_
  have KX := hY w _ Y
  obtain ⟨dL, hm, hn1⟩ := List.any_eq_true.mp hrec
  have hn2 : dL.name = nm := beq_iff_eq.mp hn1
  obtain ⟨a', o', fd', c, P, h1, h2, h3, h4, h5, h6⟩ := G.T.tab dL hm
  rw [hn2] at h1
  have hP : s₁.heap.get? P = some { cls := .none, data := .fields #[] } := h6.2
  obtain ⟨nt, fd, hb, hF⟩ := FF w mg fa _ KX G.T.g hmg c P a' o' fd' h1 h2 h3 h4
  have nK := noTab_none KX nt hP
  have hs := sizeLine_eq
  exact LamX.law_callTs (cs := [(c, P)]) KX G.T.g G.T.b G.T.builtins G.T.nolimit hg (fun p hp => by rw [List.mem_singleton.mp hp]; exact hP) (fun p hp => by rw [List.mem_singleton.mp hp]; exact nK) (fun p hp => by rw [List.mem_singleton.mp hp]; exact PySem.W.CodeHd.of h5 h6) G.T.bmain hobj hints (by omega) hr
    (fun base h1 h2 h3 => fnTop (hlaw (K w.params)) (hF base h1 h2 (h3 _ (List.mem_singleton.mpr rfl)))) hb (fun H hH hS => ⟨a, ns, rfl, hH _ (List.mem_singleton.mpr rfl), hS, hlen, fun v H' e => e⟩) fun H e s' h => h
end T3
set_option autoImplicit false
namespace T3
open PySem PySem.Spec PyProof.Rows L2
variable [Cls3]
theorem law_true (ns : List Int) (hn : ns.length ≤ 63) (Q : D → AH → Prop) (E : X3) (A : AH) (q : ∀ A, Q (.bl true) A) : F_law (script ns) A Q E := by
  have z0 := sizeLine_eq
  unfold F_law
  have c0 := d_cell_at ns 0
  simp at c0
  have fl : ∀ v : List Deed, frz (logD v) = logD v := fun _ => rfl
  have rl : ∀ v : List Deed, W.rd (logD v) = W.ok (logD v) := fun _ => rfl
  have rr : ∀ c : Addr, W.rd (.ref c) = W.ok (.ref c) := fun _ => rfl
  have fr : ∀ c : Addr, frz (D.ref c) = .ref c := fun _ => rfl
  simp [c0]
  refine d_houseS _ _ _ _ fun h ok => ?_
  have fh : frz h.toD = h.toD := rfl
  have hlen := hands_len h ok
  simp [fh]
  obtain ⟨ms, em, hml⟩ : ∃ ms : List Int, cutD (ns.map D.int) (some 1) (some 63) = ms.map D.int ∧ ms.length ≤ 63 := by
    refine ⟨(ns.drop (HT.sIx (ns.map D.int).length 0 (some 1))).take (HT.sIx (ns.map D.int).length (ns.map D.int).length (some 63) - HT.sIx (ns.map D.int).length 0 (some 1)), ?_, ?_⟩
    · unfold cutD; rw [List.map_take, List.map_drop]
    · rw [List.length_take, List.length_drop]; omega
  have e1 : fSl A (script ns) (some 1) (some 63) = some (.ml (ms.map D.int)) := by rw [← em]; rfl
  refine ⟨_, e1, ?_⟩
  have fm : frz (.ml (ms.map D.int)) = .lst (ms.map D.int) := rfl
  rw [fm]
  refine d_log ms hml h ok _ _ fun l A1 lo hll _ => ?_
  have hl : l.length ≤ 900 := by omega
  have sl := SLog.of lo hl
  rw [fl, rl, W.ok_ap]
  have e2 : fLen A1 [frz (logD l)] = some (.int (l.length : Int)) := by rw [fl]; simp [logD]
  have e3 : fFdiv A1 (frz (.int (l.length : Int))) (.int 2) = some (.int ((l.length : Int) / 2)) := by simp [frz]
  have e4 : fSl A1 (frz (logD l)) none (some ((l.length : Int) / 2)) = some (logD (l.take ((l.length : Int) / 2).toNat)) := by
    rw [fl]
    show some (D.tup (cutD (l.map Deed.toD) none (some ((l.length : Int) / 2)))) = _
    rw [cutD_to _ _ (by omega) (by rw [List.length_map]; omega), ← List.map_take]; rfl
  refine ⟨_, e2, _, e3, _, rfl, _, e4, ?_⟩
  rw [fl]
  have e5 : [logD l, logD (l.take ((l.length : Int) / 2).toNat), D.tup []] = [l, l.take ((l.length : Int) / 2).toNat, []].map logD := rfl
  rw [e5]
  refine W.loop_wp E (fun _ (_ : Unit) A' => True) _ 0 () A1 trivial (fun i y s A2 hy _ => ?_) fun s A2 _ => ?_
  · rw [List.getElem?_map] at hy
    obtain ⟨l', hl', rfl⟩ := Option.map_eq_some_iff.mp hy
    have hm := List.mem_of_getElem? hl'
    have sl' : SLog h l' := by
      simp only [List.mem_cons, List.not_mem_nil, or_false] at hm
      rcases hm with rfl | rfl | rfl
      · exact sl
      · exact sl.take _
      · exact SLog.nil h
    obtain ⟨mk, mlen⟩ := pack_ok l' [] (EOk.nil h.hands) sl'.deed
    have ml2 : (packE h.hands l').length ≤ l'.length := by unfold packE; simp only [List.length_nil] at mlen; omega
    have hl9 := sl'.len
    have mk2 : EOk h.hands (packE h.hands l') := mk
    have st := sim_table 1 hlen mk2 (by omega)
    have sv := sim_vec 4 (v := cvec h.hands l') (by have := (vecH_in h.hands fun x => ((ofHand x l').length : Int)).len hlen; unfold cvec; omega)
    refine ⟨_, rfl, fun K kk => ?_⟩
    have es1 := same_sim 8 _ st
    have es2 := same_sim 8 _ sv
    have rt : W.rd (tableD (packE h.hands l')) = W.ok (tableD (packE h.hands l')) := simU_rd st
    have ft : frz (tableD (packE h.hands l')) = tableD (packE h.hands l') := simU_frz st
    have rv : W.rd (vecD (cvec h.hands l')) = W.ok (vecD (cvec h.hands l')) := rfl
    have fv : frz (vecD (cvec h.hands l')) = vecD (cvec h.hands l') := rfl
    simp [rl, d_due ok sl', ft, fv]
    have ml9 : (packE h.hands l').length ≤ 900 := by omega
    refine ⟨_, _, rfl, fun a ha => ?_⟩
    refine d_pinit ok sl'.deed hl9 put_same _ _ fun er A3 her k3 pk => ⟨rfl, ?_⟩
    rw [W.asIns_of pk.ins rfl]
    refine d_table pk ml9 _ _ ?_
    rw [rt, W.ok_ap, ft, es1, W.ok_ap]
    refine .inr ⟨rfl, ?_⟩
    rw [W.asIns_of pk.ins rfl]
    refine d_pvector pk _ _ ?_
    rw [rv, W.ok_ap, fv, es2, W.ok_ap]
    refine .inr ⟨rfl, ?_⟩
    rw [W.asIns_of pk.ins rfl]
    refine d_table pk ml9 _ _ ?_
    have hsl : (sortP ((packE h.hands l').map (·.1))).length = (packE h.hands l').length := by rw [(sortP_perm _).length_eq, List.length_map]
    have elt : fLen A3 [frz (tableD (packE h.hands l'))] = some (.int ((packE h.hands l').length : Int)) := by
      rw [ft]; unfold tableD; simp [hsl]
    have egt : fGt A3 (frz (.int ((packE h.hands l').length : Int))) (.int (l'.length : Int)) = some (.bl false) := by
      have : ¬ (l'.length : Int) < ((packE h.hands l').length : Int) := by omega
      simp [frz, this]
    refine ⟨_, elt, _, egt, .inl ⟨rfl, ?_⟩⟩
    rw [W.asIns_of pk.ins rfl]
    refine d_table pk ml9 _ _ fun a2 ha2 => ?_
    refine d_pinit ok sl'.deed hl9 put_same _ _ fun er2 A4 her2 k4 pk2 => ⟨rfl, ?_⟩
    rw [W.asIns_of pk2.ins rfl]
    refine d_table pk2 ml9 _ _ ?_
    rw [ft]
    exact ⟨_, fNe_self st (by omega) _, .inl ⟨rfl, kk _ _ trivial⟩⟩
  · simp
    exact q _
end T3
set_option autoImplicit false
set_option maxHeartbeats 0
namespace T3
open PySem PySem.Spec PyProof.Rows L2
def topS (i : Nat) : Stmt := PySem.Challenge.pw_talkmarks_k60_what_a_pack_keeps.main.body.getD i (.Pass ⟨0, 0, 0, 0⟩)
structure Txt (mg : Str → Option Value) : Prop where
  b_bool : mg "bool" = none
  b_dict : mg "dict" = none
  b_int : mg "int" = none
  b_isinstance : mg "isinstance" = none
  b_len : mg "len" = none
  b_list : mg "list" = none
  b_max : mg "max" = none
  b_range : mg "range" = none
  b_sorted : mg "sorted" = none
  b_str : mg "str" = none
  b_tuple : mg "tuple" = none
  b_zip : mg "zip" = none
structure ClsT [Cls3] (K : PySem.W.Frag) : Prop where
  k_Pack : ClsK K (Cls3.at_ "Pack") ["house", "counted", "entries"]
def clsBody : Stmt → List Stmt
  | .ClassDef _ _ _ b _ _ _ _ _ _ _ => b
  | _ => []
section
variable [Cls3]
variable {P : Program} {w : World} {K : PySem.W.Frag} {mg : Str → Option Value} {base : Heap}
abbrev s_stamp_of : Stmt := topS 2
theorem l_stamp_of (ds A Q E) (h : (sp1 F_stamp_of) ds A Q E) : ds.length = (["deed"] : List Str).length := by obtain ⟨_, rfl, _⟩ := h; rfl
theorem sc_stamp_of : FnScope N_stamp_of ["deed"] (defScope s_stamp_of) := ⟨rfl, rfl, rfl, by decide +kernel, rfl, by decide +kernel, by decide +kernel⟩
theorem ok_stamp_of {f : Addr} {fd : FuncData} (F : Fun K "stamp_of" "stamp_of" s_stamp_of f fd) (T : Txt mg) (XC : ClsT K) : FnOk P w K mg base CX0 1 f fd ["deed"] (lsp K w (sp1 F_stamp_of)) := by
  refine fn3 (t := b_stamp_of) F sc_stamp_of l_stamp_of (fun cdv A outer s H E C hr => ?_) m_stamp_of
  have hu := hr.units
  exact pss3_cons (ps3_ret (pe3_tup (pa3_cons (pe3_ix (ix_all hu) o_ixA (pb3_v (pv 0)) (pb3 (pe3_int)) (fun _ _ => rfl)) (pa3_cons (pe3_ix (ix_all hu) o_ixA (pb3_v (pv 0)) (pb3 (pe3_int)) (fun _ _ => rfl)) (pa3_nil))))) (pss3_nil)
abbrev s_counts_of : Stmt := topS 4
theorem l_counts_of (ds A Q E) (h : (sp1 F_counts_of) ds A Q E) : ds.length = (["deeds"] : List Str).length := by obtain ⟨_, rfl, _⟩ := h; rfl
theorem sc_counts_of : FnScope N_counts_of ["deeds"] (defScope s_counts_of) := ⟨rfl, rfl, rfl, by decide +kernel, rfl, by decide +kernel, by decide +kernel⟩
theorem ok_counts_of {f : Addr} {fd : FuncData} (F : Fun K "counts_of" "counts_of" s_counts_of f fd) (T : Txt mg) (XC : ClsT K) : FnOk P w K mg base CX0 1 f fd ["deeds"] (lsp K w (sp1 F_counts_of)) := by
  refine fn3 (t := b_counts_of) F sc_counts_of l_counts_of (fun cdv A outer s H E C hr => ?_) m_counts_of
  have hu := hr.units
  exact pss3_cons (ps3_set (i := 1) sc_counts_of.nd rfl (by first | exact Or.inl rfl | exact Or.inr rfl) (pe3_dnew)) (pss3_fgt [2] (pss3_cons (ps3_for (p := .nm 2) PassesOwn.never rfl (pi3_s (pe3_v (pv 0))) (pg_name (i := 2) sc_counts_of.nd rfl (by first | exact Or.inl rfl | exact Or.inr rfl)) (pss3_cons (ps3_put (set_dk hu) s_dset (pv 1) (pe3_ix (ix_all hu) o_ixA (pb3_v (pv 2)) (pb3 (pe3_int)) (fun _ _ => rfl)) (pe3_op op_addA o_add (pb3 (pe3_mF PySem.F.plainAttrs_dict PySem.F.slot_dict_get PySem.F.type_dict_get (mt_get_dk hu) m_get (pb3_v (pv 1)) (pa3_cons (pe3_ix (ix_all hu) o_ixA (pb3_v (pv 2)) (pb3 (pe3_int)) (fun _ _ => rfl)) (pa3_cons (pe3_int) (pa3_nil))))) (pb3 (pe3_int)))) (pss3_fgt [2] (pss3_nil)))) (pss3_cons (ps3_retV (pv 1)) (pss3_nil))))
abbrev s_vector_of : Stmt := topS 5
theorem l_vector_of (ds A Q E) (h : (sp1 F_vector_of) ds A Q E) : ds.length = (["log"] : List Str).length := by obtain ⟨_, rfl, _⟩ := h; rfl
theorem sc_vector_of : FnScope N_vector_of ["log"] (defScope s_vector_of) := ⟨rfl, rfl, rfl, by decide +kernel, rfl, by decide +kernel, by decide +kernel⟩
theorem ok_vector_of {f : Addr} {fd : FuncData} (F : Fun K "vector_of" "vector_of" s_vector_of f fd) (T : Txt mg) (XC : ClsT K) (G_counts_of : Def3 P w K mg base "counts_of" 1 ["deeds"] (sp1 F_counts_of)) : FnOk P w K mg base CX0 2 f fd ["log"] (lsp K w (sp1 F_vector_of)) := by
  refine fn3 (t := b_vector_of) F sc_vector_of l_vector_of (fun cdv A outer s H E C hr => ?_) m_vector_of
  have hu := hr.units
  exact pss3_cons (ps3_ret (pe3_callTy call_tupleS o_tuple rfl T.b_tuple (by decide +kernel) (pab3_cons (pb3 (pe3_sortIS rfl hu rfl T.b_sorted (pb3 (pe3_def G_counts_of (hr.mono (by decide)) rfl (pa3_cons (pe3_v (pv 0)) (pa3_nil)))))) (pab3_nil)))) (pss3_nil)
abbrev s_greater_counts : Stmt := topS 7
theorem l_greater_counts (ds A Q E) (h : (sp2 F_greater_counts) ds A Q E) : ds.length = (["one", "other"] : List Str).length := by obtain ⟨_, _, rfl, _⟩ := h; rfl
theorem sc_greater_counts : FnScope N_greater_counts ["one", "other"] (defScope s_greater_counts) := ⟨rfl, rfl, rfl, by decide +kernel, rfl, by decide +kernel, by decide +kernel⟩
theorem ok_greater_counts {f : Addr} {fd : FuncData} (F : Fun K "greater_counts" "greater_counts" s_greater_counts f fd) (T : Txt mg) (XC : ClsT K) : FnOk P w K mg base CX0 1 f fd ["one", "other"] (lsp K w (sp2 F_greater_counts)) := by
  refine fn3 (t := b_greater_counts) F sc_greater_counts l_greater_counts (fun cdv A outer s H E C hr => ?_) m_greater_counts
  have hu := hr.units
  exact pss3_cons (ps3_set (i := 2) sc_greater_counts.nd rfl (by first | exact Or.inl rfl | exact Or.inr rfl) (pe3_callTy (call_dictA rfl hu) o_dict rfl T.b_dict (by decide +kernel) (pab3_cons (pb3_v (pv 0)) (pab3_nil)))) (pss3_fgt [3, 4] (pss3_cons (ps3_for (p := .tp [3, 4]) PassesOwn.never rfl (pi3_s (pe3_v (pv 1))) (pg_tup (by rfl) (pgs_cons (pg_name (i := 3) sc_greater_counts.nd rfl (by first | exact Or.inl rfl | exact Or.inr rfl)) (pgs_cons (pg_name (i := 4) sc_greater_counts.nd rfl (by first | exact Or.inl rfl | exact Or.inr rfl)) (pgs_nil)))) (pss3_cons (ps3_put (set_dk hu) s_dset (pv 2) (pe3_v (pv 3)) (pe3_callB (call_max2 rfl) o_max2 rfl T.b_max (by decide +kernel) (pab3_cons (pb3_v (pv 4)) (pab3_cons (pb3 (pe3_mF PySem.F.plainAttrs_dict PySem.F.slot_dict_get PySem.F.type_dict_get (mt_get_dk hu) m_get (pb3_v (pv 2)) (pa3_cons (pe3_v (pv 3)) (pa3_cons (pe3_int) (pa3_nil))))) (pab3_nil))))) (pss3_fgt [3, 4] (pss3_nil)))) (pss3_cons (ps3_ret (pe3_callTy call_tupleS o_tuple rfl T.b_tuple (by decide +kernel) (pab3_cons (pb3 (pe3_sortIS rfl hu rfl T.b_sorted (pb3_v (pv 2)))) (pab3_nil)))) (pss3_nil))))
abbrev s_entry_of : Stmt := topS 8
theorem l_entry_of (ds A Q E) (h : (sp1 F_entry_of) ds A Q E) : ds.length = (["deed"] : List Str).length := by obtain ⟨_, rfl, _⟩ := h; rfl
theorem sc_entry_of : FnScope N_entry_of ["deed"] (defScope s_entry_of) := ⟨rfl, rfl, rfl, by decide +kernel, rfl, by decide +kernel, by decide +kernel⟩
theorem ok_entry_of {f : Addr} {fd : FuncData} (F : Fun K "entry_of" "entry_of" s_entry_of f fd) (T : Txt mg) (XC : ClsT K) (G_stamp_of : Def3 P w K mg base "stamp_of" 1 ["deed"] (sp1 F_stamp_of)) : FnOk P w K mg base CX0 2 f fd ["deed"] (lsp K w (sp1 F_entry_of)) := by
  refine fn3 (t := b_entry_of) F sc_entry_of l_entry_of (fun cdv A outer s H E C hr => ?_) m_entry_of
  have hu := hr.units
  exact pss3_cons (ps3_asgP (p := .tp [1, 2, 3, 4]) (pe3_v (pv 0)) (pg_tup (by rfl) (pgs_cons (pg_name (i := 1) sc_entry_of.nd rfl (by first | exact Or.inl rfl | exact Or.inr rfl)) (pgs_cons (pg_name (i := 2) sc_entry_of.nd rfl (by first | exact Or.inl rfl | exact Or.inr rfl)) (pgs_cons (pg_name (i := 3) sc_entry_of.nd rfl (by first | exact Or.inl rfl | exact Or.inr rfl)) (pgs_cons (pg_name (i := 4) sc_entry_of.nd rfl (by first | exact Or.inl rfl | exact Or.inr rfl)) (pgs_nil))))))) (pss3_cons (ps3_set (i := 5) sc_entry_of.nd rfl (by first | exact Or.inl rfl | exact Or.inr rfl) (pe3_fz (pe3_def G_stamp_of (hr.mono (by decide)) rfl (pa3_cons (pe3_v (pv 0)) (pa3_nil))))) (pss3_cons (ps3_set (i := 6) sc_entry_of.nd rfl (by first | exact Or.inl rfl | exact Or.inr rfl) (pe3_ix (ix_all hu) o_ixA (pb3_v (pv 4)) (pb3 (pe3_int)) (fun _ _ => rfl))) (pss3_cons (ps3_if (pt3_cmp (op_eqP hu) o_eq (pb3_v (pv 6)) (pb3 (pe3_str)) (nomark _)) (pss3_cons (ps3_ret (pe3_tup (pa3_cons (pe3_tup (pa3_cons (pe3_str) (pa3_cons (pe3_v (pv 5)) (pa3_nil)))) (pa3_cons (pe3_tup (pa3_cons (pe3_non) (pa3_cons (pe3_tup (pa3_cons (pe3_v (pv 3)) (pa3_cons (pe3_ix (ix_all hu) o_ixA (pb3_v (pv 4)) (pb3 (pe3_int)) (fun _ _ => rfl)) (pa3_cons (pe3_ix (ix_all hu) o_ixA (pb3_v (pv 4)) (pb3 (pe3_int)) (fun _ _ => rfl)) (pa3_cons (pe3_ix (ix_all hu) o_ixA (pb3_v (pv 4)) (pb3 (pe3_int)) (fun _ _ => rfl)) (pa3_nil)))))) (pa3_nil)))) (pa3_nil))))) (pss3_nil)) (pss3_nil)) (pss3_cons (ps3_if (pt3_cmp (op_eqP hu) o_eq (pb3_v (pv 6)) (pb3 (pe3_str)) (nomark _)) (pss3_cons (ps3_ret (pe3_tup (pa3_cons (pe3_tup (pa3_cons (pe3_str) (pa3_cons (pe3_tup (pa3_cons (pe3_ix (ix_all hu) o_ixA (pb3_v (pv 4)) (pb3 (pe3_int)) (fun _ _ => rfl)) (pa3_cons (pe3_ix (ix_all hu) o_ixA (pb3_v (pv 2)) (pb3 (pe3_int)) (fun _ _ => rfl)) (pa3_nil)))) (pa3_nil)))) (pa3_cons (pe3_tup (pa3_cons (pe3_v (pv 5)) (pa3_cons (pe3_ix (ix_all hu) o_ixA (pb3_v (pv 4)) (pb3 (pe3_int)) (fun _ _ => rfl)) (pa3_nil)))) (pa3_nil))))) (pss3_nil)) (pss3_nil)) (pss3_cons (ps3_if (pt3_cmp (op_eqP hu) o_eq (pb3_v (pv 6)) (pb3 (pe3_str)) (nomark _)) (pss3_cons (ps3_ret (pe3_tup (pa3_cons (pe3_tup (pa3_cons (pe3_str) (pa3_cons (pe3_tup (pa3_cons (pe3_ix (ix_all hu) o_ixA (pb3_v (pv 4)) (pb3 (pe3_int)) (fun _ _ => rfl)) (pa3_cons (pe3_ix (ix_all hu) o_ixA (pb3_v (pv 2)) (pb3 (pe3_int)) (fun _ _ => rfl)) (pa3_cons (pe3_ix (ix_all hu) o_ixA (pb3_v (pv 4)) (pb3 (pe3_int)) (fun _ _ => rfl)) (pa3_nil))))) (pa3_nil)))) (pa3_cons (pe3_tup (pa3_cons (pe3_v (pv 5)) (pa3_cons (pe3_ix (ix_all hu) o_ixA (pb3_v (pv 4)) (pb3 (pe3_int)) (fun _ _ => rfl)) (pa3_nil)))) (pa3_nil))))) (pss3_nil)) (pss3_nil)) (pss3_cons (ps3_if (pt3_cmp (op_eqP hu) o_eq (pb3_v (pv 6)) (pb3 (pe3_str)) (nomark _)) (pss3_cons (ps3_ret (pe3_tup (pa3_cons (pe3_tup (pa3_cons (pe3_str) (pa3_cons (pe3_tup (pa3_cons (pe3_ix (ix_all hu) o_ixA (pb3_v (pv 2)) (pb3 (pe3_int)) (fun _ _ => rfl)) (pa3_cons (pe3_ix (ix_all hu) o_ixA (pb3_v (pv 4)) (pb3 (pe3_int)) (fun _ _ => rfl)) (pa3_nil)))) (pa3_nil)))) (pa3_cons (pe3_tup (pa3_cons (pe3_v (pv 5)) (pa3_cons (pe3_ix (ix_all hu) o_ixA (pb3_v (pv 4)) (pb3 (pe3_int)) (fun _ _ => rfl)) (pa3_nil)))) (pa3_nil))))) (pss3_nil)) (pss3_nil)) (pss3_cons (ps3_if (pt3_cmp (op_eqP hu) o_eq (pb3_v (pv 6)) (pb3 (pe3_str)) (nomark _)) (pss3_cons (ps3_ret (pe3_tup (pa3_cons (pe3_tup (pa3_cons (pe3_str) (pa3_cons (pe3_tup (pa3_cons (pe3_ix (ix_all hu) o_ixA (pb3_v (pv 2)) (pb3 (pe3_int)) (fun _ _ => rfl)) (pa3_cons (pe3_ix (ix_all hu) o_ixA (pb3_v (pv 4)) (pb3 (pe3_int)) (fun _ _ => rfl)) (pa3_nil)))) (pa3_nil)))) (pa3_cons (pe3_tup (pa3_cons (pe3_non) (pa3_cons (pe3_ix (ix_all hu) o_ixA (pb3_v (pv 4)) (pb3 (pe3_int)) (fun _ _ => rfl)) (pa3_nil)))) (pa3_nil))))) (pss3_nil)) (pss3_nil)) (pss3_cons (ps3_ret (pe3_tup (pa3_cons (pe3_tup (pa3_cons (pe3_v (pv 6)) (pa3_cons (pe3_tup (pa3_cons (pe3_ix (ix_all hu) o_ixA (pb3_v (pv 4)) (pb3 (pe3_int)) (fun _ _ => rfl)) (pa3_cons (pe3_ix (ix_all hu) o_ixA (pb3_v (pv 2)) (pb3 (pe3_int)) (fun _ _ => rfl)) (pa3_nil)))) (pa3_nil)))) (pa3_cons (pe3_tup (pa3_cons (pe3_non) (pa3_cons (pe3_non) (pa3_nil)))) (pa3_nil))))) (pss3_nil)))))))))
abbrev s_put_into : Stmt := topS 9
theorem l_put_into (ds A Q E) (h : (sp3 F_put_into) ds A Q E) : ds.length = (["entries", "place", "entry"] : List Str).length := by obtain ⟨_, _, _, rfl, _⟩ := h; rfl
theorem sc_put_into : FnScope N_put_into ["entries", "place", "entry"] (defScope s_put_into) := ⟨rfl, rfl, rfl, by decide +kernel, rfl, by decide +kernel, by decide +kernel⟩
theorem ok_put_into {f : Addr} {fd : FuncData} (F : Fun K "put_into" "put_into" s_put_into f fd) (T : Txt mg) (XC : ClsT K) (G_greater_counts : Def3 P w K mg base "greater_counts" 1 ["one", "other"] (sp2 F_greater_counts)) : FnOk P w K mg base CX0 2 f fd ["entries", "place", "entry"] (lsp K w (sp3 F_put_into)) := by
  refine fn3 (t := b_put_into) F sc_put_into l_put_into (fun cdv A outer s H E C hr => ?_) m_put_into
  have hu := hr.units
  exact pss3_cons (ps3_if (pt3_cmp (op_notInA hu) (o_inA not) (pb3_v (pv 1)) (pb3_v (pv 0)) (by rfl)) (pss3_cons (ps3_putR (set_dk hu) s_dset (pe3_v (pv 0)) (pe3_v (pv 1)) (pe3_v (pv 2))) (pss3_fgt [0] (pss3_nil))) (pss3_cons (ps3_if (pt3_cmp (op_eqP hu) o_eq (pb3 (pe3_ix (ix_all hu) o_ixA (pb3_v (pv 1)) (pb3 (pe3_int)) (fun _ _ => rfl))) (pb3 (pe3_str)) (nomark _)) (pss3_cons (ps3_putR (set_dk hu) s_dset (pe3_v (pv 0)) (pe3_v (pv 1)) (pe3_tup (pa3_cons (pe3_non) (pa3_cons (pe3_def G_greater_counts (hr.mono (by decide)) rfl (pa3_cons (pe3_ix (ix_all hu) o_ixA (pb3 (pe3_ix (ix_all hu) o_ixA (pb3_v (pv 0)) (pb3_v (pv 1)) (fun _ _ => rfl))) (pb3 (pe3_int)) (fun _ _ => rfl)) (pa3_cons (pe3_ix (ix_all hu) o_ixA (pb3_v (pv 2)) (pb3 (pe3_int)) (fun _ _ => rfl)) (pa3_nil)))) (pa3_nil))))) (pss3_fgt [0] (pss3_nil))) (pss3_cons (ps3_if (PW.pt (pw3_and (pt3_cmp op_notN o_notN (pb3 (pe3_ix (ix_all hu) o_ixA (pb3_v (pv 2)) (pb3 (pe3_int)) (fun _ _ => rfl))) (pb3 (pe3_non)) (nomark _)) (pw3_and1 (pt3_cmp (op_gtP hu) o_gt (pb3 (pe3_ix (ix_all hu) o_ixA (pb3_v (pv 2)) (pb3 (pe3_int)) (fun _ _ => rfl))) (pb3 (pe3_ix (ix_all hu) o_ixA (pb3 (pe3_ix (ix_all hu) o_ixA (pb3_v (pv 0)) (pb3_v (pv 1)) (fun _ _ => rfl))) (pb3 (pe3_int)) (fun _ _ => rfl))) (nomark _))))) (pss3_cons (ps3_putR (set_dk hu) s_dset (pe3_v (pv 0)) (pe3_v (pv 1)) (pe3_v (pv 2))) (pss3_fgt [0] (pss3_nil))) (pss3_fgt [0] (pss3_nil))) (pss3_fgt [0] (pss3_nil)))) (pss3_fgt [0] (pss3_nil)))) (pss3_nil)
abbrev s_Pack_init__ : Stmt := (clsBody (topS 10)).getD 0 (.Pass ⟨0, 0, 0, 0⟩)
theorem l_Pack_init__ (ds A Q E) (h : (sp3 F_Pack_init__) ds A Q E) : ds.length = (["self", "house", "log"] : List Str).length := by obtain ⟨_, _, _, rfl, _⟩ := h; rfl
theorem sc_Pack_init__ : FnScope N_Pack_init__ ["self", "house", "log"] (defScope s_Pack_init__) := ⟨rfl, rfl, rfl, by decide +kernel, rfl, by decide +kernel, by decide +kernel⟩
theorem ok_Pack_init__ {f : Addr} {fd : FuncData} (F : Fun K "__init__" "Pack.__init__" s_Pack_init__ f fd) (T : Txt mg) (XC : ClsT K) (G_put_into : Def3 P w K mg base "put_into" 2 ["entries", "place", "entry"] (sp3 F_put_into)) (G_entry_of : Def3 P w K mg base "entry_of" 2 ["deed"] (sp1 F_entry_of)) (G_vector_of : Def3 P w K mg base "vector_of" 2 ["log"] (sp1 F_vector_of)) : FnOk P w K mg base CX0 3 f fd ["self", "house", "log"] (lsp K w (sp3 F_Pack_init__)) := by
  refine fn3 (t := b_Pack_init__) F sc_Pack_init__ l_Pack_init__ (fun cdv A outer s H E C hr => ?_) m_Pack_init__
  have hu := hr.units
  exact pss3_cons (ps3_fld XC.k_Pack (by decide) (pe3_v (pv 0)) (pe3_v (pv 1))) (pss3_cons (ps3_fld XC.k_Pack (by decide) (pe3_v (pv 0)) (pe3_def G_vector_of (hr.mono (by decide)) rfl (pa3_cons (pe3_v (pv 2)) (pa3_nil)))) (pss3_cons (ps3_fld XC.k_Pack (by decide) (pe3_v (pv 0)) (pe3_sh (pe3_dnew))) (pss3_fgt [3, 4, 5] (pss3_cons (ps3_for (p := .nm 3) PassesOwn.never rfl (pi3_s (pe3_v (pv 2))) (pg_name (i := 3) sc_Pack_init__.nd rfl (by first | exact Or.inl rfl | exact Or.inr rfl)) (pss3_cons (ps3_asgP (p := .tp [4, 5]) (pe3_def G_entry_of (hr.mono (by decide)) rfl (pa3_cons (pe3_v (pv 3)) (pa3_nil))) (pg_tup (by rfl) (pgs_cons (pg_name (i := 4) sc_Pack_init__.nd rfl (by first | exact Or.inl rfl | exact Or.inr rfl)) (pgs_cons (pg_name (i := 5) sc_Pack_init__.nd rfl (by first | exact Or.inl rfl | exact Or.inr rfl)) (pgs_nil))))) (pss3_cons (ps3_expr (pe3_def G_put_into (hr.mono (by decide)) rfl (pa3_cons (pe3_fld XC.k_Pack (by decide) (pe3_v (pv 0))) (pa3_cons (pe3_v (pv 4)) (pa3_cons (pe3_v (pv 5)) (pa3_nil)))))) (pss3_fgt [3, 4, 5] (pss3_nil))))) (pss3_nil)))))
abbrev s_Pack_table : Stmt := (clsBody (topS 10)).getD 1 (.Pass ⟨0, 0, 0, 0⟩)
theorem l_Pack_table (ds A Q E) (h : (sp1 F_Pack_table) ds A Q E) : ds.length = (["self"] : List Str).length := by obtain ⟨_, rfl, _⟩ := h; rfl
theorem sc_Pack_table : FnScope N_Pack_table ["self"] (defScope s_Pack_table) := ⟨rfl, rfl, rfl, by decide +kernel, rfl, by decide +kernel, by decide +kernel⟩
theorem ok_Pack_table {f : Addr} {fd : FuncData} (F : Fun K "table" "Pack.table" s_Pack_table f fd) (T : Txt mg) (XC : ClsT K) : FnOk P w K mg base CX0 1 f fd ["self"] (lsp K w (sp1 F_Pack_table)) := by
  refine fn3 (t := b_Pack_table) F sc_Pack_table l_Pack_table (fun cdv A outer s H E C hr => ?_) m_Pack_table
  have hu := hr.units
  exact pss3_cons (ps3_set (i := 1) sc_Pack_table.nd rfl (by first | exact Or.inl rfl | exact Or.inr rfl) (pe3_lst (pa3_nil))) (pss3_fgt [2, 3, 4] (pss3_cons (ps3_for (p := .nm 2) PassesOwn.never rfl (pi3_s (pe3_callB (call_sortedS rfl hu) o_sortedS rfl T.b_sorted (by decide +kernel) (pab3_cons (pb3 (pe3_fld XC.k_Pack (by decide) (pe3_v (pv 0)))) (pab3_nil)))) (pg_name (i := 2) sc_Pack_table.nd rfl (by first | exact Or.inl rfl | exact Or.inr rfl)) (pss3_cons (ps3_asgP (p := .tp [3, 4]) (pe3_ix (ix_all hu) o_ixA (pb3 (pe3_fld XC.k_Pack (by decide) (pe3_v (pv 0)))) (pb3_v (pv 2)) (fun _ _ => rfl)) (pg_tup (by rfl) (pgs_cons (pg_name (i := 3) sc_Pack_table.nd rfl (by first | exact Or.inl rfl | exact Or.inr rfl)) (pgs_cons (pg_name (i := 4) sc_Pack_table.nd rfl (by first | exact Or.inl rfl | exact Or.inr rfl)) (pgs_nil))))) (pss3_cons (ps3_m (i := 1) PySem.F.plainAttrs_list PySem.F.slot_list_append PySem.F.type_list_append mt_append m_append (pv 1) (pa3_cons (pe3_tup (pa3_cons (pe3_ix (ix_all hu) o_ixA (pb3_v (pv 2)) (pb3 (pe3_int)) (fun _ _ => rfl)) (pa3_cons (pe3_ix (ix_all hu) o_ixA (pb3_v (pv 2)) (pb3 (pe3_int)) (fun _ _ => rfl)) (pa3_cons (pe3_v (pv 3)) (pa3_cons (pe3_v (pv 4)) (pa3_nil)))))) (pa3_nil))) (pss3_fgt [2, 3, 4] (pss3_nil))))) (pss3_cons (ps3_ret (pe3_callTy call_tupleS o_tuple rfl T.b_tuple (by decide +kernel) (pab3_cons (pb3_v (pv 1)) (pab3_nil)))) (pss3_nil))))
abbrev s_Pack_vector : Stmt := (clsBody (topS 10)).getD 2 (.Pass ⟨0, 0, 0, 0⟩)
theorem l_Pack_vector (ds A Q E) (h : (sp1 F_Pack_vector) ds A Q E) : ds.length = (["self"] : List Str).length := by obtain ⟨_, rfl, _⟩ := h; rfl
theorem sc_Pack_vector : FnScope N_Pack_vector ["self"] (defScope s_Pack_vector) := ⟨rfl, rfl, rfl, by decide +kernel, rfl, by decide +kernel, by decide +kernel⟩
theorem ok_Pack_vector {f : Addr} {fd : FuncData} (F : Fun K "vector" "Pack.vector" s_Pack_vector f fd) (T : Txt mg) (XC : ClsT K) : FnOk P w K mg base CX0 1 f fd ["self"] (lsp K w (sp1 F_Pack_vector)) := by
  refine fn3 (t := b_Pack_vector) F sc_Pack_vector l_Pack_vector (fun cdv A outer s H E C hr => ?_) m_Pack_vector
  have hu := hr.units
  exact pss3_cons (ps3_ret (pe3_fld XC.k_Pack (by decide) (pe3_v (pv 0)))) (pss3_nil)
abbrev s_cell_at : Stmt := topS 12
theorem l_cell_at (ds A Q E) (h : (sp2 F_cell_at) ds A Q E) : ds.length = (["_law_script", "_law_k"] : List Str).length := by obtain ⟨_, _, rfl, _⟩ := h; rfl
theorem sc_cell_at : FnScope N_cell_at ["_law_script", "_law_k"] (defScope s_cell_at) := ⟨rfl, rfl, rfl, by decide +kernel, rfl, by decide +kernel, by decide +kernel⟩
theorem ok_cell_at {f : Addr} {fd : FuncData} (F : Fun K "_law_cell_at" "_law_cell_at" s_cell_at f fd) (T : Txt mg) (XC : ClsT K) : FnOk P w K mg base CX0 1 f fd ["_law_script", "_law_k"] (lsp K w (sp2 F_cell_at)) := by
  refine fn3 (t := b_cell_at) F sc_cell_at l_cell_at (fun cdv A outer s H E C hr => ?_) m_cell_at
  have hu := hr.units
  exact pss3_cons (ps3_if (pt3_cmp (op_ltP hu) o_lt (pb3_v (pv 1)) (pb3 (pe3_callB call_lenA o_len rfl T.b_len (by decide +kernel) (pab3_cons (pb3_v (pv 0)) (pab3_nil)))) (nomark _)) (pss3_cons (ps3_ret (pe3_ix (ix_all hu) o_ixA (pb3_v (pv 0)) (pb3_v (pv 1)) (fun _ _ => rfl))) (pss3_nil)) (pss3_nil)) (pss3_cons (ps3_ret (pe3_int)) (pss3_nil))
abbrev s_streamE : Stmt := topS 13
theorem l_streamE (ds A Q E) (h : sp_streamS ds A Q E) : ds.length = (["_law_cell", "_law_many"] : List Str).length := by obtain ⟨_, _, rfl, _⟩ := h; rfl
theorem sc_streamE : FnScope N_streamE ["_law_cell", "_law_many"] (defScope s_streamE) := ⟨rfl, rfl, rfl, by decide +kernel, rfl, by decide +kernel, by decide +kernel⟩
theorem ok_streamE {f : Addr} {fd : FuncData} (F : Fun K "_law_stream" "_law_stream" s_streamE f fd) (T : Txt mg) (XC : ClsT K) : FnOk P w K mg base CX0 1 f fd ["_law_cell", "_law_many"] (lsp K w sp_streamS) := by
  refine fn3 (t := b_streamE) F sc_streamE l_streamE (fun cdv A outer s H E C hr => ?_) m_streamE
  have hu := hr.units
  exact pss3_cons (ps3_set (i := 2) sc_streamE.nd rfl (by first | exact Or.inl rfl | exact Or.inr rfl) (pe3_lst (pa3_nil))) (pss3_cons (ps3_set (i := 3) sc_streamE.nd rfl (by first | exact Or.inl rfl | exact Or.inr rfl) (pe3_op op_fdivW o_fdiv (pb3_v (pv 0)) (pb3 (pe3_int)))) (pss3_cons (ps3_if (pt3_cmp (op_eqP hu) o_eq (pb3 (pe3_op op_mod o_mod (pb3_v (pv 0)) (pb3 (pe3_int)))) (pb3 (pe3_int)) (nomark _)) (pss3_cons (ps3_for (p := .nm 4) PassesOwn.never rfl (pi3_range1 rfl T.b_range (pa3_cons (pe3_v (pv 1)) (pa3_nil))) (pg_name (i := 4) sc_streamE.nd rfl (by first | exact Or.inl rfl | exact Or.inr rfl)) (pss3_cons (ps3_m (i := 2) PySem.F.plainAttrs_list PySem.F.slot_list_append PySem.F.type_list_append mt_append m_append (pv 2) (pa3_cons (pe3_op op_mod o_mod (pb3_v (pv 3)) (pb3 (pe3_int))) (pa3_nil))) (pss3_cons (ps3_set (i := 3) sc_streamE.nd rfl (by first | exact Or.inl rfl | exact Or.inr rfl) (pe3_op op_fdivW o_fdiv (pb3_v (pv 3)) (pb3 (pe3_int)))) (pss3_nil)))) (pss3_cons (ps3_retV (pv 2)) (pss3_nil))) (pss3_nil)) (pss3_cons (ps3_set (i := 5) sc_streamE.nd rfl (by first | exact Or.inl rfl | exact Or.inr rfl) (pe3_op op_mod o_mod (pb3_v (pv 3)) (pb3 (pe3_int)))) (pss3_cons (ps3_for (p := .nm 4) PassesOwn.never rfl (pi3_range1 rfl T.b_range (pa3_cons (pe3_v (pv 1)) (pa3_nil))) (pg_name (i := 4) sc_streamE.nd rfl (by first | exact Or.inl rfl | exact Or.inr rfl)) (pss3_cons (ps3_set (i := 5) sc_streamE.nd rfl (by first | exact Or.inl rfl | exact Or.inr rfl) (pe3_op op_mod o_mod (pb3 (pe3_op op_addA o_add (pb3 (pe3_op op_addA o_add (pb3 (pe3_op op_mulA o_mul (pb3_v (pv 5)) (pb3 (pe3_int)))) (pb3 (pe3_op op_mulA o_mul (pb3 (pe3_int)) (pb3_v (pv 4)))))) (pb3 (pe3_int)))) (pb3 (pe3_int)))) (pss3_cons (ps3_set (i := 6) sc_streamE.nd rfl (by first | exact Or.inl rfl | exact Or.inr rfl) (pe3_op op_mod o_mod (pb3 (pe3_op op_mulA o_mul (pb3_v (pv 5)) (pb3_v (pv 5)))) (pb3 (pe3_int)))) (pss3_cons (ps3_m (i := 2) PySem.F.plainAttrs_list PySem.F.slot_list_append PySem.F.type_list_append mt_append m_append (pv 2) (pa3_cons (pe3_op op_mod o_mod (pb3 (pe3_op op_fdivW o_fdiv (pb3 (pe3_op op_mod o_mod (pb3 (pe3_op op_mulA o_mul (pb3_v (pv 6)) (pb3 (pe3_int)))) (pb3 (pe3_int)))) (pb3 (pe3_int)))) (pb3 (pe3_int))) (pa3_nil))) (pss3_nil))))) (pss3_cons (ps3_retV (pv 2)) (pss3_nil))))))
abbrev s_wordsS : Stmt := topS 14
theorem l_wordsS (ds A Q E) (h : sp_wordsS ds A Q E) : ds.length = (["_law_cell", "_law_many"] : List Str).length := by obtain ⟨_, _, rfl, _⟩ := h; rfl
theorem sc_wordsS : FnScope N_wordsS ["_law_cell", "_law_many"] (defScope s_wordsS) := ⟨rfl, rfl, rfl, by decide +kernel, rfl, by decide +kernel, by decide +kernel⟩
theorem ok_wordsS {f : Addr} {fd : FuncData} (F : Fun K "_law_words" "_law_words" s_wordsS f fd) (T : Txt mg) (XC : ClsT K) : FnOk P w K mg base CX0 1 f fd ["_law_cell", "_law_many"] (lsp K w sp_wordsS) := by
  refine fn3 (t := b_wordsS) F sc_wordsS l_wordsS (fun cdv A outer s H E C hr => ?_) m_wordsS
  have hu := hr.units
  exact pss3_cons (ps3_set (i := 2) sc_wordsS.nd rfl (by first | exact Or.inl rfl | exact Or.inr rfl) (pe3_str)) (pss3_cons (ps3_set (i := 3) sc_wordsS.nd rfl (by first | exact Or.inl rfl | exact Or.inr rfl) (pe3_fz (pe3_op op_addA o_add (pb3 (pe3_int)) (pb3 (pe3_op op_mod o_mod (pb3_v (pv 0)) (pb3 (pe3_int))))))) (pss3_cons (ps3_set (i := 4) sc_wordsS.nd rfl (by first | exact Or.inl rfl | exact Or.inr rfl) (pe3_op op_mod o_mod (pb3 (pe3_op op_fdivW o_fdiv (pb3_v (pv 0)) (pb3 (pe3_int)))) (pb3_v (pv 3)))) (pss3_cons (ps3_set (i := 5) sc_wordsS.nd rfl (by first | exact Or.inl rfl | exact Or.inr rfl) (pe3_lst (pa3_nil))) (pss3_cons (ps3_for (p := .nm 6) PassesOwn.never rfl (pi3_range1 rfl T.b_range (pa3_cons (pe3_v (pv 1)) (pa3_nil))) (pg_name (i := 6) sc_wordsS.nd rfl (by first | exact Or.inl rfl | exact Or.inr rfl)) (pss3_cons (ps3_set (i := 7) sc_wordsS.nd rfl (by first | exact Or.inl rfl | exact Or.inr rfl) (pe3_str)) (pss3_cons (ps3_for (p := .nm 8) PassesOwn.never rfl (pi3_range1 rfl T.b_range (pa3_cons (pe3_v (pv 3)) (pa3_nil))) (pg_name (i := 8) sc_wordsS.nd rfl (by first | exact Or.inl rfl | exact Or.inr rfl)) (pss3_cons (ps3_set (i := 9) sc_wordsS.nd rfl (by first | exact Or.inl rfl | exact Or.inr rfl) (pe3_fz (pe3_op op_addA o_add (pb3 (pe3_op op_fdivW o_fdiv (pb3_v (pv 0)) (pb3 (pe3_op op_addA o_add (pb3 (pe3_int)) (pb3 (pe3_op op_mulA o_mul (pb3 (pe3_int)) (pb3_v (pv 8)))))))) (pb3 (pe3_op op_mulA o_mul (pb3_v (pv 8)) (pb3 (pe3_op op_mod o_mod (pb3 (pe3_op op_fdivW o_fdiv (pb3_v (pv 0)) (pb3 (pe3_int)))) (pb3 (pe3_int))))))))) (pss3_cons (ps3_if (pt3_cmp (op_eqP hu) o_eq (pb3_v (pv 8)) (pb3_v (pv 4)) (nomark _)) (pss3_cons (ps3_set (i := 9) sc_wordsS.nd rfl (by first | exact Or.inl rfl | exact Or.inr rfl) (pe3_fz (pe3_op op_addA o_add (pb3_v (pv 9)) (pb3 (pe3_op op_mulA o_mul (pb3 (pe3_int)) (pb3_v (pv 6))))))) (pss3_nil)) (pss3_nil)) (pss3_cons (ps3_set (i := 7) sc_wordsS.nd rfl (by first | exact Or.inl rfl | exact Or.inr rfl) (pe3_fz (pe3_op op_addA o_add (pb3_v (pv 7)) (pb3 (pe3_ix (ix_all hu) o_ixA (pb3_v (pv 2)) (pb3 (pe3_op op_mod o_mod (pb3_v (pv 9)) (pb3 (pe3_int)))) (fun _ _ => rfl)))))) (pss3_nil))))) (pss3_cons (ps3_m (i := 5) PySem.F.plainAttrs_list PySem.F.slot_list_append PySem.F.type_list_append mt_append m_append (pv 5) (pa3_cons (pe3_v (pv 7)) (pa3_nil))) (pss3_nil))))) (pss3_cons (ps3_if (pt3_cmp (op_eqP hu) o_eq (pb3 (pe3_op op_mod o_mod (pb3 (pe3_op op_fdivW o_fdiv (pb3_v (pv 0)) (pb3 (pe3_int)))) (pb3 (pe3_int)))) (pb3 (pe3_int)) (nomark _)) (pss3_cons (ps3_put set_list s_set (pv 5) (pe3_int) (pe3_op op_addA o_add (pb3 (pe3_ix (ix_all hu) o_ixA (pb3_v (pv 5)) (pb3 (pe3_int)) (fun _ _ => rfl))) (pb3 (pe3_ix (ix_all hu) o_ixA (pb3_v (pv 2)) (pb3 (pe3_op op_mod o_mod (pb3 (pe3_op op_fdivW o_fdiv (pb3_v (pv 0)) (pb3 (pe3_int)))) (pb3 (pe3_int)))) (fun _ _ => rfl))))) (pss3_nil)) (pss3_nil)) (pss3_cons (ps3_retV (pv 5)) (pss3_nil)))))))
abbrev s_name_inE : Stmt := topS 15
theorem l_name_inE (ds A Q E) (h : sp_name_inS ds A Q E) : ds.length = (["_law_rest_here"] : List Str).length := by obtain ⟨_, rfl, _⟩ := h; rfl
theorem sc_name_inE : FnScope N_name_inE ["_law_rest_here"] (defScope s_name_inE) := ⟨rfl, rfl, rfl, by decide +kernel, rfl, by decide +kernel, by decide +kernel⟩
theorem ok_name_inE {f : Addr} {fd : FuncData} (F : Fun K "_law_name_in" "_law_name_in" s_name_inE f fd) (T : Txt mg) (XC : ClsT K) : FnOk P w K mg base CX0 1 f fd ["_law_rest_here"] (lsp K w sp_name_inS) := by
  refine fn3 (t := b_name_inE) F sc_name_inE l_name_inE (fun cdv A outer s H E C hr => ?_) m_name_inE
  have hu := hr.units
  exact pss3_cons (ps3_set (i := 1) sc_name_inE.nd rfl (by first | exact Or.inl rfl | exact Or.inr rfl) (pe3_str)) (pss3_cons (ps3_set (i := 2) sc_name_inE.nd rfl (by first | exact Or.inl rfl | exact Or.inr rfl) (pe3_fz (pe3_op op_addA o_add (pb3 (pe3_int)) (pb3 (pe3_op op_mod o_mod (pb3_v (pv 0)) (pb3 (pe3_int))))))) (pss3_cons (ps3_set (i := 0) sc_name_inE.nd rfl (by first | exact Or.inl rfl | exact Or.inr rfl) (pe3_op op_fdivW o_fdiv (pb3_v (pv 0)) (pb3 (pe3_int)))) (pss3_cons (ps3_set (i := 3) sc_name_inE.nd rfl (by first | exact Or.inl rfl | exact Or.inr rfl) (pe3_str)) (pss3_cons (ps3_for (p := .nm 4) PassesOwn.never rfl (pi3_range1 rfl T.b_range (pa3_cons (pe3_v (pv 2)) (pa3_nil))) (pg_name (i := 4) sc_name_inE.nd rfl (by first | exact Or.inl rfl | exact Or.inr rfl)) (pss3_cons (ps3_set (i := 3) sc_name_inE.nd rfl (by first | exact Or.inl rfl | exact Or.inr rfl) (pe3_fz (pe3_op op_addA o_add (pb3_v (pv 3)) (pb3 (pe3_ix (ix_all hu) o_ixA (pb3_v (pv 1)) (pb3 (pe3_op op_mod o_mod (pb3_v (pv 0)) (pb3 (pe3_int)))) (fun _ _ => rfl)))))) (pss3_cons (ps3_set (i := 0) sc_name_inE.nd rfl (by first | exact Or.inl rfl | exact Or.inr rfl) (pe3_op op_fdivW o_fdiv (pb3_v (pv 0)) (pb3 (pe3_int)))) (pss3_nil)))) (pss3_cons (ps3_ret (pe3_tup (pa3_cons (pe3_v (pv 3)) (pa3_cons (pe3_v (pv 0)) (pa3_nil))))) (pss3_nil))))))
abbrev s_house_by_digitsE : Stmt := topS 16
theorem l_house_by_digitsE (ds A Q E) (h : sp_house_by_digitsS ds A Q E) : ds.length = (["_law_rest_here"] : List Str).length := by obtain ⟨_, rfl, _⟩ := h; rfl
theorem sc_house_by_digitsE : FnScope N_house_by_digitsE ["_law_rest_here"] (defScope s_house_by_digitsE) := ⟨rfl, rfl, rfl, by decide +kernel, rfl, by decide +kernel, by decide +kernel⟩
theorem ok_house_by_digitsE {f : Addr} {fd : FuncData} (F : Fun K "_law_house_by_digits" "_law_house_by_digits" s_house_by_digitsE f fd) (T : Txt mg) (XC : ClsT K) (G_name_inE : Def3 P w K mg base "_law_name_in" 1 ["_law_rest_here"] (sp_name_inS)) : FnOk P w K mg base CX0 2 f fd ["_law_rest_here"] (lsp K w sp_house_by_digitsS) := by
  refine fn3 (t := b_house_by_digitsE) F sc_house_by_digitsE l_house_by_digitsE (fun cdv A outer s H E C hr => ?_) m_house_by_digitsE
  have hu := hr.units
  exact pss3_cons (ps3_set (i := 1) sc_house_by_digitsE.nd rfl (by first | exact Or.inl rfl | exact Or.inr rfl) (pe3_dnew)) (pss3_cons (ps3_set (i := 2) sc_house_by_digitsE.nd rfl (by first | exact Or.inl rfl | exact Or.inr rfl) (pe3_fz (pe3_op op_addA o_add (pb3 (pe3_int)) (pb3 (pe3_op op_mod o_mod (pb3_v (pv 0)) (pb3 (pe3_int))))))) (pss3_cons (ps3_set (i := 0) sc_house_by_digitsE.nd rfl (by first | exact Or.inl rfl | exact Or.inr rfl) (pe3_op op_fdivW o_fdiv (pb3_v (pv 0)) (pb3 (pe3_int)))) (pss3_cons (ps3_for (p := .nm 3) PassesOwn.never rfl (pi3_range1 rfl T.b_range (pa3_cons (pe3_v (pv 2)) (pa3_nil))) (pg_name (i := 3) sc_house_by_digitsE.nd rfl (by first | exact Or.inl rfl | exact Or.inr rfl)) (pss3_cons (ps3_asgP (p := .tp [4, 0]) (pe3_def G_name_inE (hr.mono (by decide)) rfl (pa3_cons (pe3_v (pv 0)) (pa3_nil))) (pg_tup (by rfl) (pgs_cons (pg_name (i := 4) sc_house_by_digitsE.nd rfl (by first | exact Or.inl rfl | exact Or.inr rfl)) (pgs_cons (pg_name (i := 0) sc_house_by_digitsE.nd rfl (by first | exact Or.inl rfl | exact Or.inr rfl)) (pgs_nil))))) (pss3_cons (ps3_put (set_dk hu) s_dset (pv 1) (pe3_v (pv 4)) (pe3_op op_addA o_add (pb3 (pe3_int)) (pb3 (pe3_op op_mod o_mod (pb3_v (pv 0)) (pb3 (pe3_int)))))) (pss3_cons (ps3_set (i := 0) sc_house_by_digitsE.nd rfl (by first | exact Or.inl rfl | exact Or.inr rfl) (pe3_op op_fdivW o_fdiv (pb3_v (pv 0)) (pb3 (pe3_int)))) (pss3_nil))))) (pss3_cons (ps3_set (i := 5) sc_house_by_digitsE.nd rfl (by first | exact Or.inl rfl | exact Or.inr rfl) (pe3_fz (pe3_callB (call_sortedA rfl hu) o_sorted rfl T.b_sorted (by decide +kernel) (pab3_cons (pb3_v (pv 1)) (pab3_nil))))) (pss3_cons (ps3_set (i := 6) sc_house_by_digitsE.nd rfl (by first | exact Or.inl rfl | exact Or.inr rfl) (pe3_dnew)) (pss3_cons (ps3_set (i := 2) sc_house_by_digitsE.nd rfl (by first | exact Or.inl rfl | exact Or.inr rfl) (pe3_fz (pe3_op op_addA o_add (pb3 (pe3_int)) (pb3 (pe3_op op_mod o_mod (pb3_v (pv 0)) (pb3 (pe3_int))))))) (pss3_cons (ps3_set (i := 0) sc_house_by_digitsE.nd rfl (by first | exact Or.inl rfl | exact Or.inr rfl) (pe3_op op_fdivW o_fdiv (pb3_v (pv 0)) (pb3 (pe3_int)))) (pss3_cons (ps3_for (p := .nm 3) PassesOwn.never rfl (pi3_range1 rfl T.b_range (pa3_cons (pe3_v (pv 2)) (pa3_nil))) (pg_name (i := 3) sc_house_by_digitsE.nd rfl (by first | exact Or.inl rfl | exact Or.inr rfl)) (pss3_cons (ps3_asgP (p := .tp [7, 0]) (pe3_def G_name_inE (hr.mono (by decide)) rfl (pa3_cons (pe3_v (pv 0)) (pa3_nil))) (pg_tup (by rfl) (pgs_cons (pg_name (i := 7) sc_house_by_digitsE.nd rfl (by first | exact Or.inl rfl | exact Or.inr rfl)) (pgs_cons (pg_name (i := 0) sc_house_by_digitsE.nd rfl (by first | exact Or.inl rfl | exact Or.inr rfl)) (pgs_nil))))) (pss3_cons (ps3_setLc (i := 8) (own := [("_law_j", 9)]) (p := .nm 9) rfl sc_house_by_digitsE.nd rfl rfl (sw_true rfl rfl rfl (by decide +kernel)) (pi3_range1 rfl T.b_range (pa3_cons (pe3_callB call_lenA o_len rfl T.b_len (by decide +kernel) (pab3_cons (pb3_v (pv 5)) (pab3_nil))) (pa3_nil))) (blkOk_by (N := N_house_by_digitsE) (sc := defScope s_house_by_digitsE) (by decide +kernel)) (by decide) (fun _ _ _ _ _ => pg_name (i := 9) sc_house_by_digitsE.nd rfl (by first | exact Or.inl rfl | exact Or.inr rfl)) (fun _ _ _ _ _ _ => pts3_one (pt3_cmp (op_eqP hu) o_eq (pb3 (pe3_op op_mod o_mod (pb3 (pe3_op op_fdivW o_fdiv (pb3_v (pv 0)) (pb3 (pe3_ix (ix_all hu) o_ixA (pb3 (pe3_lst (pa3_cons (pe3_int) (pa3_cons (pe3_int) (pa3_cons (pe3_int) (pa3_cons (pe3_int) (pa3_nil))))))) (pb3_v (pv 9)) (fun _ _ => rfl))))) (pb3 (pe3_int)))) (pb3 (pe3_int)) (nomark _))) (fun _ _ _ _ _ _ => pe3_ix (ix_all hu) o_ixA (pb3_v (pv 5)) (pb3_v (pv 9)) (fun _ _ => rfl))) (pss3_fz 8 (pss3_cons (ps3_if (pt3_cmp (op_eqP hu) o_eq (pb3_v (pv 8)) (pb3 (pe3_lst (pa3_nil))) (nomark _)) (pss3_cons (ps3_set (i := 8) sc_house_by_digitsE.nd rfl (by first | exact Or.inl rfl | exact Or.inr rfl) (pe3_fz (pe3_slice (pb3_v (pv 5)) (po3_none) (po3_some (pe3_int))))) (pss3_nil)) (pss3_nil)) (pss3_cons (ps3_put (set_dk hu) s_dset (pv 6) (pe3_v (pv 7)) (pe3_callTy call_tupleS o_tuple rfl T.b_tuple (by decide +kernel) (pab3_cons (pb3_v (pv 8)) (pab3_nil)))) (pss3_cons (ps3_set (i := 0) sc_house_by_digitsE.nd rfl (by first | exact Or.inl rfl | exact Or.inr rfl) (pe3_op op_fdivW o_fdiv (pb3_v (pv 0)) (pb3 (pe3_int)))) (pss3_nil)))))))) (pss3_fz 6 (pss3_cons (ps3_ret (pe3_tup (pa3_cons (pe3_callTy call_tupleS o_tuple rfl T.b_tuple (by decide +kernel) (pab3_cons (pb3 (pe3_lc (own := [("_law_name", 4)]) (p := .nm 4) rfl sc_house_by_digitsE.nd (pi3_s (pe3_v (pv 5))) (blkOk_by (N := N_house_by_digitsE) (sc := defScope s_house_by_digitsE) (by decide +kernel)) (by decide) (fun _ _ _ _ _ => pg_name (i := 4) sc_house_by_digitsE.nd rfl (by first | exact Or.inl rfl | exact Or.inr rfl)) (fun _ _ _ _ _ _ => pts3_nil) (fun _ _ _ _ _ _ => pe3_tup (pa3_cons (pe3_v (pv 4)) (pa3_cons (pe3_ix (ix_all hu) o_ixA (pb3_v (pv 1)) (pb3_v (pv 4)) (fun _ _ => rfl)) (pa3_nil)))))) (pab3_nil))) (pa3_cons (pe3_callTy call_tupleS o_tuple rfl T.b_tuple (by decide +kernel) (pab3_cons (pb3 (pe3_lc (own := [("_law_room", 7)]) (p := .nm 7) rfl sc_house_by_digitsE.nd (pi3_s (pe3_callB (call_sortedA rfl hu) o_sorted rfl T.b_sorted (by decide +kernel) (pab3_cons (pb3_v (pv 6)) (pab3_nil)))) (blkOk_by (N := N_house_by_digitsE) (sc := defScope s_house_by_digitsE) (by decide +kernel)) (by decide) (fun _ _ _ _ _ => pg_name (i := 7) sc_house_by_digitsE.nd rfl (by first | exact Or.inl rfl | exact Or.inr rfl)) (fun _ _ _ _ _ _ => pts3_nil) (fun _ _ _ _ _ _ => pe3_tup (pa3_cons (pe3_v (pv 7)) (pa3_cons (pe3_ix (ix_all hu) o_ixA (pb3_v (pv 6)) (pb3_v (pv 7)) (fun _ _ => rfl)) (pa3_nil)))))) (pab3_nil))) (pa3_nil))))) (pss3_nil)))))))))))
abbrev s_houseS : Stmt := topS 17
theorem l_houseS (ds A Q E) (h : (sp1 F_houseS) ds A Q E) : ds.length = (["_law_cell"] : List Str).length := by obtain ⟨_, rfl, _⟩ := h; rfl
theorem sc_houseS : FnScope N_houseS ["_law_cell"] (defScope s_houseS) := ⟨rfl, rfl, rfl, by decide +kernel, rfl, by decide +kernel, by decide +kernel⟩
theorem ok_houseS {f : Addr} {fd : FuncData} (F : Fun K "_law_house" "_law_house" s_houseS f fd) (T : Txt mg) (XC : ClsT K) (G_wordsS : Def3 P w K mg base "_law_words" 1 ["_law_cell", "_law_many"] (sp_wordsS)) (G_streamE : Def3 P w K mg base "_law_stream" 1 ["_law_cell", "_law_many"] (sp_streamS)) (G_house_by_digitsE : Def3 P w K mg base "_law_house_by_digits" 2 ["_law_rest_here"] (sp_house_by_digitsS)) : FnOk P w K mg base CX0 3 f fd ["_law_cell"] (lsp K w (sp1 F_houseS)) := by
  refine fn3 (t := b_houseS) F sc_houseS l_houseS (fun cdv A outer s H E C hr => ?_) m_houseS
  have hu := hr.units
  exact pss3_cons (ps3_if (pt3_cmp (op_eqP hu) o_eq (pb3 (pe3_op op_mod o_mod (pb3_v (pv 0)) (pb3 (pe3_int)))) (pb3 (pe3_int)) (nomark _)) (pss3_cons (ps3_ret (pe3_def G_house_by_digitsE (hr.mono (by decide)) rfl (pa3_cons (pe3_op op_fdivW o_fdiv (pb3_v (pv 0)) (pb3 (pe3_int))) (pa3_nil)))) (pss3_nil)) (pss3_nil)) (pss3_cons (ps3_set (i := 1) sc_houseS.nd rfl (by first | exact Or.inl rfl | exact Or.inr rfl) (pe3_fz (pe3_def G_streamE (hr.mono (by decide)) rfl (pa3_cons (pe3_v (pv 0)) (pa3_cons (pe3_int) (pa3_nil)))))) (pss3_cons (ps3_set (i := 2) sc_houseS.nd rfl (by first | exact Or.inl rfl | exact Or.inr rfl) (pe3_fz (pe3_def G_wordsS (hr.mono (by decide)) rfl (pa3_cons (pe3_ix (ix_all hu) o_ixA (pb3_v (pv 1)) (pb3 (pe3_int)) (fun _ _ => rfl)) (pa3_cons (pe3_int) (pa3_nil)))))) (pss3_cons (ps3_setLc (i := 3) (own := [("_law_k", 6)]) (p := .nm 6) rfl sc_houseS.nd rfl rfl (sw_true rfl rfl rfl (by decide +kernel)) (pi3_range1 rfl T.b_range (pa3_cons (pe3_op op_addA o_add (pb3 (pe3_int)) (pb3 (pe3_op op_mod o_mod (pb3 (pe3_ix (ix_all hu) o_ixA (pb3_v (pv 1)) (pb3 (pe3_int)) (fun _ _ => rfl))) (pb3 (pe3_int))))) (pa3_nil))) (blkOk_by (N := N_houseS) (sc := defScope s_houseS) (by decide +kernel)) (by decide) (fun _ _ _ _ _ => pg_name (i := 6) sc_houseS.nd rfl (by first | exact Or.inl rfl | exact Or.inr rfl)) (fun _ _ _ _ _ _ => pts3_nil) (fun _ _ _ _ _ _ => pe3_tup (pa3_cons (pe3_ix (ix_all hu) o_ixA (pb3_v (pv 2)) (pb3_v (pv 6)) (fun _ _ => rfl)) (pa3_cons (pe3_op op_addA o_add (pb3 (pe3_int)) (pb3 (pe3_op op_mod o_mod (pb3 (pe3_ix (ix_all hu) o_ixA (pb3_v (pv 1)) (pb3 (pe3_op op_addA o_add (pb3 (pe3_int)) (pb3_v (pv 6)))) (fun _ _ => rfl))) (pb3 (pe3_int))))) (pa3_nil))))) (pss3_fz 3 (pss3_cons (ps3_set (i := 4) sc_houseS.nd rfl (by first | exact Or.inl rfl | exact Or.inr rfl) (pe3_fz (pe3_callB (call_sortedA rfl hu) o_sorted rfl T.b_sorted (by decide +kernel) (pab3_cons (pb3 (pe3_lc (own := [("_law_name", 9), ("_law_many", 10)]) (p := .tp [9, 10]) rfl sc_houseS.nd (pi3_s (pe3_v (pv 3))) (blkOk_by (N := N_houseS) (sc := defScope s_houseS) (by decide +kernel)) (by decide) (fun _ _ _ _ _ => pg_tup (by rfl) (pgs_cons (pg_name (i := 9) sc_houseS.nd rfl (by first | exact Or.inl rfl | exact Or.inr rfl)) (pgs_cons (pg_name (i := 10) sc_houseS.nd rfl (by first | exact Or.inl rfl | exact Or.inr rfl)) (pgs_nil)))) (fun _ _ _ _ _ _ => pts3_nil) (fun _ _ _ _ _ _ => pe3_v (pv 9)))) (pab3_nil))))) (pss3_cons (ps3_set (i := 5) sc_houseS.nd rfl (by first | exact Or.inl rfl | exact Or.inr rfl) (pe3_lst (pa3_nil))) (pss3_cons (ps3_for (p := .nm 6) PassesOwn.never rfl (pi3_range1 rfl T.b_range (pa3_cons (pe3_op op_addA o_add (pb3 (pe3_int)) (pb3 (pe3_op op_mod o_mod (pb3 (pe3_op op_fdivW o_fdiv (pb3 (pe3_ix (ix_all hu) o_ixA (pb3_v (pv 1)) (pb3 (pe3_int)) (fun _ _ => rfl))) (pb3 (pe3_int)))) (pb3 (pe3_int))))) (pa3_nil))) (pg_name (i := 6) sc_houseS.nd rfl (by first | exact Or.inl rfl | exact Or.inr rfl)) (pss3_cons (ps3_set (i := 7) sc_houseS.nd rfl (by first | exact Or.inl rfl | exact Or.inr rfl) (pe3_ix (ix_all hu) o_ixA (pb3_v (pv 1)) (pb3 (pe3_op op_addA o_add (pb3 (pe3_int)) (pb3_v (pv 6)))) (fun _ _ => rfl))) (pss3_cons (ps3_setLc (i := 8) (own := [("_law_j", 11)]) (p := .nm 11) rfl sc_houseS.nd rfl rfl (sw_true rfl rfl rfl (by decide +kernel)) (pi3_range1 rfl T.b_range (pa3_cons (pe3_callB call_lenA o_len rfl T.b_len (by decide +kernel) (pab3_cons (pb3_v (pv 4)) (pab3_nil))) (pa3_nil))) (blkOk_by (N := N_houseS) (sc := defScope s_houseS) (by decide +kernel)) (by decide) (fun _ _ _ _ _ => pg_name (i := 11) sc_houseS.nd rfl (by first | exact Or.inl rfl | exact Or.inr rfl)) (fun _ _ _ _ _ _ => pts3_one (pt3_cmp (op_eqP hu) o_eq (pb3 (pe3_op op_mod o_mod (pb3 (pe3_op op_fdivW o_fdiv (pb3_v (pv 7)) (pb3 (pe3_ix (ix_all hu) o_ixA (pb3 (pe3_lst (pa3_cons (pe3_int) (pa3_cons (pe3_int) (pa3_cons (pe3_int) (pa3_cons (pe3_int) (pa3_nil))))))) (pb3_v (pv 11)) (fun _ _ => rfl))))) (pb3 (pe3_int)))) (pb3 (pe3_int)) (nomark _))) (fun _ _ _ _ _ _ => pe3_ix (ix_all hu) o_ixA (pb3_v (pv 4)) (pb3_v (pv 11)) (fun _ _ => rfl))) (pss3_fz 8 (pss3_cons (ps3_if (pt3_cmp (op_eqP hu) o_eq (pb3_v (pv 8)) (pb3 (pe3_lst (pa3_nil))) (nomark _)) (pss3_cons (ps3_set (i := 8) sc_houseS.nd rfl (by first | exact Or.inl rfl | exact Or.inr rfl) (pe3_fz (pe3_lst (pa3_cons (pe3_ix (ix_all hu) o_ixA (pb3_v (pv 4)) (pb3 (pe3_op op_mod o_mod (pb3 (pe3_op op_fdivW o_fdiv (pb3_v (pv 7)) (pb3 (pe3_int)))) (pb3 (pe3_callB call_lenA o_len rfl T.b_len (by decide +kernel) (pab3_cons (pb3_v (pv 4)) (pab3_nil)))))) (fun _ _ => rfl)) (pa3_nil))))) (pss3_nil)) (pss3_nil)) (pss3_cons (ps3_m (i := 5) PySem.F.plainAttrs_list PySem.F.slot_list_append PySem.F.type_list_append mt_append m_append (pv 5) (pa3_cons (pe3_tup (pa3_cons (pe3_ix (ix_all hu) o_ixA (pb3_v (pv 2)) (pb3 (pe3_op op_sub o_sub (pb3 (pe3_int)) (pb3_v (pv 6)))) (fun _ _ => rfl)) (pa3_cons (pe3_callTy call_tupleS o_tuple rfl T.b_tuple (by decide +kernel) (pab3_cons (pb3_v (pv 8)) (pab3_nil))) (pa3_nil)))) (pa3_nil))) (pss3_nil))))))) (pss3_cons (ps3_ret (pe3_tup (pa3_cons (pe3_callTy call_tupleS o_tuple rfl T.b_tuple (by decide +kernel) (pab3_cons (pb3 (pe3_callB (call_sortedA rfl hu) o_sorted rfl T.b_sorted (by decide +kernel) (pab3_cons (pb3_v (pv 3)) (pab3_nil)))) (pab3_nil))) (pa3_cons (pe3_callTy call_tupleS o_tuple rfl T.b_tuple (by decide +kernel) (pab3_cons (pb3 (pe3_callB (call_sortedA rfl hu) o_sorted rfl T.b_sorted (by decide +kernel) (pab3_cons (pb3_v (pv 5)) (pab3_nil)))) (pab3_nil))) (pa3_nil))))) (pss3_nil)))))))))
abbrev s_rest : Stmt := topS 18
theorem l_rest (ds A Q E) (h : (sp1 F_rest) ds A Q E) : ds.length = (["_law_cell"] : List Str).length := by obtain ⟨_, rfl, _⟩ := h; rfl
theorem sc_rest : FnScope N_rest ["_law_cell"] (defScope s_rest) := ⟨rfl, rfl, rfl, by decide +kernel, rfl, by decide +kernel, by decide +kernel⟩
theorem ok_rest {f : Addr} {fd : FuncData} (F : Fun K "_law_rest" "_law_rest" s_rest f fd) (T : Txt mg) (XC : ClsT K) (G_streamE : Def3 P w K mg base "_law_stream" 1 ["_law_cell", "_law_many"] (sp_streamS)) : FnOk P w K mg base CX0 2 f fd ["_law_cell"] (lsp K w (sp1 F_rest)) := by
  refine fn3 (t := b_rest) F sc_rest l_rest (fun cdv A outer s H E C hr => ?_) m_rest
  have hu := hr.units
  exact pss3_cons (ps3_if (pt3_cmp (op_eqP hu) o_eq (pb3 (pe3_op op_mod o_mod (pb3_v (pv 0)) (pb3 (pe3_int)))) (pb3 (pe3_int)) (nomark _)) (pss3_cons (ps3_ret (pe3_op op_fdivW o_fdiv (pb3_v (pv 0)) (pb3 (pe3_int)))) (pss3_nil)) (pss3_nil)) (pss3_cons (ps3_set (i := 1) sc_rest.nd rfl (by first | exact Or.inl rfl | exact Or.inr rfl) (pe3_int)) (pss3_fgt [2] (pss3_cons (ps3_for (p := .nm 2) PassesOwn.never rfl (pi3_s (pe3_def G_streamE (hr.mono (by decide)) rfl (pa3_cons (pe3_v (pv 0)) (pa3_cons (pe3_int) (pa3_nil))))) (pg_name (i := 2) sc_rest.nd rfl (by first | exact Or.inl rfl | exact Or.inr rfl)) (pss3_cons (ps3_set (i := 1) sc_rest.nd rfl (by first | exact Or.inl rfl | exact Or.inr rfl) (pe3_fz (pe3_op op_addA o_add (pb3 (pe3_op op_mulA o_mul (pb3_v (pv 1)) (pb3 (pe3_int)))) (pb3_v (pv 2))))) (pss3_fgt [2] (pss3_nil)))) (pss3_cons (ps3_retV (pv 1)) (pss3_nil)))))
abbrev s_handsE : Stmt := topS 19
theorem l_handsE (ds A Q E) (h : (sp1 F_handsE) ds A Q E) : ds.length = (["_law_house_here"] : List Str).length := by obtain ⟨_, rfl, _⟩ := h; rfl
theorem sc_handsE : FnScope N_handsE ["_law_house_here"] (defScope s_handsE) := ⟨rfl, rfl, rfl, by decide +kernel, rfl, by decide +kernel, by decide +kernel⟩
theorem ok_handsE {f : Addr} {fd : FuncData} (F : Fun K "_law_hands" "_law_hands" s_handsE f fd) (T : Txt mg) (XC : ClsT K) : FnOk P w K mg base CX0 1 f fd ["_law_house_here"] (lsp K w (sp1 F_handsE)) := by
  refine fn3 (t := b_handsE) F sc_handsE l_handsE (fun cdv A outer s H E C hr => ?_) m_handsE
  have hu := hr.units
  exact pss3_cons (ps3_set (i := 1) sc_handsE.nd rfl (by first | exact Or.inl rfl | exact Or.inr rfl) (pe3_fz (pe3_lst (pa3_nil)))) (pss3_fgt [2, 3] (pss3_cons (ps3_for (p := .tp [2, 3]) PassesOwn.never rfl (pi3_s (pe3_ix (ix_all hu) o_ixA (pb3_v (pv 0)) (pb3 (pe3_int)) (fun _ _ => rfl))) (pg_tup (by rfl) (pgs_cons (pg_name (i := 2) sc_handsE.nd rfl (by first | exact Or.inl rfl | exact Or.inr rfl)) (pgs_cons (pg_name (i := 3) sc_handsE.nd rfl (by first | exact Or.inl rfl | exact Or.inr rfl)) (pgs_nil)))) (pss3_cons (ps3_set (i := 1) sc_handsE.nd rfl (by first | exact Or.inl rfl | exact Or.inr rfl) (pe3_fz (pe3_op op_addA o_add (pb3_v (pv 1)) (pb3 (pe3_lc (own := [("_law_k", 4)]) (p := .nm 4) rfl sc_handsE.nd (pi3_range1 rfl T.b_range (pa3_cons (pe3_v (pv 3)) (pa3_nil))) (blkOk_by (N := N_handsE) (sc := defScope s_handsE) (by decide +kernel)) (by decide) (fun _ _ _ _ _ => pg_name (i := 4) sc_handsE.nd rfl (by first | exact Or.inl rfl | exact Or.inr rfl)) (fun _ _ _ _ _ _ => pts3_nil) (fun _ _ _ _ _ _ => pe3_tup (pa3_cons (pe3_v (pv 2)) (pa3_cons (pe3_v (pv 4)) (pa3_nil))))))))) (pss3_fgt [2, 3] (pss3_nil)))) (pss3_cons (ps3_retV (pv 1)) (pss3_nil))))
abbrev s_messageE : Stmt := topS 20
theorem l_messageE (ds A Q E) (h : (sp3 F_messageE) ds A Q E) : ds.length = (["_law_rest_here", "_law_hands_here", "_law_stamps"] : List Str).length := by obtain ⟨_, _, _, rfl, _⟩ := h; rfl
theorem sc_messageE : FnScope N_messageE ["_law_rest_here", "_law_hands_here", "_law_stamps"] (defScope s_messageE) := ⟨rfl, rfl, rfl, by decide +kernel, rfl, by decide +kernel, by decide +kernel⟩
theorem ok_messageE {f : Addr} {fd : FuncData} (F : Fun K "_law_message" "_law_message" s_messageE f fd) (T : Txt mg) (XC : ClsT K) : FnOk P w K mg base CX0 1 f fd ["_law_rest_here", "_law_hands_here", "_law_stamps"] (lsp K w (sp3 F_messageE)) := by
  refine fn3 (t := b_messageE) F sc_messageE l_messageE (fun cdv A outer s H E C hr => ?_) m_messageE
  have hu := hr.units
  exact pss3_cons (ps3_if (PW.pt (pw3_and (pt3_cmp (op_gtP hu) o_gt (pb3 (pe3_op op_mod o_mod (pb3_v (pv 0)) (pb3 (pe3_int)))) (pb3 (pe3_int)) (nomark _)) (pw3_and1 (pt3_cmp (op_neP hu) o_ne (pb3_v (pv 2)) (pb3 (pe3_lst (pa3_nil))) (nomark _))))) (pss3_cons (ps3_ret (pe3_ix (ix_all hu) o_ixA (pb3_v (pv 2)) (pb3 (pe3_op op_mod o_mod (pb3 (pe3_op op_fdivW o_fdiv (pb3_v (pv 0)) (pb3 (pe3_int)))) (pb3 (pe3_callB call_lenA o_len rfl T.b_len (by decide +kernel) (pab3_cons (pb3_v (pv 2)) (pab3_nil)))))) (fun _ _ => rfl))) (pss3_nil)) (pss3_nil)) (pss3_cons (ps3_ret (pe3_tup (pa3_cons (pe3_op op_addA o_add (pb3 (pe3_int)) (pb3 (pe3_op op_mod o_mod (pb3 (pe3_op op_fdivW o_fdiv (pb3_v (pv 0)) (pb3 (pe3_int)))) (pb3 (pe3_int))))) (pa3_cons (pe3_ix (ix_all hu) o_ixA (pb3_v (pv 1)) (pb3 (pe3_op op_mod o_mod (pb3 (pe3_op op_fdivW o_fdiv (pb3_v (pv 0)) (pb3 (pe3_int)))) (pb3 (pe3_callB call_lenA o_len rfl T.b_len (by decide +kernel) (pab3_cons (pb3_v (pv 1)) (pab3_nil)))))) (fun _ _ => rfl)) (pa3_nil))))) (pss3_nil))
abbrev s_signs : Stmt := topS 21
theorem l_signs (ds A Q E) (h : (sp0 F_signs) ds A Q E) : ds.length = ([] : List Str).length := by obtain ⟨rfl, _⟩ := h; rfl
theorem sc_signs : FnScope N_signs [] (defScope s_signs) := ⟨rfl, rfl, rfl, by decide +kernel, rfl, by decide +kernel, by decide +kernel⟩
theorem ok_signs {f : Addr} {fd : FuncData} (F : Fun K "_law_signs" "_law_signs" s_signs f fd) (T : Txt mg) (XC : ClsT K) : FnOk P w K mg base CX0 1 f fd [] (lsp K w (sp0 F_signs)) := by
  refine fn3 (t := b_signs) F sc_signs l_signs (fun cdv A outer s H E C hr => ?_) m_signs
  have hu := hr.units
  exact pss3_cons (ps3_set (i := 0) sc_signs.nd rfl (by first | exact Or.inl rfl | exact Or.inr rfl) (pe3_str)) (pss3_cons (ps3_ret (pe3_op op_addA o_add (pb3 (pe3_op op_addA o_add (pb3 (pe3_op op_addA o_add (pb3_v (pv 0)) (pb3 (pe3_str)))) (pb3 (pe3_str)))) (pb3 (pe3_str)))) (pss3_nil))
abbrev s_sayingE : Stmt := topS 22
theorem l_sayingE (ds A Q E) (h : (sp2 F_sayingE) ds A Q E) : ds.length = (["_law_rest_here", "_law_names"] : List Str).length := by obtain ⟨_, _, rfl, _⟩ := h; rfl
theorem sc_sayingE : FnScope N_sayingE ["_law_rest_here", "_law_names"] (defScope s_sayingE) := ⟨rfl, rfl, rfl, by decide +kernel, rfl, by decide +kernel, by decide +kernel⟩
theorem ok_sayingE {f : Addr} {fd : FuncData} (F : Fun K "_law_saying" "_law_saying" s_sayingE f fd) (T : Txt mg) (XC : ClsT K) (G_signs : Def3 P w K mg base "_law_signs" 1 [] (sp0 F_signs)) : FnOk P w K mg base CX0 2 f fd ["_law_rest_here", "_law_names"] (lsp K w (sp2 F_sayingE)) := by
  refine fn3 (t := b_sayingE) F sc_sayingE l_sayingE (fun cdv A outer s H E C hr => ?_) m_sayingE
  have hu := hr.units
  exact pss3_cons (ps3_set (i := 2) sc_sayingE.nd rfl (by first | exact Or.inl rfl | exact Or.inr rfl) (pe3_fz (pe3_def0 G_signs (hr.mono (by decide)) rfl))) (pss3_cons (ps3_set (i := 3) sc_sayingE.nd rfl (by first | exact Or.inl rfl | exact Or.inr rfl) (pe3_str)) (pss3_cons (ps3_if (pt3_cmp (op_eqP hu) o_eq (pb3 (pe3_op op_mod o_mod (pb3_v (pv 0)) (pb3 (pe3_int)))) (pb3 (pe3_int)) (nomark _)) (pss3_cons (ps3_set (i := 4) sc_sayingE.nd rfl (by first | exact Or.inl rfl | exact Or.inr rfl) (pe3_fz (pe3_op op_addA o_add (pb3 (pe3_int)) (pb3 (pe3_op op_mod o_mod (pb3 (pe3_op op_fdivW o_fdiv (pb3_v (pv 0)) (pb3 (pe3_int)))) (pb3 (pe3_int))))))) (pss3_cons (ps3_set (i := 0) sc_sayingE.nd rfl (by first | exact Or.inl rfl | exact Or.inr rfl) (pe3_op op_fdivW o_fdiv (pb3_v (pv 0)) (pb3 (pe3_int)))) (pss3_fgt [5] (pss3_cons (ps3_for (p := .nm 5) PassesOwn.never rfl (pi3_range1 rfl T.b_range (pa3_cons (pe3_v (pv 4)) (pa3_nil))) (pg_name (i := 5) sc_sayingE.nd rfl (by first | exact Or.inl rfl | exact Or.inr rfl)) (pss3_cons (ps3_set (i := 3) sc_sayingE.nd rfl (by first | exact Or.inl rfl | exact Or.inr rfl) (pe3_fz (pe3_op op_addA o_add (pb3_v (pv 3)) (pb3 (pe3_ix (ix_all hu) o_ixA (pb3_v (pv 2)) (pb3 (pe3_op op_mod o_mod (pb3_v (pv 0)) (pb3 (pe3_callB call_lenA o_len rfl T.b_len (by decide +kernel) (pab3_cons (pb3_v (pv 2)) (pab3_nil)))))) (fun _ _ => rfl)))))) (pss3_cons (ps3_set (i := 0) sc_sayingE.nd rfl (by first | exact Or.inl rfl | exact Or.inr rfl) (pe3_op op_fdivW o_fdiv (pb3_v (pv 0)) (pb3 (pe3_callB call_lenA o_len rfl T.b_len (by decide +kernel) (pab3_cons (pb3_v (pv 2)) (pab3_nil)))))) (pss3_fgt [5] (pss3_nil))))) (pss3_cons (ps3_retV (pv 3)) (pss3_nil)))))) (pss3_nil)) (pss3_cons (ps3_set (i := 6) sc_sayingE.nd rfl (by first | exact Or.inl rfl | exact Or.inr rfl) (pe3_fz (pe3_lst (pa3_cons (pe3_str) (pa3_cons (pe3_op op_addA o_add (pb3 (pe3_str)) (pb3 (pe3_ix (ix_all hu) o_ixA (pb3_v (pv 1)) (pb3 (pe3_int)) (fun _ _ => rfl)))) (pa3_cons (pe3_op op_addA o_add (pb3 (pe3_str)) (pb3 (pe3_ix (ix_all hu) o_ixA (pb3_v (pv 1)) (pb3 (pe3_un un_neg o_neg (pb3 (pe3_int)))) (fun _ _ => rfl)))) (pa3_cons (pe3_str) (pa3_cons (pe3_str) (pa3_cons (pe3_ix (ix_all hu) o_ixA (pb3_v (pv 1)) (pb3 (pe3_int)) (fun _ _ => rfl)) (pa3_cons (pe3_str) (pa3_cons (pe3_op op_addA o_add (pb3 (pe3_op op_addA o_add (pb3 (pe3_str)) (pb3 (pe3_ix (ix_all hu) o_ixA (pb3_v (pv 1)) (pb3 (pe3_int)) (fun _ _ => rfl))))) (pb3 (pe3_str))) (pa3_nil)))))))))))) (pss3_fgt [5] (pss3_cons (ps3_for (p := .nm 5) PassesOwn.never rfl (pi3_range1 rfl T.b_range (pa3_cons (pe3_op op_addA o_add (pb3 (pe3_int)) (pb3 (pe3_op op_mod o_mod (pb3 (pe3_op op_fdivW o_fdiv (pb3_v (pv 0)) (pb3 (pe3_int)))) (pb3 (pe3_int))))) (pa3_nil))) (pg_name (i := 5) sc_sayingE.nd rfl (by first | exact Or.inl rfl | exact Or.inr rfl)) (pss3_cons (ps3_set (i := 3) sc_sayingE.nd rfl (by first | exact Or.inl rfl | exact Or.inr rfl) (pe3_fz (pe3_op op_addA o_add (pb3_v (pv 3)) (pb3 (pe3_ix (ix_all hu) o_ixA (pb3_v (pv 6)) (pb3 (pe3_op op_mod o_mod (pb3 (pe3_op op_fdivW o_fdiv (pb3_v (pv 0)) (pb3 (pe3_int)))) (pb3 (pe3_int)))) (fun _ _ => rfl)))))) (pss3_cons (ps3_set (i := 0) sc_sayingE.nd rfl (by first | exact Or.inl rfl | exact Or.inr rfl) (pe3_op op_fdivW o_fdiv (pb3_v (pv 0)) (pb3 (pe3_int)))) (pss3_fgt [5] (pss3_nil))))) (pss3_cons (ps3_ret (pe3_slice (pb3_v (pv 3)) (po3_none) (po3_some (pe3_int)))) (pss3_nil)))))))
abbrev s_vectorE : Stmt := topS 23
theorem l_vectorE (ds A Q E) (h : (sp2 F_vectorE) ds A Q E) : ds.length = (["_law_rest_here", "_law_hands_here"] : List Str).length := by obtain ⟨_, _, rfl, _⟩ := h; rfl
theorem sc_vectorE : FnScope N_vectorE ["_law_rest_here", "_law_hands_here"] (defScope s_vectorE) := ⟨rfl, rfl, rfl, by decide +kernel, rfl, by decide +kernel, by decide +kernel⟩
theorem ok_vectorE {f : Addr} {fd : FuncData} (F : Fun K "_law_vector" "_law_vector" s_vectorE f fd) (T : Txt mg) (XC : ClsT K) : FnOk P w K mg base CX0 1 f fd ["_law_rest_here", "_law_hands_here"] (lsp K w (sp2 F_vectorE)) := by
  refine fn3 (t := b_vectorE) F sc_vectorE l_vectorE (fun cdv A outer s H E C hr => ?_) m_vectorE
  have hu := hr.units
  exact pss3_cons (ps3_set (i := 2) sc_vectorE.nd rfl (by first | exact Or.inl rfl | exact Or.inr rfl) (pe3_lst (pa3_nil))) (pss3_fgt [3] (pss3_cons (ps3_for (p := .nm 3) PassesOwn.never rfl (pi3_s (pe3_v (pv 1))) (pg_name (i := 3) sc_vectorE.nd rfl (by first | exact Or.inl rfl | exact Or.inr rfl)) (pss3_cons (ps3_if (pt3_cmp (op_gtP hu) o_gt (pb3 (pe3_op op_mod o_mod (pb3_v (pv 0)) (pb3 (pe3_int)))) (pb3 (pe3_int)) (nomark _)) (pss3_cons (ps3_m (i := 2) PySem.F.plainAttrs_list PySem.F.slot_list_append PySem.F.type_list_append mt_append m_append (pv 2) (pa3_cons (pe3_tup (pa3_cons (pe3_v (pv 3)) (pa3_cons (pe3_op op_addA o_add (pb3 (pe3_int)) (pb3 (pe3_op op_mod o_mod (pb3 (pe3_op op_fdivW o_fdiv (pb3_v (pv 0)) (pb3 (pe3_int)))) (pb3 (pe3_ix (ix_all hu) o_ixA (pb3 (pe3_lst (pa3_cons (pe3_int) (pa3_cons (pe3_int) (pa3_nil))))) (pb3 (pe3_op op_sub o_sub (pb3 (pe3_op op_mod o_mod (pb3_v (pv 0)) (pb3 (pe3_int)))) (pb3 (pe3_int)))) (fun _ _ => rfl)))))) (pa3_nil)))) (pa3_nil))) (pss3_nil)) (pss3_nil)) (pss3_cons (ps3_set (i := 0) sc_vectorE.nd rfl (by first | exact Or.inl rfl | exact Or.inr rfl) (pe3_op op_fdivW o_fdiv (pb3_v (pv 0)) (pb3 (pe3_int)))) (pss3_fgt [3] (pss3_nil))))) (pss3_cons (ps3_ret (pe3_callTy call_tupleS o_tuple rfl T.b_tuple (by decide +kernel) (pab3_cons (pb3_v (pv 2)) (pab3_nil)))) (pss3_nil))))
abbrev s_whatE : Stmt := topS 24
theorem l_whatE (ds A Q E) (h : (sp4 F_whatE) ds A Q E) : ds.length = (["_law_rest_here", "_law_house_here", "_law_hands_here", "_law_stamps"] : List Str).length := by obtain ⟨_, _, _, _, rfl, _⟩ := h; rfl
theorem sc_whatE : FnScope N_whatE ["_law_rest_here", "_law_house_here", "_law_hands_here", "_law_stamps"] (defScope s_whatE) := ⟨rfl, rfl, rfl, by decide +kernel, rfl, by decide +kernel, by decide +kernel⟩
theorem ok_whatE {f : Addr} {fd : FuncData} (F : Fun K "_law_what" "_law_what" s_whatE f fd) (T : Txt mg) (XC : ClsT K) (G_messageE : Def3 P w K mg base "_law_message" 1 ["_law_rest_here", "_law_hands_here", "_law_stamps"] (sp3 F_messageE)) : FnOk P w K mg base CX0 2 f fd ["_law_rest_here", "_law_house_here", "_law_hands_here", "_law_stamps"] (lsp K w (sp4 F_whatE)) := by
  refine fn3 (t := b_whatE) F sc_whatE l_whatE (fun cdv A outer s H E C hr => ?_) m_whatE
  have hu := hr.units
  exact pss3_cons (ps3_if (pt3_cmp (op_eqP hu) o_eq (pb3 (pe3_op op_mod o_mod (pb3_v (pv 0)) (pb3 (pe3_int)))) (pb3 (pe3_int)) (nomark _)) (pss3_cons (ps3_ret (pe3_tup (pa3_cons (pe3_str) (pa3_cons (pe3_ix (ix_all hu) o_ixA (pb3 (pe3_ix (ix_all hu) o_ixA (pb3 (pe3_ix (ix_all hu) o_ixA (pb3_v (pv 1)) (pb3 (pe3_int)) (fun _ _ => rfl))) (pb3 (pe3_op op_mod o_mod (pb3 (pe3_op op_fdivW o_fdiv (pb3_v (pv 0)) (pb3 (pe3_int)))) (pb3 (pe3_callB call_lenA o_len rfl T.b_len (by decide +kernel) (pab3_cons (pb3 (pe3_ix (ix_all hu) o_ixA (pb3_v (pv 1)) (pb3 (pe3_int)) (fun _ _ => rfl))) (pab3_nil)))))) (fun _ _ => rfl))) (pb3 (pe3_int)) (fun _ _ => rfl)) (pa3_nil))))) (pss3_nil)) (pss3_nil)) (pss3_cons (ps3_if (pt3_cmp (op_eqP hu) o_eq (pb3 (pe3_op op_mod o_mod (pb3_v (pv 0)) (pb3 (pe3_int)))) (pb3 (pe3_int)) (nomark _)) (pss3_cons (ps3_ret (pe3_tup (pa3_cons (pe3_str) (pa3_cons (pe3_ix (ix_all hu) o_ixA (pb3 (pe3_ix (ix_all hu) o_ixA (pb3 (pe3_ix (ix_all hu) o_ixA (pb3_v (pv 1)) (pb3 (pe3_int)) (fun _ _ => rfl))) (pb3 (pe3_op op_mod o_mod (pb3 (pe3_op op_fdivW o_fdiv (pb3_v (pv 0)) (pb3 (pe3_int)))) (pb3 (pe3_callB call_lenA o_len rfl T.b_len (by decide +kernel) (pab3_cons (pb3 (pe3_ix (ix_all hu) o_ixA (pb3_v (pv 1)) (pb3 (pe3_int)) (fun _ _ => rfl))) (pab3_nil)))))) (fun _ _ => rfl))) (pb3 (pe3_int)) (fun _ _ => rfl)) (pa3_nil))))) (pss3_nil)) (pss3_nil)) (pss3_cons (ps3_ret (pe3_tup (pa3_cons (pe3_str) (pa3_cons (pe3_def G_messageE (hr.mono (by decide)) rfl (pa3_cons (pe3_op op_fdivW o_fdiv (pb3_v (pv 0)) (pb3 (pe3_int))) (pa3_cons (pe3_v (pv 2)) (pa3_cons (pe3_v (pv 3)) (pa3_nil))))) (pa3_nil))))) (pss3_nil)))
abbrev s_actE : Stmt := topS 25
theorem l_actE (ds A Q E) (h : (sp4 F_actE) ds A Q E) : ds.length = (["_law_rest_here", "_law_house_here", "_law_hands_here", "_law_stamps"] : List Str).length := by obtain ⟨_, _, _, _, rfl, _⟩ := h; rfl
theorem sc_actE : FnScope N_actE ["_law_rest_here", "_law_house_here", "_law_hands_here", "_law_stamps"] (defScope s_actE) := ⟨rfl, rfl, rfl, by decide +kernel, rfl, by decide +kernel, by decide +kernel⟩
theorem ok_actE {f : Addr} {fd : FuncData} (F : Fun K "_law_act" "_law_act" s_actE f fd) (T : Txt mg) (XC : ClsT K) (G_sayingE : Def3 P w K mg base "_law_saying" 2 ["_law_rest_here", "_law_names"] (sp2 F_sayingE)) (G_messageE : Def3 P w K mg base "_law_message" 1 ["_law_rest_here", "_law_hands_here", "_law_stamps"] (sp3 F_messageE)) (G_whatE : Def3 P w K mg base "_law_what" 2 ["_law_rest_here", "_law_house_here", "_law_hands_here", "_law_stamps"] (sp4 F_whatE)) (G_vectorE : Def3 P w K mg base "_law_vector" 1 ["_law_rest_here", "_law_hands_here"] (sp2 F_vectorE)) : FnOk P w K mg base CX0 3 f fd ["_law_rest_here", "_law_house_here", "_law_hands_here", "_law_stamps"] (lsp K w (sp4 F_actE)) := by
  refine fn3 (t := b_actE) F sc_actE l_actE (fun cdv A outer s H E C hr => ?_) m_actE
  have hu := hr.units
  exact pss3_cons (ps3_set (i := 4) sc_actE.nd rfl (by first | exact Or.inl rfl | exact Or.inr rfl) (pe3_op op_mod o_mod (pb3_v (pv 0)) (pb3 (pe3_int)))) (pss3_cons (ps3_set (i := 0) sc_actE.nd rfl (by first | exact Or.inl rfl | exact Or.inr rfl) (pe3_op op_fdivW o_fdiv (pb3_v (pv 0)) (pb3 (pe3_int)))) (pss3_cons (ps3_set (i := 5) sc_actE.nd rfl (by first | exact Or.inl rfl | exact Or.inr rfl) (pe3_ix (ix_all hu) o_ixA (pb3 (pe3_ix (ix_all hu) o_ixA (pb3 (pe3_ix (ix_all hu) o_ixA (pb3_v (pv 1)) (pb3 (pe3_int)) (fun _ _ => rfl))) (pb3 (pe3_op op_mod o_mod (pb3_v (pv 0)) (pb3 (pe3_callB call_lenA o_len rfl T.b_len (by decide +kernel) (pab3_cons (pb3 (pe3_ix (ix_all hu) o_ixA (pb3_v (pv 1)) (pb3 (pe3_int)) (fun _ _ => rfl))) (pab3_nil)))))) (fun _ _ => rfl))) (pb3 (pe3_int)) (fun _ _ => rfl))) (pss3_cons (ps3_if (pt3_cmp (op_ltP hu) o_lt (pb3_v (pv 4)) (pb3 (pe3_int)) (nomark _)) (pss3_cons (ps3_set (i := 6) sc_actE.nd rfl (by first | exact Or.inl rfl | exact Or.inr rfl) (pe3_fz (pe3_def G_messageE (hr.mono (by decide)) rfl (pa3_cons (pe3_op op_fdivW o_fdiv (pb3_v (pv 0)) (pb3 (pe3_int))) (pa3_cons (pe3_v (pv 2)) (pa3_cons (pe3_v (pv 3)) (pa3_nil))))))) (pss3_cons (ps3_if (pt3_cmp (op_ltP hu) o_lt (pb3 (pe3_op op_mod o_mod (pb3 (pe3_op op_fdivW o_fdiv (pb3_v (pv 0)) (pb3 (pe3_int)))) (pb3 (pe3_int)))) (pb3 (pe3_int)) (nomark _)) (pss3_cons (ps3_set (i := 6) sc_actE.nd rfl (by first | exact Or.inl rfl | exact Or.inr rfl) (pe3_non)) (pss3_nil)) (pss3_nil)) (pss3_cons (ps3_ret (pe3_tup (pa3_cons (pe3_str) (pa3_cons (pe3_v (pv 5)) (pa3_cons (pe3_v (pv 6)) (pa3_cons (pe3_def G_sayingE (hr.mono (by decide)) rfl (pa3_cons (pe3_op op_fdivW o_fdiv (pb3_v (pv 0)) (pb3 (pe3_int))) (pa3_cons (pe3_lc (own := [("_law_name", 9), ("_law_many", 10)]) (p := .tp [9, 10]) rfl sc_actE.nd (pi3_s (pe3_ix (ix_all hu) o_ixA (pb3_v (pv 1)) (pb3 (pe3_int)) (fun _ _ => rfl))) (blkOk_by (N := N_actE) (sc := defScope s_actE) (by decide +kernel)) (by decide) (fun _ _ _ _ _ => pg_tup (by rfl) (pgs_cons (pg_name (i := 9) sc_actE.nd rfl (by first | exact Or.inl rfl | exact Or.inr rfl)) (pgs_cons (pg_name (i := 10) sc_actE.nd rfl (by first | exact Or.inl rfl | exact Or.inr rfl)) (pgs_nil)))) (fun _ _ _ _ _ _ => pts3_nil) (fun _ _ _ _ _ _ => pe3_v (pv 9))) (pa3_nil)))) (pa3_nil))))))) (pss3_nil)))) (pss3_nil)) (pss3_cons (ps3_if (pt3_cmp (op_eqP hu) o_eq (pb3_v (pv 4)) (pb3 (pe3_int)) (nomark _)) (pss3_cons (ps3_ret (pe3_tup (pa3_cons (pe3_str) (pa3_cons (pe3_v (pv 5)) (pa3_cons (pe3_def G_vectorE (hr.mono (by decide)) rfl (pa3_cons (pe3_op op_fdivW o_fdiv (pb3_v (pv 0)) (pb3 (pe3_int))) (pa3_cons (pe3_v (pv 2)) (pa3_nil)))) (pa3_nil)))))) (pss3_nil)) (pss3_nil)) (pss3_cons (ps3_if (pt3_cmp (op_eqP hu) o_eq (pb3_v (pv 4)) (pb3 (pe3_int)) (nomark _)) (pss3_cons (ps3_ret (pe3_tup (pa3_cons (pe3_str) (pa3_cons (pe3_def G_whatE (hr.mono (by decide)) rfl (pa3_cons (pe3_op op_fdivW o_fdiv (pb3_v (pv 0)) (pb3 (pe3_int))) (pa3_cons (pe3_v (pv 1)) (pa3_cons (pe3_v (pv 2)) (pa3_cons (pe3_v (pv 3)) (pa3_nil)))))) (pa3_cons (pe3_cmp (op_eqP hu) o_eq (pb3 (pe3_op op_mod o_mod (pb3_v (pv 0)) (pb3 (pe3_int)))) (pb3 (pe3_int)) (nomark _)) (pa3_nil)))))) (pss3_nil)) (pss3_nil)) (pss3_cons (ps3_set (i := 7) sc_actE.nd rfl (by first | exact Or.inl rfl | exact Or.inr rfl) (pe3_fz (pe3_def G_messageE (hr.mono (by decide)) rfl (pa3_cons (pe3_op op_fdivW o_fdiv (pb3_v (pv 0)) (pb3 (pe3_int))) (pa3_cons (pe3_v (pv 2)) (pa3_cons (pe3_v (pv 3)) (pa3_nil))))))) (pss3_cons (ps3_if (pt3_cmp (op_ltP hu) o_lt (pb3_v (pv 4)) (pb3 (pe3_int)) (nomark _)) (pss3_cons (ps3_ret (pe3_tup (pa3_cons (pe3_str) (pa3_cons (pe3_v (pv 7)) (pa3_cons (pe3_def G_sayingE (hr.mono (by decide)) rfl (pa3_cons (pe3_op op_fdivW o_fdiv (pb3_v (pv 0)) (pb3 (pe3_int))) (pa3_cons (pe3_lc (own := [("_law_name", 9), ("_law_many", 10)]) (p := .tp [9, 10]) rfl sc_actE.nd (pi3_s (pe3_ix (ix_all hu) o_ixA (pb3_v (pv 1)) (pb3 (pe3_int)) (fun _ _ => rfl))) (blkOk_by (N := N_actE) (sc := defScope s_actE) (by decide +kernel)) (by decide) (fun _ _ _ _ _ => pg_tup (by rfl) (pgs_cons (pg_name (i := 9) sc_actE.nd rfl (by first | exact Or.inl rfl | exact Or.inr rfl)) (pgs_cons (pg_name (i := 10) sc_actE.nd rfl (by first | exact Or.inl rfl | exact Or.inr rfl)) (pgs_nil)))) (fun _ _ _ _ _ _ => pts3_nil) (fun _ _ _ _ _ _ => pe3_v (pv 9))) (pa3_nil)))) (pa3_nil)))))) (pss3_nil)) (pss3_nil)) (pss3_cons (ps3_if (pt3_cmp (op_ltP hu) o_lt (pb3_v (pv 4)) (pb3 (pe3_int)) (nomark _)) (pss3_cons (ps3_set (i := 8) sc_actE.nd rfl (by first | exact Or.inl rfl | exact Or.inr rfl) (pe3_ix (ix_all hu) o_ixA (pb3 (pe3_lst (pa3_cons (pe3_str) (pa3_cons (pe3_str) (pa3_cons (pe3_str) (pa3_cons (pe3_str) (pa3_nil))))))) (pb3 (pe3_op op_mod o_mod (pb3 (pe3_op op_fdivW o_fdiv (pb3_v (pv 0)) (pb3 (pe3_int)))) (pb3 (pe3_int)))) (fun _ _ => rfl))) (pss3_cons (ps3_ret (pe3_tup (pa3_cons (pe3_str) (pa3_cons (pe3_v (pv 7)) (pa3_cons (pe3_v (pv 8)) (pa3_cons (pe3_cmp (op_eqP hu) o_eq (pb3 (pe3_op op_mod o_mod (pb3_v (pv 0)) (pb3 (pe3_int)))) (pb3 (pe3_int)) (nomark _)) (pa3_nil))))))) (pss3_nil))) (pss3_nil)) (pss3_cons (ps3_ret (pe3_tup (pa3_cons (pe3_ix (ix_all hu) o_ixA (pb3 (pe3_ix (ix_all hu) o_ixA (pb3 (pe3_lst (pa3_cons (pe3_lst (pa3_cons (pe3_str) (pa3_cons (pe3_str) (pa3_nil)))) (pa3_cons (pe3_lst (pa3_cons (pe3_str) (pa3_cons (pe3_str) (pa3_nil)))) (pa3_nil))))) (pb3 (pe3_op op_sub o_sub (pb3_v (pv 4)) (pb3 (pe3_int)))) (fun _ _ => rfl))) (pb3 (pe3_op op_mod o_mod (pb3_v (pv 0)) (pb3 (pe3_int)))) (fun _ _ => rfl)) (pa3_cons (pe3_v (pv 7)) (pa3_nil))))) (pss3_nil))))))))))
abbrev s_logE : Stmt := topS 26
theorem l_logE (ds A Q E) (h : (sp2 F_logE) ds A Q E) : ds.length = (["_law_cells", "_law_house_here"] : List Str).length := by obtain ⟨_, _, rfl, _⟩ := h; rfl
theorem sc_logE : FnScope N_logE ["_law_cells", "_law_house_here"] (defScope s_logE) := ⟨rfl, rfl, rfl, by decide +kernel, rfl, by decide +kernel, by decide +kernel⟩
theorem ok_logE {f ct0 Pt : Addr} (TB : LamX.TabB base mg ct0 Pt) {dV kV doc pm ct oc : Value} {an od : Option Addr} {osl : Array (Option Value)} (lk : K.lookup f = some ⟨oc, od, .func (PySem.W.fnOf "_law_log" "_law_log" (defArgs s_logE) (defBody s_logE) (defScope s_logE) dV kV doc pm an (.ref ct0) ct), osl⟩) (hcd : PySem.W.codeIn K (.ref ct0) "_law_log" = true) (T : Txt mg) (XC : ClsT K) (G_actE : Def3 P w K mg base "_law_act" 3 ["_law_rest_here", "_law_house_here", "_law_hands_here", "_law_stamps"] (sp4 F_actE)) (G_rest : Def3 P w K mg base "_law_rest" 2 ["_law_cell"] (sp1 F_rest)) (G_handsE : Def3 P w K mg base "_law_hands" 1 ["_law_house_here"] (sp1 F_handsE)) : FnOk P w K mg base CX0 4 f (PySem.W.fnOf "_law_log" "_law_log" (defArgs s_logE) (defBody s_logE) (defScope s_logE) dV kV doc pm an (.ref ct0) ct) ["_law_cells", "_law_house_here"] (lspT K w Pt (sp2 F_logE)) := by
  refine fn3T (t := b_logE) lk hcd sc_logE l_logE (fun A outer s H E C hPt hr => ?_) m_logE
  have hu := hr.units
  exact pss3_cons (ps3_set (i := 2) sc_logE.nd rfl (by first | exact Or.inl rfl | exact Or.inr rfl) (pe3_fz (pe3_def G_handsE (hr.mono (by decide)) rfl (pa3_cons (pe3_v (pv 1)) (pa3_nil))))) (pss3_cons (ps3_setR (i := 3) sc_logE.nd rfl (by first | exact Or.inl rfl | exact Or.inr rfl) (pe3_lst (pa3_nil))) (pss3_cons (ps3_setR (i := 4) sc_logE.nd rfl (by first | exact Or.inl rfl | exact Or.inr rfl) (pe3_dnew)) (pss3_cons (ps3_set (i := 5) sc_logE.nd rfl (by first | exact Or.inl rfl | exact Or.inr rfl) (pe3_dnew)) (pss3_cons (ps3_set (i := 6) sc_logE.nd rfl (by first | exact Or.inl rfl | exact Or.inr rfl) (pe3_lst (pa3_nil))) (pss3_fgt [7, 8, 9, 10, 11] (pss3_cons (ps3_for (p := .nm 7) PassesOwn.never rfl (pi3_s (pe3_v (pv 0))) (pg_name (i := 7) sc_logE.nd rfl (by first | exact Or.inl rfl | exact Or.inr rfl)) (pss3_cons (ps3_set (i := 8) sc_logE.nd rfl (by first | exact Or.inl rfl | exact Or.inr rfl) (pe3_fz (pe3_def G_rest (hr.mono (by decide)) rfl (pa3_cons (pe3_v (pv 7)) (pa3_nil))))) (pss3_cons (ps3_set (i := 9) sc_logE.nd rfl (by first | exact Or.inl rfl | exact Or.inr rfl) (pe3_ix (ix_all hu) o_ixA (pb3_v (pv 2)) (pb3 (pe3_op op_mod o_mod (pb3_v (pv 8)) (pb3 (pe3_callB call_lenA o_len rfl T.b_len (by decide +kernel) (pab3_cons (pb3_v (pv 2)) (pab3_nil)))))) (fun _ _ => rfl))) (pss3_cons (ps3_set (i := 8) sc_logE.nd rfl (by first | exact Or.inl rfl | exact Or.inr rfl) (pe3_op op_fdivW o_fdiv (pb3_v (pv 8)) (pb3 (pe3_callB call_lenA o_len rfl T.b_len (by decide +kernel) (pab3_cons (pb3_v (pv 2)) (pab3_nil)))))) (pss3_cons (ps3_set (i := 10) sc_logE.nd rfl (by first | exact Or.inl rfl | exact Or.inr rfl) (pe3_fz (pe3_op op_addA o_add (pb3 (pe3_op op_addA o_add (pb3 (pe3_mF PySem.F.plainAttrs_dict PySem.F.slot_dict_get PySem.F.type_dict_get (mt_get_dk hu) m_get (pb3_v (pv 4)) (pa3_cons (pe3_v (pv 9)) (pa3_cons (pe3_int) (pa3_nil))))) (pb3 (pe3_int)))) (pb3 (pe3_op op_mod o_mod (pb3 (pe3_op op_fdivW o_fdiv (pb3_v (pv 8)) (pb3 (pe3_int)))) (pb3 (pe3_int))))))) (pss3_cons (ps3_if (pt3_cmp (op_ltP hu) o_lt (pb3 (pe3_op op_mod o_mod (pb3_v (pv 8)) (pb3 (pe3_int)))) (pb3 (pe3_int)) (nomark _)) (pss3_cons (ps3_set (i := 10) sc_logE.nd rfl (by first | exact Or.inl rfl | exact Or.inr rfl) (pe3_fz (pe3_op op_addA o_add (pb3 (pe3_int)) (pb3 (pe3_callB (call_maxA rfl hu) o_max rfl T.b_max (by decide +kernel) (pab3_cons (pb3 (pe3_op op_addA o_add (pb3 (pe3_lst (pa3_cons (pe3_int) (pa3_nil)))) (pb3 (pe3_lc (own := [("_law_other", 12)]) (p := .nm 12) rfl sc_logE.nd (pi3_keysA (pe3_v (pv 4))) (blkOk_by (N := N_logE) (sc := defScope s_logE) (by decide +kernel)) (by decide) (fun _ _ _ _ _ => pg_name (i := 12) sc_logE.nd rfl (by first | exact Or.inl rfl | exact Or.inr rfl)) (fun _ _ _ _ _ _ => pts3_nil) (fun _ _ _ _ _ _ => pe3_ix (ix_all hu) o_ixA (pb3_v (pv 4)) (pb3_v (pv 12)) (fun _ _ => rfl)))))) (pab3_nil))))))) (pss3_nil)) (pss3_nil)) (pss3_cons (ps3_set (i := 11) sc_logE.nd rfl (by first | exact Or.inl rfl | exact Or.inr rfl) (pe3_fz (pe3_def G_actE (hr.mono (by decide)) rfl (pa3_cons (pe3_op op_fdivW o_fdiv (pb3_v (pv 8)) (pb3 (pe3_int))) (pa3_cons (pe3_v (pv 1)) (pa3_cons (pe3_v (pv 2)) (pa3_cons (pe3_v (pv 3)) (pa3_nil)))))))) (pss3_cons (ps3_putR (set_dk hu) s_dset (pe3_v (pv 4)) (pe3_v (pv 9)) (pe3_v (pv 10))) (pss3_cons (ps3_m (i := 6) PySem.F.plainAttrs_list PySem.F.slot_list_append PySem.F.type_list_append mt_append m_append (pv 6) (pa3_cons (pe3_tup (pa3_cons (pe3_v (pv 10)) (pa3_cons (pe3_v (pv 9)) (pa3_cons (pe3_mF PySem.F.plainAttrs_dict PySem.F.slot_dict_get PySem.F.type_dict_get (mt_get_dk hu) m_get (pb3_v (pv 5)) (pa3_cons (pe3_v (pv 9)) (pa3_cons (pe3_int) (pa3_nil)))) (pa3_cons (pe3_v (pv 11)) (pa3_nil)))))) (pa3_nil))) (pss3_cons (ps3_put (set_dk hu) s_dset (pv 5) (pe3_v (pv 9)) (pe3_op op_addA o_add (pb3 (pe3_mF PySem.F.plainAttrs_dict PySem.F.slot_dict_get PySem.F.type_dict_get (mt_get_dk hu) m_get (pb3_v (pv 5)) (pa3_cons (pe3_v (pv 9)) (pa3_cons (pe3_int) (pa3_nil))))) (pb3 (pe3_int)))) (pss3_cons (ps3_if (pt3_cmp (op_eqP hu) o_eq (pb3 (pe3_ix (ix_all hu) o_ixA (pb3_v (pv 11)) (pb3 (pe3_int)) (fun _ _ => rfl))) (pb3 (pe3_str)) (nomark _)) (pss3_cons (ps3_expr (pe3_mr PySem.F.plainAttrs_list PySem.F.slot_list_append PySem.F.type_list_append mt_append m_append (pe3_v (pv 3)) (pa3_cons (pe3_tup (pa3_cons (pe3_v (pv 10)) (pa3_cons (pe3_v (pv 9)) (pa3_nil)))) (pa3_nil)))) (pss3_nil)) (pss3_nil)) (pss3_fgt [7, 8, 9, 10, 11] (pss3_nil))))))))))))) (pss3_cons (ps3_ret (pe3_callTy call_tupleS o_tuple rfl T.b_tuple (by decide +kernel) (pab3_cons (pb3 (pe3_sortL (N := ["_law_deed"]) (a := "_law_deed") (k := 0) TB rfl hPt (hr.mono (by decide)) rfl hu rfl T.b_sorted (pb3_v (pv 6)) (by exact ⟨rfl, rfl, rfl, by decide +kernel, rfl, by decide +kernel, by decide +kernel⟩) (fun _ _ _ _ => rfl) (fun f c' A outer s H C hr => by have hu := hr.units; exact pe3_slice (pb3_v (pv 0)) (po3_none) (po3_some (pe3_int))))) (pab3_nil)))) (pss3_nil))))))))
abbrev s_same : Stmt := topS 27
theorem l_same (n : Nat) (ds A Q E) (h : (sp2 (F_same n)) ds A Q E) : ds.length = (["_law_found", "_law_due_here"] : List Str).length := by obtain ⟨_, _, rfl, _⟩ := h; rfl
theorem never_same (ds A Q E) : ¬ (sp2 (F_same 0)) ds A Q E := fun h => by
  obtain ⟨_, _, rfl, _, _, u, _⟩ := h
  rw [F_same] at u
  exact u
theorem sc_same : FnScope N_same ["_law_found", "_law_due_here"] (defScope s_same) := ⟨rfl, rfl, rfl, by decide +kernel, rfl, by decide +kernel, by decide +kernel⟩
theorem ok_same {f : Addr} {fd : FuncData} (F : Fun K "_law_same" "_law_same" s_same f fd) (T : Txt mg) (hm : mg "_law_same" = some (.ref f)) (hk : PySem.W.keepIn K (.ref f) = true) (hb : L2.Binds K fd ["_law_found", "_law_due_here"] []) (XC : ClsT K) : ∀ n : Nat, FnOk P w K mg base CX0 (1 + n) f fd ["_law_found", "_law_due_here"] (lsp K w (sp2 (F_same n)))
  | 0 => fnok_never never_same
  | n + 1 => by
    have G_self : Def3 P w K mg base "_law_same" (1 + n) ["_law_found", "_law_due_here"] (sp2 (F_same n)) := ⟨f, fd, ok_same F T hm hk hb XC n, hm, hk, hb⟩
    refine fn3 (t := b_same (sp2 (F_same n))) F sc_same (l_same (n + 1)) (fun cdv A outer s H E C hr => ?_) (m_same n)
    have hu := hr.units
    exact pss3_cons (ps3_if (pt3_cmp op_isN o_isN (pb3_v (pv 1)) (pb3 (pe3_non)) (nomark _)) (pss3_cons (ps3_ret (pe3_cmp op_isN o_isN (pb3_v (pv 0)) (pb3 (pe3_non)) (nomark _))) (pss3_nil)) (pss3_nil)) (pss3_cons (ps3_if (pt3_val (pe3_isi (n := "bool") rfl T.b_isinstance rfl T.b_bool (by decide +kernel) (by decide) (pb3_v (pv 1)))) (pss3_cons (ps3_ret (pe3_and (pe3_isi (n := "bool") rfl T.b_isinstance rfl T.b_bool (by decide +kernel) (by decide) (pb3_v (pv 0))) (pe3_one (pe3_cmp (op_eqP hu) o_eq (pb3_v (pv 0)) (pb3_v (pv 1)) (nomark _))))) (pss3_nil)) (pss3_nil)) (pss3_cons (ps3_if (pt3_val (pe3_isi (n := "str") rfl T.b_isinstance rfl T.b_str (by decide +kernel) (by decide) (pb3_v (pv 1)))) (pss3_cons (ps3_ret (pe3_and (pe3_isi (n := "str") rfl T.b_isinstance rfl T.b_str (by decide +kernel) (by decide) (pb3_v (pv 0))) (pe3_one (pe3_cmp (op_eqP hu) o_eq (pb3_v (pv 0)) (pb3_v (pv 1)) (nomark _))))) (pss3_nil)) (pss3_nil)) (pss3_cons (ps3_if (pt3_val (pe3_isi (n := "int") rfl T.b_isinstance rfl T.b_int (by decide +kernel) (by decide) (pb3_v (pv 1)))) (pss3_cons (ps3_ret (pe3_and (pe3_isi (n := "int") rfl T.b_isinstance rfl T.b_int (by decide +kernel) (by decide) (pb3_v (pv 0))) (pe3_and (pe3_not (pe3_isi (n := "bool") rfl T.b_isinstance rfl T.b_bool (by decide +kernel) (by decide) (pb3_v (pv 0)))) (pe3_one (pe3_cmp (op_eqP hu) o_eq (pb3_v (pv 0)) (pb3_v (pv 1)) (nomark _)))))) (pss3_nil)) (pss3_nil)) (pss3_cons (ps3_if (PW.pt (pw3_and (pt3_val (pe3_isi (n := "list") rfl T.b_isinstance rfl T.b_list (by decide +kernel) (by decide) (pb3_v (pv 1)))) (pw3_and1 (pt3_not (pt3_val (pe3_isi (n := "list") rfl T.b_isinstance rfl T.b_list (by decide +kernel) (by decide) (pb3_v (pv 0)))))))) (pss3_cons (ps3_ret (pe3_bl)) (pss3_nil)) (pss3_nil)) (pss3_cons (ps3_if (PW.pt (pw3_and (pt3_val (pe3_isi (n := "tuple") rfl T.b_isinstance rfl T.b_tuple (by decide +kernel) (by decide) (pb3_v (pv 1)))) (pw3_and1 (pt3_not (pt3_val (pe3_isi (n := "tuple") rfl T.b_isinstance rfl T.b_tuple (by decide +kernel) (by decide) (pb3_v (pv 0)))))))) (pss3_cons (ps3_ret (pe3_bl)) (pss3_nil)) (pss3_nil)) (pss3_cons (ps3_if (pt3_cmp (op_neP hu) o_ne (pb3 (pe3_callB call_lenA o_len rfl T.b_len (by decide +kernel) (pab3_cons (pb3_v (pv 0)) (pab3_nil)))) (pb3 (pe3_callB call_lenA o_len rfl T.b_len (by decide +kernel) (pab3_cons (pb3_v (pv 1)) (pab3_nil)))) (nomark _)) (pss3_cons (ps3_ret (pe3_bl)) (pss3_nil)) (pss3_nil)) (pss3_fgt [2, 3] (pss3_cons (ps3_for (p := .tp [2, 3]) PassesOwn.never rfl (pi3_zip rfl T.b_zip (pa3_cons (pe3_v (pv 0)) (pa3_cons (pe3_v (pv 1)) (pa3_nil)))) (pg_tup (by rfl) (pgs_cons (pg_name (i := 2) sc_same.nd rfl (by first | exact Or.inl rfl | exact Or.inr rfl)) (pgs_cons (pg_name (i := 3) sc_same.nd rfl (by first | exact Or.inl rfl | exact Or.inr rfl)) (pgs_nil)))) (pss3_cons (ps3_if (pt3_not (pt3_val (pe3_def G_self (hr.mono (by first | omega | (simp only [Nat.add_eq]; omega))) rfl (pa3_cons (pe3_v (pv 2)) (pa3_cons (pe3_v (pv 3)) (pa3_nil)))))) (pss3_cons (ps3_ret (pe3_bl)) (pss3_nil)) (pss3_nil)) (pss3_fgt [2, 3] (pss3_nil)))) (pss3_cons (ps3_ret (pe3_bl)) (pss3_nil))))))))))
abbrev s_kept : Stmt := topS 28
theorem l_kept (ds A Q E) (h : (sp1 F_kept) ds A Q E) : ds.length = (["_law_deed"] : List Str).length := by obtain ⟨_, rfl, _⟩ := h; rfl
theorem sc_kept : FnScope N_kept ["_law_deed"] (defScope s_kept) := ⟨rfl, rfl, rfl, by decide +kernel, rfl, by decide +kernel, by decide +kernel⟩
theorem ok_kept {f : Addr} {fd : FuncData} (F : Fun K "_law_kept" "_law_kept" s_kept f fd) (T : Txt mg) (XC : ClsT K) : FnOk P w K mg base CX0 1 f fd ["_law_deed"] (lsp K w (sp1 F_kept)) := by
  refine fn3 (t := b_kept) F sc_kept l_kept (fun cdv A outer s H E C hr => ?_) m_kept
  have hu := hr.units
  exact pss3_cons (ps3_asgP (p := .tp [1, 2, 3, 4]) (pe3_v (pv 0)) (pg_tup (by rfl) (pgs_cons (pg_name (i := 1) sc_kept.nd rfl (by first | exact Or.inl rfl | exact Or.inr rfl)) (pgs_cons (pg_name (i := 2) sc_kept.nd rfl (by first | exact Or.inl rfl | exact Or.inr rfl)) (pgs_cons (pg_name (i := 3) sc_kept.nd rfl (by first | exact Or.inl rfl | exact Or.inr rfl)) (pgs_cons (pg_name (i := 4) sc_kept.nd rfl (by first | exact Or.inl rfl | exact Or.inr rfl)) (pgs_nil))))))) (pss3_cons (ps3_if (pt3_cmp (op_eqP hu) o_eq (pb3 (pe3_ix (ix_all hu) o_ixA (pb3_v (pv 4)) (pb3 (pe3_int)) (fun _ _ => rfl))) (pb3 (pe3_str)) (nomark _)) (pss3_cons (ps3_ret (pe3_tup (pa3_cons (pe3_tup (pa3_cons (pe3_str) (pa3_cons (pe3_tup (pa3_cons (pe3_v (pv 1)) (pa3_cons (pe3_v (pv 2)) (pa3_nil)))) (pa3_nil)))) (pa3_cons (pe3_non) (pa3_cons (pe3_op op_addA o_add (pb3 (pe3_tup (pa3_cons (pe3_v (pv 3)) (pa3_nil)))) (pb3 (pe3_slice (pb3_v (pv 4)) (po3_some (pe3_int)) (po3_none)))) (pa3_nil)))))) (pss3_nil)) (pss3_nil)) (pss3_cons (ps3_if (pt3_cmp (op_eqP hu) o_eq (pb3 (pe3_ix (ix_all hu) o_ixA (pb3_v (pv 4)) (pb3 (pe3_int)) (fun _ _ => rfl))) (pb3 (pe3_str)) (nomark _)) (pss3_cons (ps3_ret (pe3_tup (pa3_cons (pe3_tup (pa3_cons (pe3_str) (pa3_cons (pe3_tup (pa3_cons (pe3_ix (ix_all hu) o_ixA (pb3_v (pv 2)) (pb3 (pe3_int)) (fun _ _ => rfl)) (pa3_cons (pe3_ix (ix_all hu) o_ixA (pb3_v (pv 4)) (pb3 (pe3_int)) (fun _ _ => rfl)) (pa3_nil)))) (pa3_nil)))) (pa3_cons (pe3_tup (pa3_cons (pe3_v (pv 1)) (pa3_cons (pe3_v (pv 2)) (pa3_nil)))) (pa3_cons (pe3_ix (ix_all hu) o_ixA (pb3_v (pv 4)) (pb3 (pe3_int)) (fun _ _ => rfl)) (pa3_nil)))))) (pss3_nil)) (pss3_nil)) (pss3_cons (ps3_if (pt3_cmp (op_eqP hu) o_eq (pb3 (pe3_ix (ix_all hu) o_ixA (pb3_v (pv 4)) (pb3 (pe3_int)) (fun _ _ => rfl))) (pb3 (pe3_str)) (nomark _)) (pss3_cons (ps3_ret (pe3_tup (pa3_cons (pe3_tup (pa3_cons (pe3_str) (pa3_cons (pe3_tup (pa3_cons (pe3_ix (ix_all hu) o_ixA (pb3_v (pv 2)) (pb3 (pe3_int)) (fun _ _ => rfl)) (pa3_cons (pe3_ix (ix_all hu) o_ixA (pb3_v (pv 4)) (pb3 (pe3_int)) (fun _ _ => rfl)) (pa3_nil)))) (pa3_nil)))) (pa3_cons (pe3_non) (pa3_cons (pe3_ix (ix_all hu) o_ixA (pb3_v (pv 4)) (pb3 (pe3_int)) (fun _ _ => rfl)) (pa3_nil)))))) (pss3_nil)) (pss3_nil)) (pss3_cons (ps3_if (pt3_cmp (op_eqP hu) o_eq (pb3 (pe3_ix (ix_all hu) o_ixA (pb3_v (pv 4)) (pb3 (pe3_int)) (fun _ _ => rfl))) (pb3 (pe3_str)) (nomark _)) (pss3_cons (ps3_ret (pe3_tup (pa3_cons (pe3_tup (pa3_cons (pe3_str) (pa3_cons (pe3_tup (pa3_cons (pe3_ix (ix_all hu) o_ixA (pb3_v (pv 4)) (pb3 (pe3_int)) (fun _ _ => rfl)) (pa3_cons (pe3_ix (ix_all hu) o_ixA (pb3_v (pv 2)) (pb3 (pe3_int)) (fun _ _ => rfl)) (pa3_cons (pe3_ix (ix_all hu) o_ixA (pb3_v (pv 4)) (pb3 (pe3_int)) (fun _ _ => rfl)) (pa3_nil))))) (pa3_nil)))) (pa3_cons (pe3_tup (pa3_cons (pe3_v (pv 1)) (pa3_cons (pe3_v (pv 2)) (pa3_nil)))) (pa3_cons (pe3_ix (ix_all hu) o_ixA (pb3_v (pv 4)) (pb3 (pe3_int)) (fun _ _ => rfl)) (pa3_nil)))))) (pss3_nil)) (pss3_nil)) (pss3_cons (ps3_if (pt3_cmp (op_eqP hu) o_eq (pb3 (pe3_ix (ix_all hu) o_ixA (pb3_v (pv 4)) (pb3 (pe3_int)) (fun _ _ => rfl))) (pb3 (pe3_str)) (nomark _)) (pss3_cons (ps3_ret (pe3_tup (pa3_cons (pe3_tup (pa3_cons (pe3_str) (pa3_cons (pe3_tup (pa3_cons (pe3_ix (ix_all hu) o_ixA (pb3_v (pv 4)) (pb3 (pe3_int)) (fun _ _ => rfl)) (pa3_cons (pe3_ix (ix_all hu) o_ixA (pb3_v (pv 2)) (pb3 (pe3_int)) (fun _ _ => rfl)) (pa3_nil)))) (pa3_nil)))) (pa3_cons (pe3_tup (pa3_cons (pe3_v (pv 1)) (pa3_cons (pe3_v (pv 2)) (pa3_nil)))) (pa3_cons (pe3_ix (ix_all hu) o_ixA (pb3_v (pv 4)) (pb3 (pe3_int)) (fun _ _ => rfl)) (pa3_nil)))))) (pss3_nil)) (pss3_nil)) (pss3_cons (ps3_ret (pe3_tup (pa3_cons (pe3_tup (pa3_cons (pe3_ix (ix_all hu) o_ixA (pb3_v (pv 4)) (pb3 (pe3_int)) (fun _ _ => rfl)) (pa3_cons (pe3_tup (pa3_cons (pe3_ix (ix_all hu) o_ixA (pb3_v (pv 4)) (pb3 (pe3_int)) (fun _ _ => rfl)) (pa3_cons (pe3_ix (ix_all hu) o_ixA (pb3_v (pv 2)) (pb3 (pe3_int)) (fun _ _ => rfl)) (pa3_nil)))) (pa3_nil)))) (pa3_cons (pe3_non) (pa3_cons (pe3_non) (pa3_nil)))))) (pss3_nil)))))))
abbrev s_greater : Stmt := topS 29
theorem l_greater (ds A Q E) (h : (sp2 F_greater) ds A Q E) : ds.length = (["_law_one", "_law_other"] : List Str).length := by obtain ⟨_, _, rfl, _⟩ := h; rfl
theorem sc_greater : FnScope N_greater ["_law_one", "_law_other"] (defScope s_greater) := ⟨rfl, rfl, rfl, by decide +kernel, rfl, by decide +kernel, by decide +kernel⟩
theorem ok_greater {f : Addr} {fd : FuncData} (F : Fun K "_law_greater" "_law_greater" s_greater f fd) (T : Txt mg) (XC : ClsT K) : FnOk P w K mg base CX0 1 f fd ["_law_one", "_law_other"] (lsp K w (sp2 F_greater)) := by
  refine fn3 (t := b_greater) F sc_greater l_greater (fun cdv A outer s H E C hr => ?_) m_greater
  have hu := hr.units
  exact pss3_cons (ps3_set (i := 2) sc_greater.nd rfl (by first | exact Or.inl rfl | exact Or.inr rfl) (pe3_dnew)) (pss3_fgt [3, 4] (pss3_cons (ps3_for (p := .tp [3, 4]) PassesOwn.never rfl (pi3_s (pe3_op op_addA o_add (pb3 (pe3_callTy (call_listA rfl) o_listA rfl T.b_list (by decide +kernel) (pab3_cons (pb3_v (pv 0)) (pab3_nil)))) (pb3 (pe3_callTy (call_listA rfl) o_listA rfl T.b_list (by decide +kernel) (pab3_cons (pb3_v (pv 1)) (pab3_nil)))))) (pg_tup (by rfl) (pgs_cons (pg_name (i := 3) sc_greater.nd rfl (by first | exact Or.inl rfl | exact Or.inr rfl)) (pgs_cons (pg_name (i := 4) sc_greater.nd rfl (by first | exact Or.inl rfl | exact Or.inr rfl)) (pgs_nil)))) (pss3_cons (ps3_put (set_dk hu) s_dset (pv 2) (pe3_v (pv 3)) (pe3_callB (call_max2 rfl) o_max2 rfl T.b_max (by decide +kernel) (pab3_cons (pb3 (pe3_mF PySem.F.plainAttrs_dict PySem.F.slot_dict_get PySem.F.type_dict_get (mt_get_dk hu) m_get (pb3_v (pv 2)) (pa3_cons (pe3_v (pv 3)) (pa3_cons (pe3_int) (pa3_nil))))) (pab3_cons (pb3_v (pv 4)) (pab3_nil))))) (pss3_fgt [3, 4] (pss3_nil)))) (pss3_fgt [3] (pss3_fz 2 (pss3_cons (ps3_ret (pe3_callTy call_tupleS o_tuple rfl T.b_tuple (by decide +kernel) (pab3_cons (pb3 (pe3_lc (own := [("_law_hand", 3)]) (p := .nm 3) rfl sc_greater.nd (pi3_s (pe3_callB (call_sortedS rfl hu) o_sortedS rfl T.b_sorted (by decide +kernel) (pab3_cons (pb3_v (pv 2)) (pab3_nil)))) (blkOk_by (N := N_greater) (sc := defScope s_greater) (by decide +kernel)) (by decide) (fun _ _ _ _ _ => pg_name (i := 3) sc_greater.nd rfl (by first | exact Or.inl rfl | exact Or.inr rfl)) (fun _ _ _ _ _ _ => pts3_nil) (fun _ _ _ _ _ _ => pe3_tup (pa3_cons (pe3_v (pv 3)) (pa3_cons (pe3_ix (ix_all hu) o_ixA (pb3_v (pv 2)) (pb3_v (pv 3)) (fun _ _ => rfl)) (pa3_nil)))))) (pab3_nil)))) (pss3_nil))))))
abbrev s_due : Stmt := topS 30
theorem l_due (ds A Q E) (h : (sp1 F_due) ds A Q E) : ds.length = (["_law_log_here"] : List Str).length := by obtain ⟨_, rfl, _⟩ := h; rfl
theorem sc_due : FnScope N_due ["_law_log_here"] (defScope s_due) := ⟨rfl, rfl, rfl, by decide +kernel, rfl, by decide +kernel, by decide +kernel⟩
theorem ok_due {f : Addr} {fd : FuncData} (F : Fun K "_law_due" "_law_due" s_due f fd) (T : Txt mg) (XC : ClsT K) (G_greater : Def3 P w K mg base "_law_greater" 1 ["_law_one", "_law_other"] (sp2 F_greater)) (G_kept : Def3 P w K mg base "_law_kept" 1 ["_law_deed"] (sp1 F_kept)) : FnOk P w K mg base CX0 2 f fd ["_law_log_here"] (lsp K w (sp1 F_due)) := by
  refine fn3 (t := b_due) F sc_due l_due (fun cdv A outer s H E C hr => ?_) m_due
  have hu := hr.units
  exact pss3_cons (ps3_set (i := 1) sc_due.nd rfl (by first | exact Or.inl rfl | exact Or.inr rfl) (pe3_dnew)) (pss3_cons (ps3_set (i := 2) sc_due.nd rfl (by first | exact Or.inl rfl | exact Or.inr rfl) (pe3_dnew)) (pss3_fgt [3, 4, 5, 6] (pss3_cons (ps3_for (p := .nm 3) PassesOwn.never rfl (pi3_s (pe3_v (pv 0))) (pg_name (i := 3) sc_due.nd rfl (by first | exact Or.inl rfl | exact Or.inr rfl)) (pss3_cons (ps3_asgP (p := .tp [4, 5, 6]) (pe3_def G_kept (hr.mono (by decide)) rfl (pa3_cons (pe3_v (pv 3)) (pa3_nil))) (pg_tup (by rfl) (pgs_cons (pg_name (i := 4) sc_due.nd rfl (by first | exact Or.inl rfl | exact Or.inr rfl)) (pgs_cons (pg_name (i := 5) sc_due.nd rfl (by first | exact Or.inl rfl | exact Or.inr rfl)) (pgs_cons (pg_name (i := 6) sc_due.nd rfl (by first | exact Or.inl rfl | exact Or.inr rfl)) (pgs_nil)))))) (pss3_cons (ps3_if (PW.pt (pw3_and (pt3_cmp (op_eqP hu) o_eq (pb3 (pe3_ix (ix_all hu) o_ixA (pb3_v (pv 4)) (pb3 (pe3_int)) (fun _ _ => rfl))) (pb3 (pe3_str)) (nomark _)) (pw3_and1 (pt3_cmp (op_inA hu) (o_inA id) (pb3_v (pv 4)) (pb3_v (pv 1)) (by rfl))))) (pss3_cons (ps3_set (i := 6) sc_due.nd rfl (by first | exact Or.inl rfl | exact Or.inr rfl) (pe3_fz (pe3_def G_greater (hr.mono (by decide)) rfl (pa3_cons (pe3_ix (ix_all hu) o_ixA (pb3 (pe3_ix (ix_all hu) o_ixA (pb3_v (pv 1)) (pb3_v (pv 4)) (fun _ _ => rfl))) (pb3 (pe3_int)) (fun _ _ => rfl)) (pa3_cons (pe3_v (pv 6)) (pa3_nil)))))) (pss3_nil)) (pss3_nil)) (pss3_cons (ps3_put (set_dk hu) s_dset (pv 1) (pe3_v (pv 4)) (pe3_tup (pa3_cons (pe3_v (pv 5)) (pa3_cons (pe3_v (pv 6)) (pa3_nil))))) (pss3_cons (ps3_put (set_dk hu) s_dset (pv 2) (pe3_ix (ix_all hu) o_ixA (pb3_v (pv 3)) (pb3 (pe3_int)) (fun _ _ => rfl)) (pe3_op op_addA o_add (pb3 (pe3_mF PySem.F.plainAttrs_dict PySem.F.slot_dict_get PySem.F.type_dict_get (mt_get_dk hu) m_get (pb3_v (pv 2)) (pa3_cons (pe3_ix (ix_all hu) o_ixA (pb3_v (pv 3)) (pb3 (pe3_int)) (fun _ _ => rfl)) (pa3_cons (pe3_int) (pa3_nil))))) (pb3 (pe3_int)))) (pss3_fgt [3, 4, 5, 6] (pss3_nil))))))) (pss3_fgt [4] (pss3_fz 1 (pss3_cons (ps3_set (i := 7) sc_due.nd rfl (by first | exact Or.inl rfl | exact Or.inr rfl) (pe3_callTy call_tupleS o_tuple rfl T.b_tuple (by decide +kernel) (pab3_cons (pb3 (pe3_lc (own := [("_law_place", 4)]) (p := .nm 4) rfl sc_due.nd (pi3_s (pe3_callB (call_sortedS rfl hu) o_sortedS rfl T.b_sorted (by decide +kernel) (pab3_cons (pb3_v (pv 1)) (pab3_nil)))) (blkOk_by (N := N_due) (sc := defScope s_due) (by decide +kernel)) (by decide) (fun _ _ _ _ _ => pg_name (i := 4) sc_due.nd rfl (by first | exact Or.inl rfl | exact Or.inr rfl)) (fun _ _ _ _ _ _ => pts3_nil) (fun _ _ _ _ _ _ => pe3_op op_addA o_add (pb3_v (pv 4)) (pb3 (pe3_ix (ix_all hu) o_ixA (pb3_v (pv 1)) (pb3_v (pv 4)) (fun _ _ => rfl)))))) (pab3_nil)))) (pss3_fz 2 (pss3_cons (ps3_ret (pe3_tup (pa3_cons (pe3_v (pv 7)) (pa3_cons (pe3_callTy call_tupleS o_tuple rfl T.b_tuple (by decide +kernel) (pab3_cons (pb3 (pe3_lc (own := [("_law_hand", 8)]) (p := .nm 8) rfl sc_due.nd (pi3_s (pe3_callB (call_sortedS rfl hu) o_sortedS rfl T.b_sorted (by decide +kernel) (pab3_cons (pb3_v (pv 2)) (pab3_nil)))) (blkOk_by (N := N_due) (sc := defScope s_due) (by decide +kernel)) (by decide) (fun _ _ _ _ _ => pg_name (i := 8) sc_due.nd rfl (by first | exact Or.inl rfl | exact Or.inr rfl)) (fun _ _ _ _ _ _ => pts3_nil) (fun _ _ _ _ _ _ => pe3_tup (pa3_cons (pe3_v (pv 8)) (pa3_cons (pe3_ix (ix_all hu) o_ixA (pb3_v (pv 2)) (pb3_v (pv 8)) (fun _ _ => rfl)) (pa3_nil)))))) (pab3_nil))) (pa3_nil))))) (pss3_nil)))))))))
abbrev s_law : Stmt := topS 31
theorem l_law (ds A Q E) (h : (sp1 F_law) ds A Q E) : ds.length = (["_law_script"] : List Str).length := by obtain ⟨_, rfl, _⟩ := h; rfl
theorem sc_law : FnScope N_law ["_law_script"] (defScope s_law) := ⟨rfl, rfl, rfl, by decide +kernel, rfl, by decide +kernel, by decide +kernel⟩
theorem ok_law {f ct0 Pt : Addr} (TB : LamX.TabB base mg ct0 Pt) {dV kV doc pm cdv ct oc : Value} {an od : Option Addr} {osl : Array (Option Value)} (lk : K.lookup f = some ⟨oc, od, .func (PySem.W.fnOf "law" "law" (defArgs s_law) (defBody s_law) (defScope s_law) dV kV doc pm an cdv ct), osl⟩) (hcd : PySem.W.codeIn K cdv "law" = true) (T : Txt mg) (XC : ClsT K) (G_Pack_table : Def3M P w K mg base "Pack" "table" 1 ["self"] (sp1 F_Pack_table) []) (G_Pack_init__ : Def3C P w K mg base "Pack" 3 ["self", "house", "log"] (sp3 F_Pack_init__)) (G_same : Def3 P w K mg base "_law_same" 9 ["_law_found", "_law_due_here"] (sp2 (F_same 8))) (G_Pack_vector : Def3M P w K mg base "Pack" "vector" 1 ["self"] (sp1 F_Pack_vector) []) (G_due : Def3 P w K mg base "_law_due" 2 ["_law_log_here"] (sp1 F_due)) (G_logE : Def3T P w K mg base Pt "_law_log" 4 ["_law_cells", "_law_house_here"] (sp2 F_logE)) (G_houseS : Def3 P w K mg base "_law_house" 3 ["_law_cell"] (sp1 F_houseS)) (G_cell_at : Def3 P w K mg base "_law_cell_at" 1 ["_law_script", "_law_k"] (sp2 F_cell_at)) : FnOk P w K mg base CX0 10 f (PySem.W.fnOf "law" "law" (defArgs s_law) (defBody s_law) (defScope s_law) dV kV doc pm an cdv ct) ["_law_script"] (lspT K w Pt (sp1 F_law)) := by
  refine fn3T (t := b_law) lk hcd sc_law l_law (fun A outer s H E C hPt hr => ?_) m_law
  have hu := hr.units
  exact pss3_cons (ps3_set (i := 1) sc_law.nd rfl (by first | exact Or.inl rfl | exact Or.inr rfl) (pe3_fz (pe3_def G_houseS (hr.mono (by decide)) rfl (pa3_cons (pe3_def G_cell_at (hr.mono (by decide)) rfl (pa3_cons (pe3_v (pv 0)) (pa3_cons (pe3_int) (pa3_nil)))) (pa3_nil))))) (pss3_cons (ps3_set (i := 2) sc_law.nd rfl (by first | exact Or.inl rfl | exact Or.inr rfl) (pe3_fz (pe3_defT G_logE hPt (hr.mono (by decide)) rfl (pa3_cons (pe3_slice (pb3_v (pv 0)) (po3_some (pe3_int)) (po3_some (pe3_int))) (pa3_cons (pe3_v (pv 1)) (pa3_nil)))))) (pss3_fgt [3, 4, 5, 6] (pss3_cons (ps3_for (p := .nm 3) PassesOwn.never rfl (pi3_s (pe3_lst (pa3_cons (pe3_v (pv 2)) (pa3_cons (pe3_slice (pb3_v (pv 2)) (po3_none) (po3_some (pe3_op op_fdivW o_fdiv (pb3 (pe3_callB call_lenA o_len rfl T.b_len (by decide +kernel) (pab3_cons (pb3_v (pv 2)) (pab3_nil)))) (pb3 (pe3_int))))) (pa3_cons (pe3_tup (pa3_nil)) (pa3_nil)))))) (pg_name (i := 3) sc_law.nd rfl (by first | exact Or.inl rfl | exact Or.inr rfl)) (pss3_cons (ps3_asgP (p := .tp [4, 5]) (pe3_def G_due (hr.mono (by decide)) rfl (pa3_cons (pe3_v (pv 3)) (pa3_nil))) (pg_tup (by rfl) (pgs_cons (pg_name (i := 4) sc_law.nd rfl (by first | exact Or.inl rfl | exact Or.inr rfl)) (pgs_cons (pg_name (i := 5) sc_law.nd rfl (by first | exact Or.inl rfl | exact Or.inr rfl)) (pgs_nil))))) (pss3_cons (ps3_set (i := 6) sc_law.nd rfl (by first | exact Or.inl rfl | exact Or.inr rfl) (pe3_fz (pe3_make G_Pack_init__ (hr.mono (by decide)) rfl (pa3_cons (pe3_v (pv 1)) (pa3_cons (pe3_v (pv 3)) (pa3_nil)))))) (pss3_cons (ps3_if (PW.pt (pw3_or (pt3_not (pt3_val (pe3_def G_same (hr.mono (by decide)) rfl (pa3_cons (pe3_meth0 G_Pack_table (hr.mono (by decide)) (pe3_v (pv 6))) (pa3_cons (pe3_v (pv 4)) (pa3_nil)))))) (pw3_or1 (pt3_not (pt3_val (pe3_def G_same (hr.mono (by decide)) rfl (pa3_cons (pe3_meth0 G_Pack_vector (hr.mono (by decide)) (pe3_v (pv 6))) (pa3_cons (pe3_v (pv 5)) (pa3_nil))))))))) (pss3_cons (ps3_ret (pe3_bl)) (pss3_nil)) (pss3_nil)) (pss3_cons (ps3_if (PW.pt (pw3_or (pt3_cmp (op_gtP hu) o_gt (pb3 (pe3_callB call_lenA o_len rfl T.b_len (by decide +kernel) (pab3_cons (pb3 (pe3_meth0 G_Pack_table (hr.mono (by decide)) (pe3_v (pv 6)))) (pab3_nil)))) (pb3 (pe3_callB call_lenA o_len rfl T.b_len (by decide +kernel) (pab3_cons (pb3_v (pv 3)) (pab3_nil)))) (nomark _)) (pw3_or1 (pt3_cmp (op_neP hu) o_ne (pb3 (pe3_meth0 G_Pack_table (hr.mono (by decide)) (pe3_v (pv 6)))) (pb3 (pe3_meth0 G_Pack_table (hr.mono (by decide)) (pe3_make G_Pack_init__ (hr.mono (by decide)) rfl (pa3_cons (pe3_v (pv 1)) (pa3_cons (pe3_v (pv 3)) (pa3_nil)))))) (nomark _))))) (pss3_cons (ps3_ret (pe3_bl)) (pss3_nil)) (pss3_nil)) (pss3_fgt [3, 4, 5, 6] (pss3_nil))))))) (pss3_cons (ps3_ret (pe3_bl)) (pss3_nil)))))
end
theorem all_mk {l : PySem.W.OpenLaw} {w : World} {K : PySem.W.Frag} {h : Heap} {mg : Str → Option Value} {fa f0 f1 f2 f3 f4 f5 f6 f7 f8 f9 f10 f11 f12 f13 f14 f15 f16 f17 f18 f19 f20 f21 f22 f23 f24 f25 f26 f27 f28 : Addr} (X : K.In h) (G : h.Ns mainGlobals mg) (hfa : mg "law" = some (.ref fa))
    {od0 an0 od1 an1 od2 an2 od3 an3 od4 an4 od5 an5 od6 an6 od7 an7 od8 an8 od9 an9 od10 an10 od11 an11 od12 an12 od13 an13 od14 an14 od15 an15 od16 an16 od17 an17 od18 an18 od19 an19 od20 an20 od21 an21 od22 an22 od23 an23 od24 an24 od25 an25 od26 an26 od27 an27 od28 an28 : Option Addr} {sl0 sl1 sl2 sl3 sl4 sl5 sl6 sl7 sl8 sl9 sl10 sl11 sl12 sl13 sl14 sl15 sl16 sl17 sl18 sl19 sl20 sl21 sl22 sl23 sl24 sl25 sl26 sl27 sl28 : Array (Option Value)} {oc0 kV0 dc0 pm0 cd0 ct0 oc1 kV1 dc1 pm1 cd1 ct1 oc2 kV2 dc2 pm2 cd2 ct2 oc3 kV3 dc3 pm3 cd3 ct3 oc4 kV4 dc4 pm4 cd4 ct4 oc5 kV5 dc5 pm5 cd5 ct5 oc6 kV6 dc6 pm6 cd6 ct6 oc7 kV7 dc7 pm7 cd7 ct7 oc8 kV8 dc8 pm8 cd8 ct8 oc9 kV9 dc9 pm9 cd9 ct9 oc10 kV10 dc10 pm10 cd10 ct10 oc11 kV11 dc11 pm11 cd11 ct11 oc12 kV12 dc12 pm12 cd12 ct12 oc13 kV13 dc13 pm13 cd13 ct13 oc14 kV14 dc14 pm14 cd14 ct14 oc15 kV15 dc15 pm15 cd15 ct15 oc16 kV16 dc16 pm16 cd16 ct16 oc17 kV17 dc17 pm17 cd17 ct17 oc18 kV18 dc18 pm18 cd18 ct18 oc19 kV19 dc19 pm19 cd19 ct19 oc20 kV20 dc20 pm20 cd20 ct20 oc21 kV21 dc21 pm21 cd21 ct21 oc22 kV22 dc22 pm22 cd22 ct22 oc23 kV23 dc23 pm23 cd23 ct23 oc24 kV24 dc24 pm24 cd24 ct24 oc25 kV25 dc25 pm25 cd25 ct25 oc26 kV26 dc26 pm26 cd26 ct26 oc27 kV27 dc27 pm27 cd27 ct27 oc28 kV28 dc28 pm28 cd28 ct28 : Value}
    {KPack : Addr} (ac_Pack : PySem.W.nsIn K mainGlobals "Pack" = some (some (.ref KPack))) (pg_Pack : PySem.W.plainGet K KPack Str.empty = true) (hd_Pack : PySem.W.hasDictIn K KPack = true) (po_Pack : PySem.W.plainOver K KPack = true) (sa_Pack : PySem.W.findIn K (.ref KPack) "__setattr__" = some (some (.builtin "object.__setattr__"))) (mk_Pack : PySem.W.makesIn K KPack = true) (kc_Pack : PySem.W.keepIn K (.ref KPack) = true)
    (nf_Pack_house : PySem.W.findIn K (.ref KPack) "house" = some none)
    (nf_Pack_counted : PySem.W.findIn K (.ref KPack) "counted" = some none)
    (nf_Pack_entries : PySem.W.findIn K (.ref KPack) "entries" = some none)
    (a0 : PySem.W.nsIn K mainGlobals "stamp_of" = some (some (.ref f0))) (l0 : K.lookup f0 = some ⟨oc0, od0, .func (PySem.W.fnOf "stamp_of" "stamp_of" (defArgs s_stamp_of) (defBody s_stamp_of) (defScope s_stamp_of) .none kV0 dc0 pm0 an0 cd0 ct0), sl0⟩) (c0 : PySem.W.codeIn K cd0 "stamp_of" = true) (k0 : PySem.W.keepIn K (.ref f0) = true)
    (a1 : PySem.W.nsIn K mainGlobals "counts_of" = some (some (.ref f1))) (l1 : K.lookup f1 = some ⟨oc1, od1, .func (PySem.W.fnOf "counts_of" "counts_of" (defArgs s_counts_of) (defBody s_counts_of) (defScope s_counts_of) .none kV1 dc1 pm1 an1 cd1 ct1), sl1⟩) (c1 : PySem.W.codeIn K cd1 "counts_of" = true) (k1 : PySem.W.keepIn K (.ref f1) = true)
    (a2 : PySem.W.nsIn K mainGlobals "vector_of" = some (some (.ref f2))) (l2 : K.lookup f2 = some ⟨oc2, od2, .func (PySem.W.fnOf "vector_of" "vector_of" (defArgs s_vector_of) (defBody s_vector_of) (defScope s_vector_of) .none kV2 dc2 pm2 an2 cd2 ct2), sl2⟩) (c2 : PySem.W.codeIn K cd2 "vector_of" = true) (k2 : PySem.W.keepIn K (.ref f2) = true)
    (a3 : PySem.W.nsIn K mainGlobals "greater_counts" = some (some (.ref f3))) (l3 : K.lookup f3 = some ⟨oc3, od3, .func (PySem.W.fnOf "greater_counts" "greater_counts" (defArgs s_greater_counts) (defBody s_greater_counts) (defScope s_greater_counts) .none kV3 dc3 pm3 an3 cd3 ct3), sl3⟩) (c3 : PySem.W.codeIn K cd3 "greater_counts" = true) (k3 : PySem.W.keepIn K (.ref f3) = true)
    (a4 : PySem.W.nsIn K mainGlobals "entry_of" = some (some (.ref f4))) (l4 : K.lookup f4 = some ⟨oc4, od4, .func (PySem.W.fnOf "entry_of" "entry_of" (defArgs s_entry_of) (defBody s_entry_of) (defScope s_entry_of) .none kV4 dc4 pm4 an4 cd4 ct4), sl4⟩) (c4 : PySem.W.codeIn K cd4 "entry_of" = true) (k4 : PySem.W.keepIn K (.ref f4) = true)
    (a5 : PySem.W.nsIn K mainGlobals "put_into" = some (some (.ref f5))) (l5 : K.lookup f5 = some ⟨oc5, od5, .func (PySem.W.fnOf "put_into" "put_into" (defArgs s_put_into) (defBody s_put_into) (defScope s_put_into) .none kV5 dc5 pm5 an5 cd5 ct5), sl5⟩) (c5 : PySem.W.codeIn K cd5 "put_into" = true) (k5 : PySem.W.keepIn K (.ref f5) = true)
    (a6 : PySem.W.findIn K (.ref KPack) "__init__" = some (some (.ref f6))) (i6 : PySem.W.isFn K (.ref f6) = true) (l6 : K.lookup f6 = some ⟨oc6, od6, .func (PySem.W.fnOf "__init__" "Pack.__init__" (defArgs s_Pack_init__) (defBody s_Pack_init__) (defScope s_Pack_init__) .none kV6 dc6 pm6 an6 cd6 ct6), sl6⟩) (c6 : PySem.W.codeIn K cd6 "Pack.__init__" = true) (k6 : PySem.W.keepIn K (.ref f6) = true)
    (a7 : PySem.W.findIn K (.ref KPack) "table" = some (some (.ref f7))) (i7 : PySem.W.isFn K (.ref f7) = true) (l7 : K.lookup f7 = some ⟨oc7, od7, .func (PySem.W.fnOf "table" "Pack.table" (defArgs s_Pack_table) (defBody s_Pack_table) (defScope s_Pack_table) .none kV7 dc7 pm7 an7 cd7 ct7), sl7⟩) (c7 : PySem.W.codeIn K cd7 "Pack.table" = true) (k7 : PySem.W.keepIn K (.ref f7) = true)
    (a8 : PySem.W.findIn K (.ref KPack) "vector" = some (some (.ref f8))) (i8 : PySem.W.isFn K (.ref f8) = true) (l8 : K.lookup f8 = some ⟨oc8, od8, .func (PySem.W.fnOf "vector" "Pack.vector" (defArgs s_Pack_vector) (defBody s_Pack_vector) (defScope s_Pack_vector) .none kV8 dc8 pm8 an8 cd8 ct8), sl8⟩) (c8 : PySem.W.codeIn K cd8 "Pack.vector" = true) (k8 : PySem.W.keepIn K (.ref f8) = true)
    (a9 : PySem.W.nsIn K mainGlobals "_law_cell_at" = some (some (.ref f9))) (l9 : K.lookup f9 = some ⟨oc9, od9, .func (PySem.W.fnOf "_law_cell_at" "_law_cell_at" (defArgs s_cell_at) (defBody s_cell_at) (defScope s_cell_at) .none kV9 dc9 pm9 an9 cd9 ct9), sl9⟩) (c9 : PySem.W.codeIn K cd9 "_law_cell_at" = true) (k9 : PySem.W.keepIn K (.ref f9) = true)
    (a10 : PySem.W.nsIn K mainGlobals "_law_stream" = some (some (.ref f10))) (l10 : K.lookup f10 = some ⟨oc10, od10, .func (PySem.W.fnOf "_law_stream" "_law_stream" (defArgs s_streamE) (defBody s_streamE) (defScope s_streamE) .none kV10 dc10 pm10 an10 cd10 ct10), sl10⟩) (c10 : PySem.W.codeIn K cd10 "_law_stream" = true) (k10 : PySem.W.keepIn K (.ref f10) = true)
    (a11 : PySem.W.nsIn K mainGlobals "_law_words" = some (some (.ref f11))) (l11 : K.lookup f11 = some ⟨oc11, od11, .func (PySem.W.fnOf "_law_words" "_law_words" (defArgs s_wordsS) (defBody s_wordsS) (defScope s_wordsS) .none kV11 dc11 pm11 an11 cd11 ct11), sl11⟩) (c11 : PySem.W.codeIn K cd11 "_law_words" = true) (k11 : PySem.W.keepIn K (.ref f11) = true)
    (a12 : PySem.W.nsIn K mainGlobals "_law_name_in" = some (some (.ref f12))) (l12 : K.lookup f12 = some ⟨oc12, od12, .func (PySem.W.fnOf "_law_name_in" "_law_name_in" (defArgs s_name_inE) (defBody s_name_inE) (defScope s_name_inE) .none kV12 dc12 pm12 an12 cd12 ct12), sl12⟩) (c12 : PySem.W.codeIn K cd12 "_law_name_in" = true) (k12 : PySem.W.keepIn K (.ref f12) = true)
    (a13 : PySem.W.nsIn K mainGlobals "_law_house_by_digits" = some (some (.ref f13))) (l13 : K.lookup f13 = some ⟨oc13, od13, .func (PySem.W.fnOf "_law_house_by_digits" "_law_house_by_digits" (defArgs s_house_by_digitsE) (defBody s_house_by_digitsE) (defScope s_house_by_digitsE) .none kV13 dc13 pm13 an13 cd13 ct13), sl13⟩) (c13 : PySem.W.codeIn K cd13 "_law_house_by_digits" = true) (k13 : PySem.W.keepIn K (.ref f13) = true)
    (a14 : PySem.W.nsIn K mainGlobals "_law_house" = some (some (.ref f14))) (l14 : K.lookup f14 = some ⟨oc14, od14, .func (PySem.W.fnOf "_law_house" "_law_house" (defArgs s_houseS) (defBody s_houseS) (defScope s_houseS) .none kV14 dc14 pm14 an14 cd14 ct14), sl14⟩) (c14 : PySem.W.codeIn K cd14 "_law_house" = true) (k14 : PySem.W.keepIn K (.ref f14) = true)
    (a15 : PySem.W.nsIn K mainGlobals "_law_rest" = some (some (.ref f15))) (l15 : K.lookup f15 = some ⟨oc15, od15, .func (PySem.W.fnOf "_law_rest" "_law_rest" (defArgs s_rest) (defBody s_rest) (defScope s_rest) .none kV15 dc15 pm15 an15 cd15 ct15), sl15⟩) (c15 : PySem.W.codeIn K cd15 "_law_rest" = true) (k15 : PySem.W.keepIn K (.ref f15) = true)
    (a16 : PySem.W.nsIn K mainGlobals "_law_hands" = some (some (.ref f16))) (l16 : K.lookup f16 = some ⟨oc16, od16, .func (PySem.W.fnOf "_law_hands" "_law_hands" (defArgs s_handsE) (defBody s_handsE) (defScope s_handsE) .none kV16 dc16 pm16 an16 cd16 ct16), sl16⟩) (c16 : PySem.W.codeIn K cd16 "_law_hands" = true) (k16 : PySem.W.keepIn K (.ref f16) = true)
    (a17 : PySem.W.nsIn K mainGlobals "_law_message" = some (some (.ref f17))) (l17 : K.lookup f17 = some ⟨oc17, od17, .func (PySem.W.fnOf "_law_message" "_law_message" (defArgs s_messageE) (defBody s_messageE) (defScope s_messageE) .none kV17 dc17 pm17 an17 cd17 ct17), sl17⟩) (c17 : PySem.W.codeIn K cd17 "_law_message" = true) (k17 : PySem.W.keepIn K (.ref f17) = true)
    (a18 : PySem.W.nsIn K mainGlobals "_law_signs" = some (some (.ref f18))) (l18 : K.lookup f18 = some ⟨oc18, od18, .func (PySem.W.fnOf "_law_signs" "_law_signs" (defArgs s_signs) (defBody s_signs) (defScope s_signs) .none kV18 dc18 pm18 an18 cd18 ct18), sl18⟩) (c18 : PySem.W.codeIn K cd18 "_law_signs" = true) (k18 : PySem.W.keepIn K (.ref f18) = true)
    (a19 : PySem.W.nsIn K mainGlobals "_law_saying" = some (some (.ref f19))) (l19 : K.lookup f19 = some ⟨oc19, od19, .func (PySem.W.fnOf "_law_saying" "_law_saying" (defArgs s_sayingE) (defBody s_sayingE) (defScope s_sayingE) .none kV19 dc19 pm19 an19 cd19 ct19), sl19⟩) (c19 : PySem.W.codeIn K cd19 "_law_saying" = true) (k19 : PySem.W.keepIn K (.ref f19) = true)
    (a20 : PySem.W.nsIn K mainGlobals "_law_vector" = some (some (.ref f20))) (l20 : K.lookup f20 = some ⟨oc20, od20, .func (PySem.W.fnOf "_law_vector" "_law_vector" (defArgs s_vectorE) (defBody s_vectorE) (defScope s_vectorE) .none kV20 dc20 pm20 an20 cd20 ct20), sl20⟩) (c20 : PySem.W.codeIn K cd20 "_law_vector" = true) (k20 : PySem.W.keepIn K (.ref f20) = true)
    (a21 : PySem.W.nsIn K mainGlobals "_law_what" = some (some (.ref f21))) (l21 : K.lookup f21 = some ⟨oc21, od21, .func (PySem.W.fnOf "_law_what" "_law_what" (defArgs s_whatE) (defBody s_whatE) (defScope s_whatE) .none kV21 dc21 pm21 an21 cd21 ct21), sl21⟩) (c21 : PySem.W.codeIn K cd21 "_law_what" = true) (k21 : PySem.W.keepIn K (.ref f21) = true)
    (a22 : PySem.W.nsIn K mainGlobals "_law_act" = some (some (.ref f22))) (l22 : K.lookup f22 = some ⟨oc22, od22, .func (PySem.W.fnOf "_law_act" "_law_act" (defArgs s_actE) (defBody s_actE) (defScope s_actE) .none kV22 dc22 pm22 an22 cd22 ct22), sl22⟩) (c22 : PySem.W.codeIn K cd22 "_law_act" = true) (k22 : PySem.W.keepIn K (.ref f22) = true)
    (a23 : PySem.W.nsIn K mainGlobals "_law_log" = some (some (.ref f23))) (l23 : K.lookup f23 = some ⟨oc23, od23, .func (PySem.W.fnOf "_law_log" "_law_log" (defArgs s_logE) (defBody s_logE) (defScope s_logE) .none kV23 dc23 pm23 an23 cd23 ct23), sl23⟩) (c23 : PySem.W.codeIn K cd23 "_law_log" = true) (k23 : PySem.W.keepIn K (.ref f23) = true)
    (a24 : PySem.W.nsIn K mainGlobals "_law_same" = some (some (.ref f24))) (l24 : K.lookup f24 = some ⟨oc24, od24, .func (PySem.W.fnOf "_law_same" "_law_same" (defArgs s_same) (defBody s_same) (defScope s_same) .none kV24 dc24 pm24 an24 cd24 ct24), sl24⟩) (c24 : PySem.W.codeIn K cd24 "_law_same" = true) (k24 : PySem.W.keepIn K (.ref f24) = true)
    (a25 : PySem.W.nsIn K mainGlobals "_law_kept" = some (some (.ref f25))) (l25 : K.lookup f25 = some ⟨oc25, od25, .func (PySem.W.fnOf "_law_kept" "_law_kept" (defArgs s_kept) (defBody s_kept) (defScope s_kept) .none kV25 dc25 pm25 an25 cd25 ct25), sl25⟩) (c25 : PySem.W.codeIn K cd25 "_law_kept" = true) (k25 : PySem.W.keepIn K (.ref f25) = true)
    (a26 : PySem.W.nsIn K mainGlobals "_law_greater" = some (some (.ref f26))) (l26 : K.lookup f26 = some ⟨oc26, od26, .func (PySem.W.fnOf "_law_greater" "_law_greater" (defArgs s_greater) (defBody s_greater) (defScope s_greater) .none kV26 dc26 pm26 an26 cd26 ct26), sl26⟩) (c26 : PySem.W.codeIn K cd26 "_law_greater" = true) (k26 : PySem.W.keepIn K (.ref f26) = true)
    (a27 : PySem.W.nsIn K mainGlobals "_law_due" = some (some (.ref f27))) (l27 : K.lookup f27 = some ⟨oc27, od27, .func (PySem.W.fnOf "_law_due" "_law_due" (defArgs s_due) (defBody s_due) (defScope s_due) .none kV27 dc27 pm27 an27 cd27 ct27), sl27⟩) (c27 : PySem.W.codeIn K cd27 "_law_due" = true) (k27 : PySem.W.keepIn K (.ref f27) = true)
    (a28 : PySem.W.nsIn K mainGlobals "law" = some (some (.ref f28))) (l28 : K.lookup f28 = some ⟨oc28, od28, .func (PySem.W.fnOf "law" "law" (defArgs s_law) (defBody s_law) (defScope s_law) .none kV28 dc28 pm28 an28 cd28 ct28), sl28⟩) (c28 : PySem.W.codeIn K cd28 "law" = true) (k28 : PySem.W.keepIn K (.ref f28) = true)
    (z_bool : PySem.W.nsIn K mainGlobals "bool" = some none)
    (z_dict : PySem.W.nsIn K mainGlobals "dict" = some none)
    (z_int : PySem.W.nsIn K mainGlobals "int" = some none)
    (z_isinstance : PySem.W.nsIn K mainGlobals "isinstance" = some none)
    (z_len : PySem.W.nsIn K mainGlobals "len" = some none)
    (z_list : PySem.W.nsIn K mainGlobals "list" = some none)
    (z_max : PySem.W.nsIn K mainGlobals "max" = some none)
    (z_range : PySem.W.nsIn K mainGlobals "range" = some none)
    (z_sorted : PySem.W.nsIn K mainGlobals "sorted" = some none)
    (z_str : PySem.W.nsIn K mainGlobals "str" = some none)
    (z_tuple : PySem.W.nsIn K mainGlobals "tuple" = some none)
    (z_zip : PySem.W.nsIn K mainGlobals "zip" = some none)
    (nt : noTab K = true) :
    ∀ (ct0 Pt ta : Addr) (to : Obj) (tf : FuncData), mg "_law_log" = some (.ref ta) → h.get? ta = some to → to.data = .func tf → tf.code = .ref ct0 → noTab K = true ∧ ∃ fd : FuncData, (∀ (s : Shared) (v : Value), BindsTo s fd ⟨[v], []⟩ [("_law_script", v)]) ∧ ∀ base : Heap, K.In base → base.Ns mainGlobals mg → LamX.TabB base mg ct0 Pt → FnOk l.prog w K mg base CX0 10 fa fd ["_law_script"] (lspT K w Pt (sp1 (@F_law (clsK K)))) := by
  intro ct0 Pt ta to tf t1 t2 t3 t4
  have et := t1.symm.trans (PySem.W.mg_of X G a23)
  cases et
  have eo := t2.symm.trans (X _ _ l23)
  cases eo
  cases t3
  have e4 : cd23 = .ref ct0 := t4
  subst e4
  letI : Cls3 := clsK K
  have e := hfa.symm.trans (PySem.W.mg_of X G a28)
  cases e
  have T : Txt mg := ⟨PySem.W.mg_none_of X G z_bool, PySem.W.mg_none_of X G z_dict, PySem.W.mg_none_of X G z_int, PySem.W.mg_none_of X G z_isinstance, PySem.W.mg_none_of X G z_len, PySem.W.mg_none_of X G z_list, PySem.W.mg_none_of X G z_max, PySem.W.mg_none_of X G z_range, PySem.W.mg_none_of X G z_sorted, PySem.W.mg_none_of X G z_str, PySem.W.mg_none_of X G z_tuple, PySem.W.mg_none_of X G z_zip⟩
  refine ⟨nt, PySem.W.fnOf "law" "law" (defArgs s_law) (defBody s_law) (defScope s_law) .none kV28 dc28 pm28 an28 cd28 ct28, fun s v => .of_eq rfl, fun base _ _ TB => ?_⟩
  have at_Pack : Cls3.at_ "Pack" = KPack := clsK_at ac_Pack
  have XC : ClsT K := ⟨by rw [at_Pack]; exact ⟨⟨pg_Pack, hd_Pack, po_Pack, sa_Pack⟩, by intro f hf; simp only [List.mem_cons, List.not_mem_nil, or_false] at hf; rcases hf with rfl | rfl | rfl <;> assumption⟩⟩
  have F0 := fun_mk (st := s_stamp_of) l0 c0 k0
  have G_stamp_of : Def3 l.prog w K mg base "stamp_of" 1 ["deed"] (sp1 F_stamp_of) := ⟨f0, _, ok_stamp_of F0 T XC, PySem.W.mg_of X G a0, k0, F0.binds (ps := ["deed"]) fun _ _ _ _ _ _ us hl => match us, hl with | [_], _ => rfl⟩
  have F1 := fun_mk (st := s_counts_of) l1 c1 k1
  have G_counts_of : Def3 l.prog w K mg base "counts_of" 1 ["deeds"] (sp1 F_counts_of) := ⟨f1, _, ok_counts_of F1 T XC, PySem.W.mg_of X G a1, k1, F1.binds (ps := ["deeds"]) fun _ _ _ _ _ _ us hl => match us, hl with | [_], _ => rfl⟩
  have F2 := fun_mk (st := s_vector_of) l2 c2 k2
  have G_vector_of : Def3 l.prog w K mg base "vector_of" 2 ["log"] (sp1 F_vector_of) := ⟨f2, _, ok_vector_of F2 T XC G_counts_of, PySem.W.mg_of X G a2, k2, F2.binds (ps := ["log"]) fun _ _ _ _ _ _ us hl => match us, hl with | [_], _ => rfl⟩
  have F3 := fun_mk (st := s_greater_counts) l3 c3 k3
  have G_greater_counts : Def3 l.prog w K mg base "greater_counts" 1 ["one", "other"] (sp2 F_greater_counts) := ⟨f3, _, ok_greater_counts F3 T XC, PySem.W.mg_of X G a3, k3, F3.binds (ps := ["one", "other"]) fun _ _ _ _ _ _ us hl => match us, hl with | [_, _], _ => rfl⟩
  have F4 := fun_mk (st := s_entry_of) l4 c4 k4
  have G_entry_of : Def3 l.prog w K mg base "entry_of" 2 ["deed"] (sp1 F_entry_of) := ⟨f4, _, ok_entry_of F4 T XC G_stamp_of, PySem.W.mg_of X G a4, k4, F4.binds (ps := ["deed"]) fun _ _ _ _ _ _ us hl => match us, hl with | [_], _ => rfl⟩
  have F5 := fun_mk (st := s_put_into) l5 c5 k5
  have G_put_into : Def3 l.prog w K mg base "put_into" 2 ["entries", "place", "entry"] (sp3 F_put_into) := ⟨f5, _, ok_put_into F5 T XC G_greater_counts, PySem.W.mg_of X G a5, k5, F5.binds (ps := ["entries", "place", "entry"]) fun _ _ _ _ _ _ us hl => match us, hl with | [_, _, _], _ => rfl⟩
  have F6 := fun_mk (st := s_Pack_init__) l6 c6 k6
  have G_Pack_init__ : Def3C l.prog w K mg base "Pack" 3 ["self", "house", "log"] (sp3 F_Pack_init__) := ⟨f6, _, ok_Pack_init__ F6 T XC G_put_into G_entry_of G_vector_of, by rw [at_Pack]; exact ⟨mk_Pack, a6, i6, kc_Pack⟩, by rw [at_Pack]; exact PySem.W.mg_of X G ac_Pack, F6.binds (ps := ["self", "house", "log"]) fun _ _ _ _ _ _ us hl => match us, hl with | [_, _, _], _ => rfl⟩
  have F7 := fun_mk (st := s_Pack_table) l7 c7 k7
  have G_Pack_table : Def3M l.prog w K mg base "Pack" "table" 1 ["self"] (sp1 F_Pack_table) [] := ⟨f7, _, [], [], ok_Pack_table F7 T XC, by rw [at_Pack]; exact ⟨a7, i7, k7⟩, XC.k_Pack.1, F7.binds (ps := ["self"]) fun _ _ _ _ _ _ us hl => match us, hl with | [_], _ => rfl, .nil, fun _ => Rps.nil⟩
  have F8 := fun_mk (st := s_Pack_vector) l8 c8 k8
  have G_Pack_vector : Def3M l.prog w K mg base "Pack" "vector" 1 ["self"] (sp1 F_Pack_vector) [] := ⟨f8, _, [], [], ok_Pack_vector F8 T XC, by rw [at_Pack]; exact ⟨a8, i8, k8⟩, XC.k_Pack.1, F8.binds (ps := ["self"]) fun _ _ _ _ _ _ us hl => match us, hl with | [_], _ => rfl, .nil, fun _ => Rps.nil⟩
  have F9 := fun_mk (st := s_cell_at) l9 c9 k9
  have G_cell_at : Def3 l.prog w K mg base "_law_cell_at" 1 ["_law_script", "_law_k"] (sp2 F_cell_at) := ⟨f9, _, ok_cell_at F9 T XC, PySem.W.mg_of X G a9, k9, F9.binds (ps := ["_law_script", "_law_k"]) fun _ _ _ _ _ _ us hl => match us, hl with | [_, _], _ => rfl⟩
  have F10 := fun_mk (st := s_streamE) l10 c10 k10
  have G_streamE : Def3 l.prog w K mg base "_law_stream" 1 ["_law_cell", "_law_many"] sp_streamS := ⟨f10, _, ok_streamE F10 T XC, PySem.W.mg_of X G a10, k10, F10.binds (ps := ["_law_cell", "_law_many"]) fun _ _ _ _ _ _ us hl => match us, hl with | [_, _], _ => rfl⟩
  have F11 := fun_mk (st := s_wordsS) l11 c11 k11
  have G_wordsS : Def3 l.prog w K mg base "_law_words" 1 ["_law_cell", "_law_many"] sp_wordsS := ⟨f11, _, ok_wordsS F11 T XC, PySem.W.mg_of X G a11, k11, F11.binds (ps := ["_law_cell", "_law_many"]) fun _ _ _ _ _ _ us hl => match us, hl with | [_, _], _ => rfl⟩
  have F12 := fun_mk (st := s_name_inE) l12 c12 k12
  have G_name_inE : Def3 l.prog w K mg base "_law_name_in" 1 ["_law_rest_here"] sp_name_inS := ⟨f12, _, ok_name_inE F12 T XC, PySem.W.mg_of X G a12, k12, F12.binds (ps := ["_law_rest_here"]) fun _ _ _ _ _ _ us hl => match us, hl with | [_], _ => rfl⟩
  have F13 := fun_mk (st := s_house_by_digitsE) l13 c13 k13
  have G_house_by_digitsE : Def3 l.prog w K mg base "_law_house_by_digits" 2 ["_law_rest_here"] sp_house_by_digitsS := ⟨f13, _, ok_house_by_digitsE F13 T XC G_name_inE, PySem.W.mg_of X G a13, k13, F13.binds (ps := ["_law_rest_here"]) fun _ _ _ _ _ _ us hl => match us, hl with | [_], _ => rfl⟩
  have F14 := fun_mk (st := s_houseS) l14 c14 k14
  have G_houseS : Def3 l.prog w K mg base "_law_house" 3 ["_law_cell"] (sp1 F_houseS) := ⟨f14, _, ok_houseS F14 T XC G_wordsS G_streamE G_house_by_digitsE, PySem.W.mg_of X G a14, k14, F14.binds (ps := ["_law_cell"]) fun _ _ _ _ _ _ us hl => match us, hl with | [_], _ => rfl⟩
  have F15 := fun_mk (st := s_rest) l15 c15 k15
  have G_rest : Def3 l.prog w K mg base "_law_rest" 2 ["_law_cell"] (sp1 F_rest) := ⟨f15, _, ok_rest F15 T XC G_streamE, PySem.W.mg_of X G a15, k15, F15.binds (ps := ["_law_cell"]) fun _ _ _ _ _ _ us hl => match us, hl with | [_], _ => rfl⟩
  have F16 := fun_mk (st := s_handsE) l16 c16 k16
  have G_handsE : Def3 l.prog w K mg base "_law_hands" 1 ["_law_house_here"] (sp1 F_handsE) := ⟨f16, _, ok_handsE F16 T XC, PySem.W.mg_of X G a16, k16, F16.binds (ps := ["_law_house_here"]) fun _ _ _ _ _ _ us hl => match us, hl with | [_], _ => rfl⟩
  have F17 := fun_mk (st := s_messageE) l17 c17 k17
  have G_messageE : Def3 l.prog w K mg base "_law_message" 1 ["_law_rest_here", "_law_hands_here", "_law_stamps"] (sp3 F_messageE) := ⟨f17, _, ok_messageE F17 T XC, PySem.W.mg_of X G a17, k17, F17.binds (ps := ["_law_rest_here", "_law_hands_here", "_law_stamps"]) fun _ _ _ _ _ _ us hl => match us, hl with | [_, _, _], _ => rfl⟩
  have F18 := fun_mk (st := s_signs) l18 c18 k18
  have G_signs : Def3 l.prog w K mg base "_law_signs" 1 [] (sp0 F_signs) := ⟨f18, _, ok_signs F18 T XC, PySem.W.mg_of X G a18, k18, F18.binds (ps := []) fun _ _ _ _ _ _ us hl => match us, hl with | [], _ => rfl⟩
  have F19 := fun_mk (st := s_sayingE) l19 c19 k19
  have G_sayingE : Def3 l.prog w K mg base "_law_saying" 2 ["_law_rest_here", "_law_names"] (sp2 F_sayingE) := ⟨f19, _, ok_sayingE F19 T XC G_signs, PySem.W.mg_of X G a19, k19, F19.binds (ps := ["_law_rest_here", "_law_names"]) fun _ _ _ _ _ _ us hl => match us, hl with | [_, _], _ => rfl⟩
  have F20 := fun_mk (st := s_vectorE) l20 c20 k20
  have G_vectorE : Def3 l.prog w K mg base "_law_vector" 1 ["_law_rest_here", "_law_hands_here"] (sp2 F_vectorE) := ⟨f20, _, ok_vectorE F20 T XC, PySem.W.mg_of X G a20, k20, F20.binds (ps := ["_law_rest_here", "_law_hands_here"]) fun _ _ _ _ _ _ us hl => match us, hl with | [_, _], _ => rfl⟩
  have F21 := fun_mk (st := s_whatE) l21 c21 k21
  have G_whatE : Def3 l.prog w K mg base "_law_what" 2 ["_law_rest_here", "_law_house_here", "_law_hands_here", "_law_stamps"] (sp4 F_whatE) := ⟨f21, _, ok_whatE F21 T XC G_messageE, PySem.W.mg_of X G a21, k21, F21.binds (ps := ["_law_rest_here", "_law_house_here", "_law_hands_here", "_law_stamps"]) fun _ _ _ _ _ _ us hl => match us, hl with | [_, _, _, _], _ => rfl⟩
  have F22 := fun_mk (st := s_actE) l22 c22 k22
  have G_actE : Def3 l.prog w K mg base "_law_act" 3 ["_law_rest_here", "_law_house_here", "_law_hands_here", "_law_stamps"] (sp4 F_actE) := ⟨f22, _, ok_actE F22 T XC G_sayingE G_messageE G_whatE G_vectorE, PySem.W.mg_of X G a22, k22, F22.binds (ps := ["_law_rest_here", "_law_house_here", "_law_hands_here", "_law_stamps"]) fun _ _ _ _ _ _ us hl => match us, hl with | [_, _, _, _], _ => rfl⟩
  have F23 := fun_mk (st := s_logE) l23 c23 k23
  have G_logE : Def3T l.prog w K mg base Pt "_law_log" 4 ["_law_cells", "_law_house_here"] (sp2 F_logE) := ⟨f23, _, ok_logE TB l23 c23 T XC G_actE G_rest G_handsE, PySem.W.mg_of X G a23, k23, F23.binds (ps := ["_law_cells", "_law_house_here"]) fun _ _ _ _ _ _ us hl => match us, hl with | [_, _], _ => rfl⟩
  have F24 := fun_mk (st := s_same) l24 c24 k24
  have B24 : L2.Binds K _ ["_law_found", "_law_due_here"] [] := F24.binds (ps := ["_law_found", "_law_due_here"]) fun _ _ _ _ _ _ us hl => match us, hl with | [_, _], _ => rfl
  have G_same : Def3 l.prog w K mg base "_law_same" 9 ["_law_found", "_law_due_here"] (sp2 (F_same 8)) := ⟨f24, _, ok_same F24 T (PySem.W.mg_of X G a24) k24 B24 XC 8, PySem.W.mg_of X G a24, k24, B24⟩
  have F25 := fun_mk (st := s_kept) l25 c25 k25
  have G_kept : Def3 l.prog w K mg base "_law_kept" 1 ["_law_deed"] (sp1 F_kept) := ⟨f25, _, ok_kept F25 T XC, PySem.W.mg_of X G a25, k25, F25.binds (ps := ["_law_deed"]) fun _ _ _ _ _ _ us hl => match us, hl with | [_], _ => rfl⟩
  have F26 := fun_mk (st := s_greater) l26 c26 k26
  have G_greater : Def3 l.prog w K mg base "_law_greater" 1 ["_law_one", "_law_other"] (sp2 F_greater) := ⟨f26, _, ok_greater F26 T XC, PySem.W.mg_of X G a26, k26, F26.binds (ps := ["_law_one", "_law_other"]) fun _ _ _ _ _ _ us hl => match us, hl with | [_, _], _ => rfl⟩
  have F27 := fun_mk (st := s_due) l27 c27 k27
  have G_due : Def3 l.prog w K mg base "_law_due" 2 ["_law_log_here"] (sp1 F_due) := ⟨f27, _, ok_due F27 T XC G_greater G_kept, PySem.W.mg_of X G a27, k27, F27.binds (ps := ["_law_log_here"]) fun _ _ _ _ _ _ us hl => match us, hl with | [_], _ => rfl⟩
  have F28 := fun_mk (st := s_law) l28 c28 k28
  exact ok_law TB l28 c28 T XC G_Pack_table G_Pack_init__ G_same G_Pack_vector G_due G_logE G_houseS G_cell_at
theorem walk {l : PySem.W.OpenLaw} {q : Program} {loose : List Str} {XP : (Str → Option Value) → Heap → Prop} {YP : World → Heap → Prop} {d : DefRec} {K : Params → PySem.W.Frag} (hn : l.most = some 63) (hdf : d.params.defaults = [])
    (hY : ∀ (w : World) (h : Heap), YP w h → (K w.params).In h) (hrec : ((recsOf q).any fun e => e.name == "_law_log") = true)
    (F : ∀ (w : World) (mg : Str → Option Value) (fa : Addr) (h : Heap), (K w.params).In h → h.Ns mainGlobals mg → mg d.name = some (.ref fa) → ∀ (c P a : Addr) (o : Obj) (fd : FuncData), mg "_law_log" = some (.ref a) → h.get? a = some o → o.data = .func fd → fd.code = .ref c →
      noTab (K w.params) = true ∧ ∃ fd : FuncData, (∀ (s : Shared) (u : Value), BindsTo s fd ⟨[u], []⟩ [("_law_script", u)]) ∧ ∀ base : Heap, (K w.params).In base → base.Ns mainGlobals mg → LamX.TabB base mg c P → FnOk l.prog w (K w.params) mg base CX0 10 fa fd ["_law_script"] (lspT (K w.params) w P (sp1 (@F_law (clsK (K w.params)))))) :
    PySem.W.WalkO q loose XP YP l.row.toRowW d [] (fun f vs => PySem.call f vs) :=
  walk_tabK (k := 10) (x := "_law_script") (nm := "_law_log") (F := fun K => @F_law (clsK K)) hn hdf ⟨rfl, by decide, by decide⟩ hY hrec (fun K ns hl Q E A hq => @law_true (clsK K) ns hl Q E A hq) F
end T3
open PySem PySem.W PyProof.Rows in
set_option maxRecDepth 100000 in
set_option maxHeartbeats 0 in
theorem PySem.Challenge.cw_talkmarks_k60_what_a_pack_keeps_holds : PySem.Challenge.rw_talkmarks_k60_what_a_pack_keeps.Holds := by
  w_on; o_law; k_head; (case hw => w_witness2)
  k_fill
  refine T3.walk (l := PySem.Challenge.rw_talkmarks_k60_what_a_pack_keeps) rfl rfl (fun w h Y => PySem.W.km_in_of Y) (by decide +kernel) ?F
  case F =>
    intro w mg fa h KX G hmg
    refine' T3.all_mk KX G hmg ?ac_Pack ?pg_Pack ?hd_Pack ?po_Pack ?sa_Pack ?mk_Pack ?kc_Pack ?nf_Pack_house ?nf_Pack_counted ?nf_Pack_entries ?a0 ?l0 ?c0 ?k0 ?a1 ?l1 ?c1 ?k1 ?a2 ?l2 ?c2 ?k2 ?a3 ?l3 ?c3 ?k3 ?a4 ?l4 ?c4 ?k4 ?a5 ?l5 ?c5 ?k5 ?a6 ?i6 ?l6 ?c6 ?k6 ?a7 ?i7 ?l7 ?c7 ?k7 ?a8 ?i8 ?l8 ?c8 ?k8 ?a9 ?l9 ?c9 ?k9 ?a10 ?l10 ?c10 ?k10 ?a11 ?l11 ?c11 ?k11 ?a12 ?l12 ?c12 ?k12 ?a13 ?l13 ?c13 ?k13 ?a14 ?l14 ?c14 ?k14 ?a15 ?l15 ?c15 ?k15 ?a16 ?l16 ?c16 ?k16 ?a17 ?l17 ?c17 ?k17 ?a18 ?l18 ?c18 ?k18 ?a19 ?l19 ?c19 ?k19 ?a20 ?l20 ?c20 ?k20 ?a21 ?l21 ?c21 ?k21 ?a22 ?l22 ?c22 ?k22 ?a23 ?l23 ?c23 ?k23 ?a24 ?l24 ?c24 ?k24 ?a25 ?l25 ?c25 ?k25 ?a26 ?l26 ?c26 ?k26 ?a27 ?l27 ?c27 ?k27 ?a28 ?l28 ?c28 ?k28 ?z_bool ?z_dict ?z_int ?z_isinstance ?z_len ?z_list ?z_max ?z_range ?z_sorted ?z_str ?z_tuple ?z_zip ?nt
    (case ac_Pack => k_is)
    (case pg_Pack => k_is)
    (case hd_Pack => k_is)
    (case po_Pack => k_is)
    (case sa_Pack => k_is)
    (case mk_Pack => k_is)
    (case kc_Pack => k_is)
    (case nf_Pack_house => k_is)
    (case nf_Pack_counted => k_is)
    (case nf_Pack_entries => k_is)
    (case a0 => k_is)
    (case l0 => k_is)
    (case c0 => k_is)
    (case k0 => k_is)
    (case a1 => k_is)
    (case l1 => k_is)
    (case c1 => k_is)
    (case k1 => k_is)
    (case a2 => k_is)
    (case l2 => k_is)
    (case c2 => k_is)
    (case k2 => k_is)
    (case a3 => k_is)
    (case l3 => k_is)
    (case c3 => k_is)
    (case k3 => k_is)
    (case a4 => k_is)
    (case l4 => k_is)
    (case c4 => k_is)
    (case k4 => k_is)
    (case a5 => k_is)
    (case l5 => k_is)
    (case c5 => k_is)
    (case k5 => k_is)
    (case a6 => k_is)
    (case i6 => k_is)
    (case l6 => k_is)
    (case c6 => k_is)
    (case k6 => k_is)
    (case a7 => k_is)
    (case i7 => k_is)
    (case l7 => k_is)
    (case c7 => k_is)
    (case k7 => k_is)
    (case a8 => k_is)
    (case i8 => k_is)
    (case l8 => k_is)
    (case c8 => k_is)
    (case k8 => k_is)
    (case a9 => k_is)
    (case l9 => k_is)
    (case c9 => k_is)
    (case k9 => k_is)
    (case a10 => k_is)
    (case l10 => k_is)
    (case c10 => k_is)
    (case k10 => k_is)
    (case a11 => k_is)
    (case l11 => k_is)
    (case c11 => k_is)
    (case k11 => k_is)
    (case a12 => k_is)
    (case l12 => k_is)
    (case c12 => k_is)
    (case k12 => k_is)
    (case a13 => k_is)
    (case l13 => k_is)
    (case c13 => k_is)
    (case k13 => k_is)
    (case a14 => k_is)
    (case l14 => k_is)
    (case c14 => k_is)
    (case k14 => k_is)
    (case a15 => k_is)
    (case l15 => k_is)
    (case c15 => k_is)
    (case k15 => k_is)
    (case a16 => k_is)
    (case l16 => k_is)
    (case c16 => k_is)
    (case k16 => k_is)
    (case a17 => k_is)
    (case l17 => k_is)
    (case c17 => k_is)
    (case k17 => k_is)
    (case a18 => k_is)
    (case l18 => k_is)
    (case c18 => k_is)
    (case k18 => k_is)
    (case a19 => k_is)
    (case l19 => k_is)
    (case c19 => k_is)
    (case k19 => k_is)
    (case a20 => k_is)
    (case l20 => k_is)
    (case c20 => k_is)
    (case k20 => k_is)
    (case a21 => k_is)
    (case l21 => k_is)
    (case c21 => k_is)
    (case k21 => k_is)
    (case a22 => k_is)
    (case l22 => k_is)
    (case c22 => k_is)
    (case k22 => k_is)
    (case a23 => k_is)
    (case l23 => k_is)
    (case c23 => k_is)
    (case k23 => k_is)
    (case a24 => k_is)
    (case l24 => k_is)
    (case c24 => k_is)
    (case k24 => k_is)
    (case a25 => k_is)
    (case l25 => k_is)
    (case c25 => k_is)
    (case k25 => k_is)
    (case a26 => k_is)
    (case l26 => k_is)
    (case c26 => k_is)
    (case k26 => k_is)
    (case a27 => k_is)
    (case l27 => k_is)
    (case c27 => k_is)
    (case k27 => k_is)
    (case a28 => k_is)
    (case l28 => k_is)
    (case c28 => k_is)
    (case k28 => k_is)
    (case z_bool => k_is)
    (case z_dict => k_is)
    (case z_int => k_is)
    (case z_isinstance => k_is)
    (case z_len => k_is)
    (case z_list => k_is)
    (case z_max => k_is)
    (case z_range => k_is)
    (case z_sorted => k_is)
    (case z_str => k_is)
    (case z_tuple => k_is)
    (case z_zip => k_is)
    (case nt => kernel_rfl)
