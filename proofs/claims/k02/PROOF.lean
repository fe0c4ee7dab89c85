import PyProof.Rows.All
import Wide.All
import OpenK.AllK
import Wide.FinOn
import HandS.ForMost
import HandS.ForExc
import HandS.Walk
import HandS.Zip
import HandS.Rev
import HandS.Conv
import HandS.IsInst
import HandS.Wide
import HandS.SortOrd
import KE.KDictKeyed
import KE.GoesEnum
import KE.GoesMore
import KE.GoesZip
import PyProof.DictFindH
import KE.KDictCopyH
import HandS.TupAny
import HandS.TupMul
import KE.LtData
import KE.SortData
import PyProof.P3In
import PyProof.Rows.InDataRows
import HandS.TupLen
import KE.DataMinMax
import KE.DataFind
import PyProof.SumAny
import HandS.Deep
import KE.KDictPairs
import HandS.DictComp
import HandS.Iter
import HandS.Defaults
import HandS.WordsExc
import HandS.ExcOwn
import HandS.Exc
import HandS.Style
import PySem.Challenge.RW_ringdoors_k02_ticks_one_by_one
import KE.KStateDown
import HandS.Head0
import HandS.Head1
import HandS.Head2
import HandS.HeadEnd
import HandS.HeadHook1
import HandS.HeadHook2
set_option Elab.async false
set_option linter.all false
set_option maxRecDepth 20000
/-! DL0: data, how it lies in the hand layer's heap, the lifts. -/
namespace DL
open PySem L2

/-- the types that are asked for -/
inductive TyN where
  | int | bool | str | tuple | list | none | dict
  deriving DecidableEq
def TyN.name : TyN → String
  | .int => "int"
  | .bool => "bool"
  | .str => "str"
  | .tuple => "tuple"
  | .list => "list"
  | .none => "NoneType"
  | .dict => "dict"
/-- a value as pure data; ref: a list, a dict, a def or class; cst: a list that nobody changes (the script) -/
inductive D where
  | non
  | bl (b : Bool)
  | int (i : Int)
  | str (x : Str)
  | tup (ds : List D)
  | ref (a : Nat)
  | ty (n : TyN)
  | cst (ds : List D)

mutual
def D.eqb : D → D → Bool
  | .non, .non => true
  | .bl a, .bl b => a == b
  | .int a, .int b => decide (a = b)
  | .str a, .str b => decide (a = b)
  | .tup a, .tup b => D.eqbs a b
  | .ref a, .ref b => decide (a = b)
  | .ty a, .ty b => decide (a = b)
  | .cst a, .cst b => D.eqbs a b
  | _, _ => false
def D.eqbs : List D → List D → Bool
  | [], [] => true
  | a :: as, b :: bs => D.eqb a b && D.eqbs as bs
  | _, _ => false
end
mutual
theorem D.eqb_refl : ∀ a : D, D.eqb a a = true
  | .non => rfl
  | .bl a => by simp [D.eqb]
  | .int a => by simp [D.eqb]
  | .str a => by simp [D.eqb]
  | .tup a => by rw [D.eqb]; exact D.eqbs_refl a
  | .ref a => by simp [D.eqb]
  | .ty a => by simp [D.eqb]
  | .cst a => by rw [D.eqb]; exact D.eqbs_refl a
theorem D.eqbs_refl : ∀ a : List D, D.eqbs a a = true
  | [] => rfl
  | a :: as => by rw [D.eqbs, D.eqb_refl a, D.eqbs_refl as]; rfl
end
mutual
theorem D.eqb_eq : ∀ a b : D, D.eqb a b = true → a = b := by
  intro a b h
  match a, b with
  | .non, b => cases b <;> simp_all [D.eqb]
  | .bl a, b => cases b <;> simp_all [D.eqb]
  | .int a, b => cases b <;> simp_all [D.eqb]
  | .str a, b => cases b <;> simp_all [D.eqb]
  | .tup a, b =>
    match b with
    | .tup b =>
      rw [D.eqb] at h
      rw [D.eqbs_eq a b h]
    | .non | .bl _ | .int _ | .str _ | .ref _ | .ty _ | .cst _ => simp [D.eqb] at h
  | .ref a, b => cases b <;> simp_all [D.eqb]
  | .ty a, b => cases b <;> simp_all [D.eqb]
  | .cst a, b =>
    match b with
    | .cst b =>
      rw [D.eqb] at h
      rw [D.eqbs_eq a b h]
    | .non | .bl _ | .int _ | .str _ | .ref _ | .ty _ | .tup _ => simp [D.eqb] at h
theorem D.eqbs_eq : ∀ a b : List D, D.eqbs a b = true → a = b
  | [], [], _ => rfl
  | [], _ :: _, h => by simp [D.eqbs] at h
  | _ :: _, [], h => by simp [D.eqbs] at h
  | a :: as, b :: bs, h => by
    rw [D.eqbs, Bool.and_eq_true] at h
    rw [D.eqb_eq a b h.1, D.eqbs_eq as bs h.2]
end
instance : DecidableEq D := fun a b =>
  if h : D.eqb a b = true then isTrue (D.eqb_eq a b h) else isFalse (fun e => h (by rw [e]; exact D.eqb_refl b))

/-- a mutable object; rdc: a dict that is locked -/
inductive MO where
  | lst (ds : List D)
  | dct (kvs : List (D × D))
  | rdc (kvs : List (D × D))
abbrev MH := Nat → Option MO
def up (M : MH) (a : Nat) (o : MO) : MH := fun b => if b = a then some o else M b
@[simp] theorem up_same {M : MH} {a : Nat} {o : MO} : up M a o a = some o := by unfold up; rw [if_pos rfl]
theorem up_ne {M : MH} {a b : Nat} {o : MO} (h : b ≠ a) : up M a o b = M b := by unfold up; rw [if_neg h]
theorem up_up {M : MH} {a : Nat} {o u : MO} : up (up M a o) a u = up M a u := by
  funext b; unfold up; split <;> rfl
/-- all of M stands in M' -/
def Sub (M M' : MH) : Prop := ∀ a o, M a = some o → M' a = some o
theorem Sub.refl (M : MH) : Sub M M := fun _ _ h => h
theorem Sub.trans {M M1 M2 : MH} (a : Sub M M1) (b : Sub M1 M2) : Sub M M2 := fun x o h => b x o (a x o h)
theorem Sub.new {M : MH} {a : Nat} {o : MO} (h : M a = none) : Sub M (up M a o) := fun b u e => by
  rw [up_ne (by intro z; rw [z, h] at e; cases e)]; exact e

/-! ### how data lies in the heap of tuples -/
/-- a list that nobody changes -/
def CsL (K : PySem.W.Frag) (H : Hp) (a : Nat) (xs : List V) : Prop :=
  (∃ o, H a = some (.frz o (.lst xs))) ∨
    ∃ (o : Obj) (its : Array Value) (n : Nat), K.lookup a = some o ∧ o.cls = .type "list" ∧ o.dict = none ∧ o.data = .seq its n ∧ its.size ≤ sizeLine ∧ Vals xs its.toList
theorem CsL.sq {K : PySem.W.Frag} {H : Hp} {a : Nat} {xs : List V} (h : CsL K H a xs) : SqL K H a xs := by
  rcases h with ⟨o, h⟩ | h
  · exact .inl (.inr ⟨o, h⟩)
  · exact .inr h
mutual
inductive Rp (K : PySem.W.Frag) (H : Hp) : D → V → Prop
  | non : Rp K H .non .non
  | bl (b : Bool) : Rp K H (.bl b) (.bl b)
  | int (i : Int) : Rp K H (.int i) (.int i)
  | str (x : Str) : Rp K H (.str x) (.str x)
  | ref (a : Nat) : Rp K H (.ref a) (.ref a)
  | ty (n : TyN) : Rp K H (.ty n) (.ty n.name)
  | tup {ds : List D} {a : Nat} {vs : List V} (h : H a = some (.tup vs)) (r : Rps K H ds vs) : Rp K H (.tup ds) (.ref a)
  | cst {ds : List D} {a : Nat} {vs : List V} (h : CsL K H a vs) (r : Rps K H ds vs) : Rp K H (.cst ds) (.ref a)
inductive Rps (K : PySem.W.Frag) (H : Hp) : List D → List V → Prop
  | nil : Rps K H [] []
  | cons {d : D} {v : V} {ds : List D} {vs : List V} (r : Rp K H d v) (rs : Rps K H ds vs) : Rps K H (d :: ds) (v :: vs)
end
/-- tuples and locked lists stay -/
structure Tups (H H' : Hp) : Prop where
  t : ∀ a xs, H a = some (.tup xs) → H' a = some (.tup xs)
  f : ∀ a o xs, H a = some (.frz o (.lst xs)) → H' a = some (.frz o (.lst xs))
theorem CsL.mono {K : PySem.W.Frag} {H H' : Hp} {a : Nat} {xs : List V} (t : Tups H H') (h : CsL K H a xs) : CsL K H' a xs := by
  rcases h with ⟨o, h⟩ | h
  · exact .inl ⟨o, t.f _ _ _ h⟩
  · exact .inr h
theorem Tups.refl (H : Hp) : Tups H H := ⟨fun _ _ h => h, fun _ _ _ h => h⟩
theorem Tups.trans {H H1 H2 : Hp} (a : Tups H H1) (b : Tups H1 H2) : Tups H H2 := ⟨fun x xs h => b.t x xs (a.t x xs h), fun x o xs h => b.f x o xs (a.f x o xs h)⟩
/-- and all that is locked -/
structure Tz (H H' : Hp) : Prop where
  w : Tups H H'
  z : ∀ a u x, H a = some (.frz u x) → H' a = some (.frz u x)
theorem Tz.refl (H : Hp) : Tz H H := ⟨Tups.refl H, fun _ _ _ h => h⟩
theorem Tz.trans {H H1 H2 : Hp} (a : Tz H H1) (b : Tz H1 H2) : Tz H H2 := ⟨a.w.trans b.w, fun x u y h => b.z x u y (a.z x u y h)⟩
mutual
theorem Rp.mono {K : PySem.W.Frag} {H H' : Hp} (t : Tups H H') : ∀ {d : D} {v : V}, Rp K H d v → Rp K H' d v
  | _, _, .non => .non
  | _, _, .bl b => .bl b
  | _, _, .int i => .int i
  | _, _, .str x => .str x
  | _, _, .ref a => .ref a
  | _, _, .ty n => .ty n
  | _, _, .tup h r => .tup (t.t _ _ h) (Rps.mono t r)
  | _, _, .cst h r => .cst (h.mono t) (Rps.mono t r)
theorem Rps.mono {K : PySem.W.Frag} {H H' : Hp} (t : Tups H H') : ∀ {ds : List D} {vs : List V}, Rps K H ds vs → Rps K H' ds vs
  | _, _, .nil => .nil
  | _, _, .cons r rs => .cons (Rp.mono t r) (Rps.mono t rs)
end
theorem Rps.length {K : PySem.W.Frag} {H : Hp} : ∀ {ds : List D} {vs : List V}, Rps K H ds vs → ds.length = vs.length
  | _, _, .nil => rfl
  | _, _, .cons _ rs => by rw [List.length_cons, List.length_cons, Rps.length rs]
theorem Rps.get {K : PySem.W.Frag} {H : Hp} : ∀ {ds : List D} {vs : List V} {i : Nat} {d : D}, Rps K H ds vs → ds[i]? = some d → ∃ v, vs[i]? = some v ∧ Rp K H d v
  | _, _, _, _, .nil, e => by simp at e
  | _, _, 0, _, .cons r _, e => by simp at e; subst e; exact ⟨_, rfl, r⟩
  | _, _, i + 1, d, .cons _ t, e => by
    obtain ⟨u, h1, h2⟩ := Rps.get (i := i) (d := d) t (by simpa using e)
    exact ⟨u, by simpa using h1, h2⟩
theorem Rps.getV {K : PySem.W.Frag} {H : Hp} : ∀ {ds : List D} {vs : List V} {i : Nat} {v : V}, Rps K H ds vs → vs[i]? = some v → ∃ d, ds[i]? = some d ∧ Rp K H d v
  | _, _, _, _, .nil, e => by simp at e
  | _, _, 0, _, .cons r _, e => by simp at e; subst e; exact ⟨_, rfl, r⟩
  | _, _, i + 1, v, .cons _ t, e => by
    obtain ⟨u, h1, h2⟩ := Rps.getV (i := i) (v := v) t (by simpa using e)
    exact ⟨u, by simpa using h1, h2⟩
theorem Rps.append {K : PySem.W.Frag} {H : Hp} : ∀ {xs ys : List D} {us ws : List V}, Rps K H xs us → Rps K H ys ws → Rps K H (xs ++ ys) (us ++ ws)
  | _, _, _, _, .nil, s => s
  | _, _, _, _, .cons r t, s => .cons r (Rps.append t s)
theorem Rps.set {K : PySem.W.Frag} {H : Hp} {x : D} {u : V} (r : Rp K H x u) : ∀ {xs : List D} {us : List V} (i : Nat), Rps K H xs us → Rps K H (xs.set i x) (us.set i u)
  | _, _, _, .nil => .nil
  | _, _, 0, .cons _ t => .cons r t
  | _, _, i + 1, .cons q t => .cons q (Rps.set r i t)
theorem Rps.take {K : PySem.W.Frag} {H : Hp} : ∀ {xs : List D} {us : List V} (n : Nat), Rps K H xs us → Rps K H (xs.take n) (us.take n)
  | _, _, 0, _ => .nil
  | _, _, _ + 1, .nil => .nil
  | _, _, n + 1, .cons r t => .cons r (Rps.take n t)
theorem Rps.drop {K : PySem.W.Frag} {H : Hp} : ∀ {xs : List D} {us : List V} (n : Nat), Rps K H xs us → Rps K H (xs.drop n) (us.drop n)
  | _, _, 0, r => r
  | _, _, _ + 1, .nil => .nil
  | _, _, n + 1, .cons _ t => Rps.drop n t
theorem Rps.eraseIdx {K : PySem.W.Frag} {H : Hp} : ∀ {xs : List D} {us : List V} (i : Nat), Rps K H xs us → Rps K H (xs.eraseIdx i) (us.eraseIdx i)
  | _, _, _, .nil => .nil
  | _, _, 0, .cons _ t => t
  | _, _, i + 1, .cons q t => .cons q (Rps.eraseIdx i t)
theorem Rps.reverse {K : PySem.W.Frag} {H : Hp} : ∀ {xs : List D} {us : List V}, Rps K H xs us → Rps K H xs.reverse us.reverse
  | _, _, .nil => .nil
  | _, _, .cons r t => by
    rw [List.reverse_cons, List.reverse_cons]
    exact (Rps.reverse t).append (.cons r .nil)
theorem Rps.rep {K : PySem.W.Frag} {H : Hp} {xs : List D} {us : List V} (h : Rps K H xs us) : ∀ k : Nat, Rps K H (List.replicate k xs).flatten (List.replicate k us).flatten
  | 0 => .nil
  | k + 1 => by
    rw [List.replicate_succ, List.replicate_succ, List.flatten_cons, List.flatten_cons]
    exact h.append (Rps.rep h k)
theorem Rps.split {K : PySem.W.Frag} {H : Hp} : ∀ {xs ys : List D} {us : List V}, Rps K H (xs ++ ys) us → ∃ u1 u2, us = u1 ++ u2 ∧ Rps K H xs u1 ∧ Rps K H ys u2
  | [], _, us, h => ⟨[], us, rfl, .nil, h⟩
  | x :: xs, ys, _, .cons r t => by
    obtain ⟨u1, u2, e, r1, r2⟩ := Rps.split (xs := xs) t
    exact ⟨_ :: u1, u2, by rw [e]; rfl, .cons r r1, r2⟩
theorem Rps.none_of {K : PySem.W.Frag} {H : Hp} {xs : List D} {us : List V} {i : Nat} (r : Rps K H xs us) (e : xs[i]? = none) : us[i]? = none := by
  rw [List.getElem?_eq_none_iff] at e ⊢
  rw [← r.length]; exact e

/-! ### keys -/
mutual
/-- the key that a value is, where it is made of whole numbers, texts, None and tuples -/
def kyOf : D → Option NestedKey
  | .non => some .none
  | .int i => some (.num i)
  | .str x => some (.text x)
  | .tup ds => (kysOf ds).map .tup
  | .bl _ => none
  | .ref _ => none
  | .ty _ => none
  | .cst _ => none
def kysOf : List D → Option (List NestedKey)
  | [] => some []
  | d :: ds => match kyOf d, kysOf ds with
    | some k, some ks => some (k :: ks)
    | _, _ => none
end
mutual
theorem kyOf_inj : ∀ (a b : D) (k : NestedKey), kyOf a = some k → kyOf b = some k → a = b := by
  intro a b k ha hb
  match a, b with
  | .non, .non => rfl
  | .int i, .int j =>
    simp only [kyOf, Option.some.injEq] at ha hb
    rw [← ha] at hb
    injection hb with e
    rw [e]
  | .str i, .str j =>
    simp only [kyOf, Option.some.injEq] at ha hb
    rw [← ha] at hb
    injection hb with e
    rw [e]
  | .non, .int _ | .non, .str _ | .int _, .non | .int _, .str _ | .str _, .non | .str _, .int _ =>
    simp only [kyOf, Option.some.injEq] at ha hb
    rw [← ha] at hb
    cases hb
  | .non, .tup _ | .int _, .tup _ | .str _, .tup _ =>
    simp only [kyOf, Option.some.injEq, Option.map_eq_some_iff] at ha hb
    obtain ⟨ks, e1, e2⟩ := hb
    rw [← ha] at e2
    cases e2
  | .non, .bl _ | .non, .ref _ | .non, .ty _ | .int _, .bl _ | .int _, .ref _ | .int _, .ty _ | .str _, .bl _ | .str _, .ref _ | .str _, .ty _ | .non, .cst _ | .int _, .cst _ | .str _, .cst _ => simp [kyOf] at hb
  | .tup as, b =>
    match b with
    | .tup bs =>
      simp only [kyOf, Option.map_eq_some_iff] at ha hb
      obtain ⟨ks, e1, rfl⟩ := ha
      obtain ⟨ks', e2, e3⟩ := hb
      injection e3 with e3
      subst e3
      rw [kysOf_inj as bs _ e1 e2]
    | .non | .int _ | .str _ =>
      simp only [kyOf, Option.map_eq_some_iff] at ha hb
      obtain ⟨ks, e1, rfl⟩ := ha
      simp at hb
    | .bl _ | .ref _ | .ty _ | .cst _ => simp [kyOf] at hb
  | .bl _, _ | .ref _, _ | .ty _, _ | .cst _, _ => simp [kyOf] at ha
theorem kysOf_inj : ∀ (a b : List D) (k : List NestedKey), kysOf a = some k → kysOf b = some k → a = b
  | [], [], _, _, _ => rfl
  | [], b :: bs, k, h1, h2 => by
    simp only [kysOf, Option.some.injEq] at h1
    subst h1
    rw [kysOf] at h2
    split at h2 <;> simp at h2
  | a :: as, [], k, h1, h2 => by
    simp only [kysOf, Option.some.injEq] at h2
    subst h2
    rw [kysOf] at h1
    split at h1 <;> simp at h1
  | a :: as, b :: bs, k, h1, h2 => by
    rw [kysOf] at h1 h2
    split at h1
    · rename_i k1 ks1 e1 e2
      split at h2
      · rename_i k2 ks2 e3 e4
        rw [← Option.some.inj h1] at h2
        have z := Option.some.inj h2
        injection z with z1 z2
        subst z1 z2
        rw [kyOf_inj a b _ e1 e3, kysOf_inj as bs _ e2 e4]
      · cases h2
    · cases h1
end

def aget : List (D × D) → D → Option D
  | [], _ => none
  | (k, v) :: r, x => if k = x then some v else aget r x
def aput : List (D × D) → D → D → List (D × D)
  | [], x, y => [(x, y)]
  | (k, v) :: r, x, y => if k = x then (k, y) :: r else (k, v) :: aput r x y
def akeys (kvs : List (D × D)) : List D := kvs.map (·.1)

end DL

set_option Elab.async false
set_option linter.all false
set_option maxRecDepth 20000
/-! DL1: the abstract heap of lists and dicts over the hand layer's, the lifts of readings. -/
namespace DL
open PySem L2 PyProof.Rows

/-- what is fixed through a law -/
structure G where
  P : Program
  w : World
  K : PySem.W.Frag
  mg : Str → Option Value
abbrev gOf (X : Cx) : G := ⟨X.prog, X.w, X.K, X.mg⟩

abbrev KRow := NestedKey × Nat × Value
/-- one entry of a dict -/
def ERp (K : PySem.W.Frag) (H : Hp) (p : D × D) (q : KRow) : Prop := kyOf p.1 = some q.1 ∧ q.1.depth ≤ 8 ∧ Rp K H p.1 (.ref q.2.1) ∧ ∃ v, RelV v q.2.2 ∧ Rp K H p.2 v
/-- the object o is a dict with the pairs kvs -/
def DOk (g : G) (H : Hp) (o : Obj) (kvs : List (D × D)) : Prop :=
  kvs.length ≤ sizeLine ∧ ∃ (xs : List KRow) (es : Array DictEntry) (ep : Nat), o.ExactDict ∧ o.data = .dict es ep ∧
    es.toList = xs.map (entryOfKey (nestedKind g.P g.w)) ∧ (xs.map (·.1)).Nodup ∧ Paired (ERp g.K H) kvs xs
/-- the object itself, told by identity -/
abbrev isO (a : Nat) (o : Obj) : HO := .ext fun h => h.get? a = some o
def ORp (g : G) (H : Hp) (a : Nat) : MO → Prop
  | .lst ds => ∃ vs, H a = some (.lst vs) ∧ Rps g.K H ds vs
  | .dct kvs => ∃ o, H a = some (isO a o) ∧ DOk g H o kvs ∧ (a == sysModules) = false
  | .rdc kvs => ∃ o u, H a = some (.frz u (isO a o)) ∧ DOk g H o kvs ∧ (a == sysModules) = false
def MR (g : G) (H : Hp) (M : MH) : Prop := ∀ a o, M a = some o → ORp g H a o

theorem ERp.mono {K : PySem.W.Frag} {H H' : Hp} (t : Tups H H') {p : D × D} {q : KRow} (h : ERp K H p q) : ERp K H' p q :=
  let ⟨h1, h2, h3, v, h4, h5⟩ := h; ⟨h1, h2, h3.mono t, v, h4, h5.mono t⟩
theorem DOk.mono {g : G} {H H' : Hp} {o : Obj} {kvs : List (D × D)} (t : Tups H H') (h : DOk g H o kvs) : DOk g H' o kvs :=
  let ⟨hl, xs, es, ep, h1, h2, h3, h4, h5⟩ := h; ⟨hl, xs, es, ep, h1, h2, h3, h4, Paired.mapP h5 fun _ _ z => z.mono t⟩
theorem MR.sub {g : G} {H : Hp} {M M' : MH} (h : MR g H M') (s : Sub M M') : MR g H M := fun a o e => h a o (s a o e)
theorem MR.dom {g : G} {H : Hp} {M : MH} (h : MR g H M) {a : Nat} {o : MO} (e : M a = some o) : H a ≠ none := by
  have q := h a o e
  cases o with
  | lst ds => obtain ⟨vs, q, _⟩ := q; rw [q]; exact fun z => nomatch z
  | dct kvs => obtain ⟨ob, q, _⟩ := q; rw [q]; exact fun z => nomatch z
  | rdc kvs => obtain ⟨ob, u, q, _⟩ := q; rw [q]; exact fun z => nomatch z
theorem MR.free {g : G} {H : Hp} {M : MH} (h : MR g H M) {a : Nat} (e : H a = none) : M a = none := by
  cases q : M a with
  | none => rfl
  | some o => exact absurd e (h.dom q)

/-- how heaps go on -/
structure Ev (H : Hp) (M : MH) (H' : Hp) (M' : MH) : Prop where
  tz : Tz H H'
  dom : ∀ a, H a ≠ none → H' a ≠ none
  new : ∀ a, H a ≠ none → M a = none → M' a = none
  keep : ∀ a o, H a = some o → M a = none → H' a = some o
theorem Ev.tup {H : Hp} {M : MH} {H' : Hp} {M' : MH} (e : Ev H M H' M') : Tups H H' := e.tz.w
theorem Ev.refl (H : Hp) (M : MH) : Ev H M H M := ⟨Tz.refl H, fun _ h => h, fun _ _ h => h, fun _ _ h _ => h⟩
theorem Ev.trans {H H1 H2 : Hp} {M M1 M2 : MH} (a : Ev H M H1 M1) (b : Ev H1 M1 H2 M2) : Ev H M H2 M2 :=
  ⟨a.tz.trans b.tz, fun x h => b.dom x (a.dom x h), fun x h e => b.new x (a.dom x h) (a.new x h e),
    fun x o h e => b.keep x o (a.keep x o h e) (a.new x (by rw [h]; exact fun z => nomatch z) e)⟩
theorem Ev.sub {H H1 : Hp} {M M1 M2 : MH} (a : Ev H M H1 M1) (s : Sub M2 M1) : Ev H M H1 M2 :=
  ⟨a.tz, a.dom, fun x h e => (by
    cases q : M2 x with
    | none => rfl
    | some o => have z := s x o q; rw [a.new x h e] at z; cases z), a.keep⟩
theorem Tups.upd {H : Hp} {p : Nat} {o : HO} (h1 : ∀ xs, H p ≠ some (.tup xs)) (h2 : ∀ u xs, H p ≠ some (.frz u (.lst xs))) : Tups H (upd H p o) :=
  ⟨fun a xs h => by rw [upd_ne (by intro z; rw [z] at h; exact h1 xs h)]; exact h, fun a u xs h => by rw [upd_ne (by intro z; rw [z] at h; exact h2 u xs h)]; exact h⟩
theorem Tups.upd0 {H : Hp} {p : Nat} {o : HO} (hp : H p = none) : Tups H (L2.upd H p o) :=
  Tups.upd (fun xs e => by rw [hp] at e; cases e) (fun u xs e => by rw [hp] at e; cases e)
theorem Tz.upd {H : Hp} {p : Nat} {o : HO} (h1 : ∀ xs, H p ≠ some (.tup xs)) (h2 : ∀ u x, H p ≠ some (.frz u x)) : Tz H (L2.upd H p o) :=
  ⟨Tups.upd h1 (fun u xs => h2 u _), fun a u x h => by rw [upd_ne (by intro z; rw [z] at h; exact h2 u x h)]; exact h⟩
theorem Tz.upd0 {H : Hp} {p : Nat} {o : HO} (hp : H p = none) : Tz H (L2.upd H p o) :=
  Tz.upd (fun xs e => by rw [hp] at e; cases e) (fun u xs e => by rw [hp] at e; cases e)
/-- a new tracked object -/
theorem Ev.upd {H : Hp} {M : MH} {p : Nat} {o : HO} (hp : H p = none) : Ev H M (L2.upd H p o) M :=
  ⟨Tz.upd0 hp, fun a h => (by
    by_cases e : a = p
    · rw [e, hp] at h; exact absurd rfl h
    · rw [upd_ne e]; exact h), fun _ _ h => h, fun a o h _ => by rw [upd_ne (ne_of_none h hp)]; exact h⟩
theorem Ev.up {H : Hp} {M : MH} {p : Nat} {o : HO} {u : MO} (hp : H p = none) : Ev H M (L2.upd H p o) (DL.up M p u) :=
  ⟨Tz.upd0 hp, (Ev.upd (M := M) hp).dom, fun a h e => by rw [up_ne (by intro z; rw [z] at h; exact h hp)]; exact e, (Ev.upd (M := M) hp).keep⟩
/-- a written object -/
theorem Ev.put {H : Hp} {M : MH} {p : Nat} {o : HO} {u u0 : MO} (hp : M p = some u0) (t : Tz H (L2.upd H p o)) : Ev H M (L2.upd H p o) (DL.up M p u) :=
  ⟨t, fun a h => (by
    by_cases e : a = p
    · rw [e, upd_same]; exact (fun z => nomatch z)
    · rw [upd_ne e]; exact h), fun a h e => by rw [up_ne (by intro z; rw [z, hp] at e; cases e)]; exact e,
    fun a o h e => by rw [upd_ne (by intro z; rw [z, hp] at e; cases e)]; exact h⟩

/-- an exception, as data: its class's name, its field most -/
structure DX where
  cls : Str
  most : Option Int
def XRel (g : G) (H : Hp) (x : DX) (c : Value) (d : Option Nat) : Prop :=
  g.mg x.cls = some c ∧ ∀ n, x.most = some n → ∃ da, d = some da ∧ H da = some (.xd [(("most" : Str), .int n)])

abbrev DS := List (Option D)
abbrev DQ := D → MH → Prop
abbrev DW := DX → MH → Prop
abbrev DTE := DW → DS → MH → DQ → Prop
abbrev DTT := DW → DS → MH → (Bool → MH → Prop) → Prop
abbrev DTA := DW → DS → MH → (List D → MH → Prop) → Prop
structure DEnds where
  nx : DS → MH → Prop
  rt : DQ
  bk : DS → MH → Prop
  ct : DS → MH → Prop
abbrev DTS := DW → DEnds → DS → MH → Prop
abbrev DSpec := List D → MH → DQ → DW → Prop
abbrev DR2 := D → D → MH → DQ → Prop
abbrev DR1 := D → MH → DQ → Prop
abbrev DRn := List D → MH → DQ → Prop

def Er (K : PySem.W.Frag) (H : Hp) (δ : DS) (σ : L2.St) : Prop := δ.length = σ.length ∧ ∀ (i : Nat) (d : D), δ[i]? = some (some d) → ∃ v, σ[i]? = some (some v) ∧ Rp K H d v
theorem Er.mono {K : PySem.W.Frag} {H H' : Hp} {δ : DS} {σ : L2.St} (h : Er K H δ σ) (t : Tups H H') : Er K H' δ σ := ⟨h.1, fun i d e => let ⟨v, a, b⟩ := h.2 i d e; ⟨v, a, b.mono t⟩⟩
theorem Er.set {K : PySem.W.Frag} {H : Hp} {δ : DS} {σ : L2.St} {d : D} {v : V} (h : Er K H δ σ) (i : Nat) (r : Rp K H d v) : Er K H (δ.set i (some d)) (σ.set i (some v)) := by
  refine ⟨by rw [List.length_set, List.length_set]; exact h.1, fun j e q => ?_⟩
  by_cases hj : i = j
  · subst hj
    by_cases hl : i < δ.length
    · rw [List.getElem?_set_self hl] at q
      cases q
      exact ⟨v, List.getElem?_set_self (by rw [← h.1]; exact hl), r⟩
    · rw [List.getElem?_eq_none (by rw [List.length_set]; omega)] at q; cases q
  · rw [List.getElem?_set_ne hj] at q
    obtain ⟨u, a, b⟩ := h.2 j e q
    exact ⟨u, by rw [List.getElem?_set_ne hj]; exact a, b⟩

def Kt (g : G) (H : Hp) (M : MH) (Qd : DQ) (Q : VK) : Prop := ∀ (d : D) (v : V) (H' : Hp) (M' : MH), MR g H' M' → Rp g.K H' d v → Ev H M H' M' → Qd d M' → Q v H'
def Kb (g : G) (H : Hp) (M : MH) (Qd : Bool → MH → Prop) (Q : Bool → Hp → Prop) : Prop := ∀ (b : Bool) (H' : Hp) (M' : MH), MR g H' M' → Ev H M H' M' → Qd b M' → Q b H'
def Ka (g : G) (H : Hp) (M : MH) (Qd : List D → MH → Prop) (Q : List V → Hp → Prop) : Prop := ∀ (ds : List D) (vs : List V) (H' : Hp) (M' : MH), MR g H' M' → Rps g.K H' ds vs → Ev H M H' M' → Qd ds M' → Q vs H'
def Kn (g : G) (H : Hp) (M : MH) (Qd : DS → MH → Prop) (Q : L2.St → Hp → Prop) : Prop := ∀ (δ : DS) (σ : L2.St) (H' : Hp) (M' : MH), MR g H' M' → Er g.K H' δ σ → Ev H M H' M' → Qd δ M' → Q σ H'
def Kw (g : G) (W : XK) (H : Hp) (M : MH) (Wd : DW) : Prop := ∀ (x : DX) (c : Value) (d : Option Nat) (H' : Hp) (M' : MH), XRel g H' x c d → MR g H' M' → Ev H M H' M' → Wd x M' → W c d H'
theorem Kt.fwd {g : G} {H H1 : Hp} {M M1 : MH} {Qd : DQ} {Q : VK} (k : Kt g H M Qd Q) (e : Ev H M H1 M1) : Kt g H1 M1 Qd Q := fun d v H' M' a b c q => k d v H' M' a b (e.trans c) q
theorem Kb.fwd {g : G} {H H1 : Hp} {M M1 : MH} {Qd : Bool → MH → Prop} {Q : Bool → Hp → Prop} (k : Kb g H M Qd Q) (e : Ev H M H1 M1) : Kb g H1 M1 Qd Q := fun d H' M' a c q => k d H' M' a (e.trans c) q
theorem Ka.fwd {g : G} {H H1 : Hp} {M M1 : MH} {Qd : List D → MH → Prop} {Q : List V → Hp → Prop} (k : Ka g H M Qd Q) (e : Ev H M H1 M1) : Ka g H1 M1 Qd Q := fun d v H' M' a b c q => k d v H' M' a b (e.trans c) q
theorem Kn.fwd {g : G} {H H1 : Hp} {M M1 : MH} {Qd : DS → MH → Prop} {Q : L2.St → Hp → Prop} (k : Kn g H M Qd Q) (e : Ev H M H1 M1) : Kn g H1 M1 Qd Q := fun d v H' M' a b c q => k d v H' M' a b (e.trans c) q
theorem Kw.fwd {g : G} {W : XK} {H H1 : Hp} {M M1 : MH} {Wd : DW} (k : Kw g W H M Wd) (e : Ev H M H1 M1) : Kw g W H1 M1 Wd := fun x c d H' M' a b f q => k x c d H' M' a b (e.trans f) q
structure At (g : G) (W : XK) (σ : L2.St) (H : Hp) (δ : DS) (M : MH) (Wd : DW) : Prop where
  er : Er g.K H δ σ
  mr : MR g H M
  kw : Kw g W H M Wd
theorem At.fwd {g : G} {W : XK} {σ : L2.St} {H H1 : Hp} {δ : DS} {M M1 : MH} {Wd : DW} (a : At g W σ H δ M Wd) (m : MR g H1 M1) (e : Ev H M H1 M1) : At g W σ H1 δ M1 Wd := ⟨a.er.mono e.tup, m, a.kw.fwd e⟩
structure Ke (g : G) (H : Hp) (M : MH) (Dd : DEnds) (Dn : Ends) : Prop where
  nx : Kn g H M Dd.nx Dn.nx
  rt : Kt g H M Dd.rt Dn.rt
  bk : Kn g H M Dd.bk Dn.bk
  ct : Kn g H M Dd.ct Dn.ct
theorem Ke.fwd {g : G} {H H1 : Hp} {M M1 : MH} {Dd : DEnds} {Dn : Ends} (k : Ke g H M Dd Dn) (e : Ev H M H1 M1) : Ke g H1 M1 Dd Dn := ⟨k.nx.fwd e, k.rt.fwd e, k.bk.fwd e, k.ct.fwd e⟩

def liftE (g : G) (W : XK) (t : DTE) : TE := fun σ H Q => ∃ δ M Wd Qd, At g W σ H δ M Wd ∧ t Wd δ M Qd ∧ Kt g H M Qd Q
def liftT (g : G) (W : XK) (t : DTT) : TT := fun σ H Q => ∃ δ M Wd Qd, At g W σ H δ M Wd ∧ t Wd δ M Qd ∧ Kb g H M Qd Q
def liftA (g : G) (W : XK) (t : DTA) : TA := fun σ H Q => ∃ δ M Wd Qd, At g W σ H δ M Wd ∧ t Wd δ M Qd ∧ Ka g H M Qd Q
def liftS (g : G) (W : XK) (t : DTS) : TS := fun Dn σ H => ∃ δ M Wd Dd, At g W σ H δ M Wd ∧ t Wd Dd δ M ∧ Ke g H M Dd Dn
def liftR2 (g : G) (r : DR2) : R2 := fun x y H Q => ∃ d e M Qd, Rp g.K H d x ∧ Rp g.K H e y ∧ MR g H M ∧ r d e M Qd ∧ Kt g H M Qd Q
def liftR1 (g : G) (r : DR1) : V → Hp → VK → Prop := fun x H Q => ∃ d M Qd, Rp g.K H d x ∧ MR g H M ∧ r d M Qd ∧ Kt g H M Qd Q
def liftRn (g : G) (r : DRn) : List V → Hp → VK → Prop := fun xs H Q => ∃ ds M Qd, Rps g.K H ds xs ∧ MR g H M ∧ r ds M Qd ∧ Kt g H M Qd Q
def liftSp (g : G) (sp : DSpec) : Sp := fun vs H Q E => ∃ ds M Qd Wd, Rps g.K H ds vs ∧ MR g H M ∧ sp ds M Qd Wd ∧ Kt g H M Qd Q ∧ Kw g E H M Wd

theorem pe_imp {X : Cx} {e : Expr} {t t' : TE} (h : PE X e t) (i : ∀ σ H Q, t' σ H Q → t σ H Q) : PE X e t' := ⟨fun pins s σ H Q I q => h.run pins s σ H Q I (i σ H Q q)⟩
theorem pt_imp {X : Cx} {e : Expr} {t t' : TT} (h : PT X e t) (i : ∀ σ H Q, t' σ H Q → t σ H Q) : PT X e t' := ⟨fun pins s σ H Q I q => h.run pins s σ H Q I (i σ H Q q)⟩
theorem pw_imp {X : Cx} {e : Expr} {t t' : TT} (h : PW X e t) (i : ∀ σ H Q, t' σ H Q → t σ H Q) : PW X e t' := ⟨fun wh pins s σ H Q I q => h.run wh pins s σ H Q I (i σ H Q q)⟩
theorem pa_imp {X : Cx} {e : List Expr} {t t' : TA} (h : PA X e t) (i : ∀ σ H Q, t' σ H Q → t σ H Q) : PA X e t' := ⟨fun pos pins s σ H Q I q => h.run pos pins s σ H Q I (i σ H Q q)⟩
theorem ps_imp {X : Cx} {e : Stmt} {t t' : TS} (h : PS X e t) (i : ∀ D σ H, t' D σ H → t D σ H) : PS X e t' := ⟨fun pins s σ H D I q => h.run pins s σ H D I (i D σ H q)⟩
theorem pss_imp {X : Cx} {e : List Stmt} {t t' : TS} (h : PSs X e t) (i : ∀ D σ H, t' D σ H → t D σ H) : PSs X e t' := ⟨fun pins s σ H D I q => h.run pins s σ H D I (i D σ H q)⟩

/-! ### the combinators of meanings -/
def dVar (i : Nat) : DTE := fun _ δ M Q => ∃ d, δ[i]? = some (some d) ∧ Q d M
def dC (d : D) : DTE := fun _ _ M Q => Q d M
def dBin (r : DR2) (a b : DTE) : DTE := fun W δ M Q => a W δ M fun x M1 => b W δ M1 fun y M2 => r x y M2 Q
def dUn (r : DR1) (a : DTE) : DTE := fun W δ M Q => a W δ M fun x M1 => r x M1 Q
/-- a value that is a truth, as a test -/
def dB (a : DTE) : DTT := fun W δ M Q => a W δ M fun x M1 => ∃ b, x = .bl b ∧ Q b M1
def dAndT (a b : DTT) : DTT := fun W δ M Q => a W δ M fun c M1 => if c = true then b W δ M1 Q else Q false M1
def dOrT (a b : DTT) : DTT := fun W δ M Q => a W δ M fun c M1 => if c = true then Q true M1 else b W δ M1 Q
def dNotT (a : DTT) : DTT := fun W δ M Q => a W δ M fun c M1 => Q (!c) M1
def dAnd (a b : DTE) : DTE := fun W δ M Q => a W δ M fun x M1 => ∃ c, x = .bl c ∧ if c = true then b W δ M1 Q else Q (.bl false) M1
def dOr (a b : DTE) : DTE := fun W δ M Q => a W δ M fun x M1 => ∃ c, x = .bl c ∧ if c = true then Q (.bl true) M1 else b W δ M1 Q
def dNot (a : DTE) : DTE := fun W δ M Q => a W δ M fun x M1 => ∃ c, x = .bl c ∧ Q (.bl (!c)) M1
def dIfe (c : DTT) (a b : DTE) : DTE := fun W δ M Q => c W δ M fun k M1 => if k = true then a W δ M1 Q else b W δ M1 Q
def dChain (r r' : DR2) (a b c : DTE) : DTE := fun W δ M Q => a W δ M fun x M1 => b W δ M1 fun y M2 => r x y M2 fun z M3 => ∃ k, z = .bl k ∧
  if k = true then c W δ M3 fun u M4 => r' y u M4 Q else Q (.bl false) M3
def dNil : DTA := fun _ _ M Q => Q [] M
def dCons (a : DTE) (b : DTA) : DTA := fun W δ M Q => a W δ M fun x M1 => b W δ M1 fun xs M2 => Q (x :: xs) M2
def dTup (a : DTA) : DTE := fun W δ M Q => a W δ M fun xs M1 => xs.length ≤ sizeLine ∧ Q (.tup xs) M1
def dLst (a : DTA) : DTE := fun W δ M Q => a W δ M fun xs M1 => xs.length ≤ sizeLine ∧ ∀ p, M1 p = none → Q (.ref p) (up M1 p (.lst xs))
def dCall (sp : DSpec) (a : DTA) : DTE := fun W δ M Q => a W δ M fun xs M1 => sp xs M1 Q W
def dFn (r : DRn) (a : DTA) : DTE := fun W δ M Q => a W δ M fun xs M1 => r xs M1 Q
/-- what was there ahead stands still: what is new is let go -/
def dPure (a : DTE) : DTE := fun W δ M Q => a W δ M fun x M1 => Sub M M1 ∧ Q x M

section
variable {X : Cx} {W : XK} {a b c : Expr} {ta tb tc : DTE} {pos : Pos}
theorem de_pure (h : PE X a (liftE (gOf X) W ta)) : PE X a (liftE (gOf X) W (dPure ta)) := pe_imp h fun σ H Q ⟨δ, M, Wd, Qd, at_, q, k⟩ =>
  ⟨δ, M, Wd, _, at_, q, fun d v H' M' mr rp ev ⟨sb, qq⟩ => k d v H' M (mr.sub sb) rp (ev.sub sb) qq⟩
theorem de_var {i : Nat} {x : Str} (hN : X.N[i]? = some x) (hv : Vis X.env.scope x) (hd : (x == ("__debug__" : Str)) = false) (hcd : (x == ("__classdict__" : Str)) = false) : PE X (.Name x pos) (liftE (gOf X) W (dVar i)) :=
  pe_imp (pe_var hN hv hd hcd) fun σ H Q ⟨δ, M, Wd, Qd, at_, ⟨d, e, q⟩, k⟩ => let ⟨v, ev, r⟩ := at_.er.2 i d e; ⟨v, ev, k d v H M at_.mr r (Ev.refl _ _) q⟩
theorem de_const {d : D} {v : V} {e : Expr} (h : PE X e (tC v)) (r : ∀ H, Rp X.K H d v) : PE X e (liftE (gOf X) W (dC d)) :=
  pe_imp h fun σ H Q ⟨δ, M, Wd, Qd, at_, q, k⟩ => k d v H M at_.mr (r H) (Ev.refl _ _) q
theorem bin_imp {r : DR2} {σ : L2.St} {H : Hp} {Q : VK} (h : liftE (gOf X) W (dBin r ta tb) σ H Q) : tOp (liftR2 (gOf X) r) (liftE (gOf X) W ta) (liftE (gOf X) W tb) σ H Q := by
  obtain ⟨δ, M, Wd, Qd, at_, q, k⟩ := h
  refine ⟨δ, M, Wd, _, at_, q, fun d v H1 M1 m1 r1 e1 q1 => ?_⟩
  refine ⟨δ, M1, Wd, _, at_.fwd m1 e1, q1, fun d2 v2 H2 M2 m2 r2 e2 q2 => ?_⟩
  exact ⟨d, d2, M2, Qd, r1.mono e2.tup, r2, m2, q2, k.fwd (e1.trans e2)⟩
theorem de_bin {op : Operator} {r : DR2} (ho : OpR X (binaryOp op) (liftR2 (gOf X) r)) (ha : PE X a (liftE (gOf X) W ta)) (hb : PE X b (liftE (gOf X) W tb)) : PE X (.BinOp a op b pos) (liftE (gOf X) W (dBin r ta tb)) :=
  pe_imp (pe_op ho ha hb) fun σ H Q h => bin_imp h
theorem de_cmp {op : CmpOp} {r : DR2} (ho : OpR X (compareOp op) (liftR2 (gOf X) r)) (ha : PE X a (liftE (gOf X) W ta)) (hb : PE X b (liftE (gOf X) W tb)) (hm : behindInMarks op b = false) : PE X (.Compare a [op] [b] pos) (liftE (gOf X) W (dBin r ta tb)) :=
  pe_imp (pe_cmpR ho ha hb hm) fun σ H Q h => bin_imp h
theorem b_imp {t : DTE} {σ : L2.St} {H : Hp} {Q : Bool → Hp → Prop} (h : liftT (gOf X) W (dB t) σ H Q) : liftE (gOf X) W t σ H (fun x H' => ∃ k, x = .bl k ∧ Q k H') := by
  obtain ⟨δ, M, Wd, Qd, at_, q, k⟩ := h
  refine ⟨δ, M, Wd, _, at_, q, fun d v H1 M1 m1 r1 e1 ⟨b, eb, q1⟩ => ?_⟩
  subst eb
  cases r1
  exact ⟨b, rfl, k b H1 M1 m1 e1 q1⟩
theorem dt_cmp {op : CmpOp} {r : DR2} (ho : OpR X (compareOp op) (liftR2 (gOf X) r)) (ha : PE X a (liftE (gOf X) W ta)) (hb : PE X b (liftE (gOf X) W tb)) (hm : behindInMarks op b = false) : PT X (.Compare a [op] [b] pos) (liftT (gOf X) W (dB (dBin r ta tb))) :=
  pt_imp (pt_cmpR ho ha hb hm) fun σ H Q h => bin_imp (b_imp h)
theorem dt_val {e : Expr} {t : DTE} (h : PE X e (liftE (gOf X) W t)) (he : ∀ whole, isTrue e X.env whole = (do let v ← whole; standAt e.pos; holding [v] (truthy v))) : PT X e (liftT (gOf X) W (dB t)) :=
  pt_imp (pt_val h he) fun σ H Q q => b_imp q
theorem chain_imp {r r' : DR2} {σ : L2.St} {H : Hp} {Q : VK} (h : liftE (gOf X) W (dChain r r' ta tb tc) σ H Q) :
    tChain (liftR2 (gOf X) r) (liftR2 (gOf X) r') (liftE (gOf X) W ta) (liftE (gOf X) W tb) (liftE (gOf X) W tc) σ H Q := by
  obtain ⟨δ, M, Wd, Qd, at_, q, k⟩ := h
  refine ⟨δ, M, Wd, _, at_, q, fun d v H1 M1 m1 r1 e1 q1 => ?_⟩
  refine ⟨δ, M1, Wd, _, at_.fwd m1 e1, q1, fun d2 v2 H2 M2 m2 r2 e2 q2 => ?_⟩
  refine ⟨d, d2, M2, _, r1.mono e2.tup, r2, m2, q2, fun d3 v3 H3 M3 m3 r3 e3 ⟨b, eb, q3⟩ => ?_⟩
  subst eb
  cases r3
  refine ⟨b, rfl, ?_⟩
  cases b with
  | false => exact k _ _ H3 M3 m3 (.bl false) ((e1.trans e2).trans e3) q3
  | true => exact ⟨δ, M3, Wd, _, at_.fwd m3 ((e1.trans e2).trans e3), q3, fun d4 v4 H4 M4 m4 r4 e4 q4 => ⟨d2, d4, M4, Qd, r2.mono (e3.trans e4).tup, r4, m4, q4, k.fwd (((e1.trans e2).trans e3).trans e4)⟩⟩
end
end DL

set_option Elab.async false
set_option linter.all false
set_option maxRecDepth 20000
/-! DL2: and, or, calls, displays, statements, targets, while. -/
namespace DL
open PySem L2 PyProof.Rows
section
variable {X : Cx} {W : XK} {a b c : Expr} {rest : List Expr} {ta tb tc : DTE} {ua ub : DTT} {pos : Pos}
theorem dt_and1 (ha : PT X a (liftT (gOf X) W ua)) : PW X (.BoolOp .And [a] pos) (liftT (gOf X) W ua) := pw_and1 ha
theorem dt_or1 (ha : PT X a (liftT (gOf X) W ua)) : PW X (.BoolOp .Or [a] pos) (liftT (gOf X) W ua) := pw_or1 ha
theorem dt_and (ha : PT X a (liftT (gOf X) W ua)) (hb : PW X (.BoolOp .And (b :: rest) pos) (liftT (gOf X) W ub)) : PW X (.BoolOp .And (a :: b :: rest) pos) (liftT (gOf X) W (dAndT ua ub)) :=
  pw_imp (pw_and ha hb) fun σ H Q ⟨δ, M, Wd, Qd, at_, q, k⟩ => ⟨δ, M, Wd, _, at_, q, fun v H1 M1 m1 e1 q1 => by
    cases v with
    | true => exact ⟨δ, M1, Wd, Qd, at_.fwd m1 e1, q1, k.fwd e1⟩
    | false => exact k false H1 M1 m1 e1 q1⟩
theorem dt_or (ha : PT X a (liftT (gOf X) W ua)) (hb : PW X (.BoolOp .Or (b :: rest) pos) (liftT (gOf X) W ub)) : PW X (.BoolOp .Or (a :: b :: rest) pos) (liftT (gOf X) W (dOrT ua ub)) :=
  pw_imp (pw_or ha hb) fun σ H Q ⟨δ, M, Wd, Qd, at_, q, k⟩ => ⟨δ, M, Wd, _, at_, q, fun v H1 M1 m1 e1 q1 => by
    cases v with
    | false => exact ⟨δ, M1, Wd, Qd, at_.fwd m1 e1, q1, k.fwd e1⟩
    | true => exact k true H1 M1 m1 e1 q1⟩
theorem dt_not (ha : PT X a (liftT (gOf X) W ua)) : PT X (.UnaryOp .Not a pos) (liftT (gOf X) W (dNotT ua)) :=
  pt_imp (pt_not ha) fun σ H Q ⟨δ, M, Wd, Qd, at_, q, k⟩ => ⟨δ, M, Wd, _, at_, q, fun v H1 M1 m1 e1 q1 => k _ H1 M1 m1 e1 q1⟩
theorem de_one {op : BoolOp} (ha : PE X a (liftE (gOf X) W ta)) : PE X (.BoolOp op [a] pos) (liftE (gOf X) W ta) := pe_one ha
theorem de_and (ha : PE X a (liftE (gOf X) W ta)) (hb : PE X (.BoolOp .And (b :: rest) pos) (liftE (gOf X) W tb)) : PE X (.BoolOp .And (a :: b :: rest) pos) (liftE (gOf X) W (dAnd ta tb)) :=
  pe_imp (pe_and ha hb) fun σ H Q ⟨δ, M, Wd, Qd, at_, q, k⟩ => ⟨δ, M, Wd, _, at_, q, fun d v H1 M1 m1 r1 e1 ⟨z, ez, q1⟩ => by
    subst ez
    cases r1
    refine ⟨z, rfl, ?_⟩
    cases z with
    | true => exact ⟨δ, M1, Wd, Qd, at_.fwd m1 e1, q1, k.fwd e1⟩
    | false => exact k _ _ H1 M1 m1 (.bl false) e1 q1⟩
theorem de_or (ha : PE X a (liftE (gOf X) W ta)) (hb : PE X (.BoolOp .Or (b :: rest) pos) (liftE (gOf X) W tb)) : PE X (.BoolOp .Or (a :: b :: rest) pos) (liftE (gOf X) W (dOr ta tb)) :=
  pe_imp (pe_or ha hb) fun σ H Q ⟨δ, M, Wd, Qd, at_, q, k⟩ => ⟨δ, M, Wd, _, at_, q, fun d v H1 M1 m1 r1 e1 ⟨z, ez, q1⟩ => by
    subst ez
    cases r1
    refine ⟨z, rfl, ?_⟩
    cases z with
    | false => exact ⟨δ, M1, Wd, Qd, at_.fwd m1 e1, q1, k.fwd e1⟩
    | true => exact k _ _ H1 M1 m1 (.bl true) e1 q1⟩
theorem de_not (ha : PE X a (liftE (gOf X) W ta)) : PE X (.UnaryOp .Not a pos) (liftE (gOf X) W (dNot ta)) :=
  pe_imp (pe_not ha) fun σ H Q ⟨δ, M, Wd, Qd, at_, q, k⟩ => ⟨δ, M, Wd, _, at_, q, fun d v H1 M1 m1 r1 e1 ⟨z, ez, q1⟩ => by
    subst ez
    cases r1
    exact ⟨z, rfl, k _ _ H1 M1 m1 (.bl _) e1 q1⟩⟩
theorem de_ife (hc : PT X c (liftT (gOf X) W ua)) (ha : PE X a (liftE (gOf X) W ta)) (hb : PE X b (liftE (gOf X) W tb)) : PE X (.IfExp c a b pos) (liftE (gOf X) W (dIfe ua ta tb)) :=
  pe_imp (pe_ifExp hc ha hb) fun σ H Q ⟨δ, M, Wd, Qd, at_, q, k⟩ => ⟨δ, M, Wd, _, at_, q, fun v H1 M1 m1 e1 q1 => by
    cases v with
    | true => exact ⟨δ, M1, Wd, Qd, at_.fwd m1 e1, q1, k.fwd e1⟩
    | false => exact ⟨δ, M1, Wd, Qd, at_.fwd m1 e1, q1, k.fwd e1⟩⟩
theorem de_un {op : UnaryOp} {r : DR1} (ho : UnR X (unaryOp op) (liftR1 (gOf X) r)) (ha : PE X a (liftE (gOf X) W ta)) : PE X (.UnaryOp op a pos) (liftE (gOf X) W (dUn r ta)) :=
  pe_imp (pe_un ho ha) fun σ H Q ⟨δ, M, Wd, Qd, at_, q, k⟩ => ⟨δ, M, Wd, _, at_, q, fun d v H1 M1 m1 r1 e1 q1 => ⟨d, M1, Qd, r1, m1, q1, k.fwd e1⟩⟩
theorem da_nil : PA X [] (liftA (gOf X) W dNil) := pa_imp pa_nil fun σ H Q ⟨δ, M, Wd, Qd, at_, q, k⟩ => k [] [] H M at_.mr .nil (Ev.refl _ _) q
theorem da_cons {es : List Expr} {t : DTA} (ha : PE X a (liftE (gOf X) W ta)) (hr : PA X es (liftA (gOf X) W t)) (hs : starEach (a :: es) X.env = (false, eval a X.env) :: starEach es X.env) : PA X (a :: es) (liftA (gOf X) W (dCons ta t)) :=
  pa_imp (pa_cons ha hr hs) fun σ H Q ⟨δ, M, Wd, Qd, at_, q, k⟩ => ⟨δ, M, Wd, _, at_, q, fun d v H1 M1 m1 r1 e1 q1 =>
    ⟨δ, M1, Wd, _, at_.fwd m1 e1, q1, fun ds vs H2 M2 m2 r2 e2 q2 => k (d :: ds) (v :: vs) H2 M2 m2 (.cons (r1.mono e2.tup) r2) (e1.trans e2) q2⟩⟩
/-- elsewhere than where M looks -/
theorem MR.ext {g : G} {H : Hp} {M : MH} {p : Nat} {o : HO} (m : MR g H M) (t : Tups H (upd H p o)) (hp : M p = none) : MR g (upd H p o) M := fun a x e => by
  have hb : a ≠ p := by intro z; rw [z, hp] at e; cases e
  have q := m a x e
  cases x with
  | lst ds => obtain ⟨us, h1, h2⟩ := q; exact ⟨us, by rw [upd_ne hb]; exact h1, h2.mono t⟩
  | dct kvs => obtain ⟨ob, h1, h2, h3⟩ := q; exact ⟨ob, by rw [upd_ne hb]; exact h1, h2.mono t, h3⟩
  | rdc kvs => obtain ⟨ob, u', h1, h2, h3⟩ := q; exact ⟨ob, u', by rw [upd_ne hb]; exact h1, h2.mono t, h3⟩
/-- a new or written object -/
theorem MR.at {g : G} {H : Hp} {M : MH} {p : Nat} {o : HO} {u : MO} (m : MR g H M) (t : Tups H (upd H p o)) (h : ORp g (upd H p o) p u) : MR g (upd H p o) (up M p u) := fun a x e => by
  by_cases hb : a = p
  · subst hb
    rw [up_same] at e
    cases e
    exact h
  · rw [up_ne hb] at e
    have q := m a x e
    cases x with
    | lst ds => obtain ⟨us, h1, h2⟩ := q; exact ⟨us, by rw [upd_ne hb]; exact h1, h2.mono t⟩
    | dct kvs => obtain ⟨ob, h1, h2, h3⟩ := q; exact ⟨ob, by rw [upd_ne hb]; exact h1, h2.mono t, h3⟩
    | rdc kvs => obtain ⟨ob, u', h1, h2, h3⟩ := q; exact ⟨ob, u', by rw [upd_ne hb]; exact h1, h2.mono t, h3⟩
theorem MR.newT {g : G} {H : Hp} {M : MH} {p : Nat} {vs : List V} (m : MR g H M) (hp : H p = none) : MR g (upd H p (.tup vs)) M := m.ext (Tups.upd0 hp) (m.free hp)
theorem MR.newL {g : G} {H : Hp} {M : MH} {p : Nat} {ds : List D} {vs : List V} (m : MR g H M) (hp : H p = none) (r : Rps g.K H ds vs) : MR g (upd H p (.lst vs)) (up M p (.lst ds)) :=
  m.at (Tups.upd0 hp) ⟨vs, upd_same, r.mono (Tups.upd0 hp)⟩
/-- a list written -/
theorem MR.putL {g : G} {H : Hp} {M : MH} {p : Nat} {ds0 ds : List D} {vs : List V} (m : MR g H M) (hp : M p = some (.lst ds0)) (r : Rps g.K H ds vs) : MR g (upd H p (.lst vs)) (up M p (.lst ds)) ∧ Ev H M (upd H p (.lst vs)) (up M p (.lst ds)) := by
  obtain ⟨us, h1, h2⟩ := m p _ hp
  have t : Tz H (upd H p (.lst vs)) := Tz.upd (fun xs e => by rw [h1] at e; cases e) (fun u xs e => by rw [h1] at e; cases e)
  exact ⟨m.at t.w ⟨vs, upd_same, r.mono t.w⟩, Ev.put hp t⟩
theorem MR.list {g : G} {H : Hp} {M : MH} {p : Nat} {ds : List D} (m : MR g H M) (hp : M p = some (.lst ds)) : ∃ vs, H p = some (.lst vs) ∧ Rps g.K H ds vs := m p _ hp
theorem de_tup {es : List Expr} {t : DTA} {x1 : Nat} (h : PA X es (liftA (gOf X) W t)) : PE X (.Tuple es x1 pos) (liftE (gOf X) W (dTup t)) :=
  pe_imp (pe_tup h) fun σ H Q ⟨δ, M, Wd, Qd, at_, q, k⟩ => ⟨δ, M, Wd, _, at_, q, fun ds vs H1 M1 m1 r1 e1 ⟨hl, q1⟩ =>
    ⟨by rw [← r1.length]; exact hl, fun p hp => k (.tup ds) (.ref p) _ M1 (m1.newT hp) (.tup upd_same (r1.mono (Ev.upd (M := M1) hp).tup)) (e1.trans (Ev.upd hp)) q1⟩⟩
end
section
variable {X : Cx} {W : XK} {a b c : Expr} {rest : List Expr} {ta tb tc : DTE} {ua ub : DTT} {pos : Pos}
theorem de_lst {es : List Expr} {t : DTA} (h : PA X es (liftA (gOf X) W t)) : PE X (.List es pos) (liftE (gOf X) W (dLst t)) :=
  pe_imp (pe_lst h) fun σ H Q ⟨δ, M, Wd, Qd, at_, q, k⟩ => ⟨δ, M, Wd, _, at_, q, fun ds vs H1 M1 m1 r1 e1 ⟨hl, q1⟩ =>
    ⟨by rw [← r1.length]; exact hl, fun p hp => k (.ref p) (.ref p) _ _ (m1.newL hp r1) (.ref p) (e1.trans (Ev.up hp)) (q1 p (m1.free hp))⟩⟩
theorem tupsOf {H H1 : Hp} {M M1 : MH} (e : Ev H M H1 M1) : Tups H H1 := e.tup

/-! ### statements -/
def dSeq (t u : DTS) : DTS := fun W D δ M => t W { D with nx := u W D } δ M
def dNext : DTS := fun _ D δ M => D.nx δ M
def dDrop (t : DTE) : DTS := fun W D δ M => t W δ M fun _ M1 => D.nx δ M1
def dRet (t : DTE) : DTS := fun W D δ M => t W δ M D.rt
def dRetN : DTS := fun _ D _ M => D.rt .non M
def dIf (c : DTT) (t u : DTS) : DTS := fun W D δ M => c W δ M fun b M1 => if b = true then t W D δ M1 else u W D δ M1
def dNever : DTS := fun _ _ _ _ => False
theorem dss_nil : PSs X [] (liftS (gOf X) W dNext) := pss_imp pss_nil fun Dn σ H ⟨δ, M, Wd, Dd, at_, q, k⟩ => k.nx δ σ H M at_.mr at_.er (Ev.refl _ _) q
theorem seq_imp {t u : DTS} {Dn : Ends} {σ : L2.St} {H : Hp} (h : liftS (gOf X) W (dSeq t u) Dn σ H) : tSeq (liftS (gOf X) W t) (liftS (gOf X) W u) Dn σ H := by
  obtain ⟨δ, M, Wd, Dd, at_, q, k⟩ := h
  exact ⟨δ, M, Wd, _, at_, q, ⟨fun δ' σ' H' M' mr er ev q' => ⟨δ', M', Wd, Dd, ⟨er, mr, at_.kw.fwd ev⟩, q', k.fwd ev⟩, k.rt, k.bk, k.ct⟩⟩
theorem dss_cons {s : Stmt} {ss : List Stmt} {t u : DTS} (h1 : PS X s (liftS (gOf X) W t)) (h2 : PSs X ss (liftS (gOf X) W u)) : PSs X (s :: ss) (liftS (gOf X) W (dSeq t u)) :=
  pss_imp (pss_cons h1 h2) fun Dn σ H h => seq_imp h
theorem ds_never {s : Stmt} : PS X s (liftS (gOf X) W dNever) := ps_imp ps_never fun Dn σ H ⟨_, _, _, _, _, q, _⟩ => q
theorem dss_never {s : List Stmt} : PSs X s (liftS (gOf X) W dNever) := pss_imp pss_never fun Dn σ H ⟨_, _, _, _, _, q, _⟩ => q
theorem ds_pass : PS X (.Pass pos) (liftS (gOf X) W dNext) := ps_imp ps_pass fun Dn σ H ⟨δ, M, Wd, Dd, at_, q, k⟩ => k.nx δ σ H M at_.mr at_.er (Ev.refl _ _) q
theorem ds_expr (ha : PE X a (liftE (gOf X) W ta)) (hs : swapsWith a none pos.line X.env = pure false) : PS X (.Expr a pos) (liftS (gOf X) W (dDrop ta)) :=
  ps_imp (ps_expr ha hs) fun Dn σ H ⟨δ, M, Wd, Dd, at_, q, k⟩ => ⟨δ, M, Wd, _, at_, q, fun d v H1 M1 m1 r1 e1 q1 => k.nx δ σ H1 M1 m1 (at_.er.mono e1.tup) e1 q1⟩
theorem ds_ret (ha : PE X a (liftE (gOf X) W ta)) : PS X (.Return (some a) pos) (liftS (gOf X) W (dRet ta)) :=
  ps_imp (ps_ret ha) fun Dn σ H ⟨δ, M, Wd, Dd, at_, q, k⟩ => ⟨δ, M, Wd, _, at_, q, k.rt⟩
theorem ds_retN : PS X (.Return none pos) (liftS (gOf X) W dRetN) :=
  ps_imp ps_retN fun Dn σ H ⟨δ, M, Wd, Dd, at_, q, k⟩ => k.rt _ _ H M at_.mr .non (Ev.refl _ _) q
theorem ds_if {s1 s2 : List Stmt} {t u : DTS} (hc : PT X c (liftT (gOf X) W ua)) (h1 : PSs X s1 (liftS (gOf X) W t)) (h2 : PSs X s2 (liftS (gOf X) W u)) : PS X (.If c s1 s2 pos) (liftS (gOf X) W (dIf ua t u)) :=
  ps_imp (ps_if hc h1 h2) fun Dn σ H ⟨δ, M, Wd, Dd, at_, q, k⟩ => ⟨δ, M, Wd, _, at_, q, fun b H1 M1 m1 e1 q1 => by
    cases b with
    | true => exact ⟨δ, M1, Wd, Dd, at_.fwd m1 e1, q1, k.fwd e1⟩
    | false => exact ⟨δ, M1, Wd, Dd, at_.fwd m1 e1, q1, k.fwd e1⟩⟩
theorem ps_nox {s : Stmt} {t : TS} (h : PS X.nox s t) : PS X s t := ⟨fun pins s σ H D I hw =>
  wpAny_mono (h.run pins s σ H D (I.wish _) hw) (fun _ _ q => q.unwish) fun _ _ z => False.elim z⟩

/-! ### targets -/
inductive Tg where
  | name (i : Nat)
  | tup (ts : List Tg)
mutual
def tset : Tg → D → DS → Option DS
  | .name i, d, δ => some (δ.set i (some d))
  | .tup ts, .tup ds, δ => tsets ts ds δ
  | .tup _, .non, _ => none
  | .tup _, .bl _, _ => none
  | .tup _, .int _, _ => none
  | .tup _, .str _, _ => none
  | .tup _, .ref _, _ => none
  | .tup _, .ty _, _ => none
  | .tup _, .cst _, _ => none
def tsets : List Tg → List D → DS → Option DS
  | [], [], δ => some δ
  | [], _ :: _, _ => none
  | _ :: _, [], _ => none
  | t :: ts, d :: ds, δ => match tset t d δ with
    | some δ' => tsets ts ds δ'
    | none => none
end
mutual
/-- as the hand layer's target -/
def Tg.h (K : PySem.W.Frag) : Tg → TG
  | .name i => gName i
  | .tup ts => gTup K ts.length (Tg.hs K ts)
def Tg.hs (K : PySem.W.Frag) : List Tg → TGs
  | [] => gNil
  | t :: ts => gCons (Tg.h K t) (Tg.hs K ts)
end
mutual
def Tg.slots : Tg → List Nat
  | .name i => [i]
  | .tup ts => Tg.slotss ts
def Tg.slotss : List Tg → List Nat
  | [] => []
  | t :: ts => Tg.slots t ++ Tg.slotss ts
end
theorem wipe_set {σ : L2.St} {v : Option V} {i : Nat} : ∀ {vs : List Nat}, i ∈ vs → wipe (σ.set i v) vs = wipe σ vs
  | [], h => by simp at h
  | j :: vs, h => by
    unfold wipe
    by_cases e : i ∈ vs
    · rw [wipe_set e]
    · have ij : i = j := (List.mem_cons.mp h).resolve_right e
      subst ij
      apply List.ext_getElem?
      intro k
      have lw : (wipe (σ.set i v) vs).length = (wipe σ vs).length := by rw [wipe_length, wipe_length, List.length_set]
      by_cases hk : i = k
      · subst hk
        by_cases hl : i < (wipe σ vs).length
        · rw [List.getElem?_set_self hl, List.getElem?_set_self (by rw [lw]; exact hl)]
        · rw [List.getElem?_eq_none (by rw [List.length_set]; omega), List.getElem?_eq_none (by rw [List.length_set]; omega)]
      · rw [List.getElem?_set_ne hk, List.getElem?_set_ne hk]
        have go : ∀ (ws : List Nat) , (wipe (σ.set i v) ws)[k]? = (wipe σ ws)[k]? := by
          intro ws
          induction ws with
          | nil => exact List.getElem?_set_ne hk
          | cons w ws ih =>
            unfold wipe
            by_cases hw : w = k
            · subst hw
              have l1 : (wipe (σ.set i v) ws).length = (wipe σ ws).length := by rw [wipe_length, wipe_length, List.length_set]
              by_cases hl : w < (wipe σ ws).length
              · rw [List.getElem?_set_self hl, List.getElem?_set_self (by rw [l1]; exact hl)]
              · rw [List.getElem?_eq_none (by rw [List.length_set]; omega), List.getElem?_eq_none (by rw [List.length_set]; omega)]
            · rw [List.getElem?_set_ne hw, List.getElem?_set_ne hw]; exact ih
        exact go vs
mutual
theorem Tg.ok {K : PySem.W.Frag} {H : Hp} : ∀ (t : Tg) {d : D} {v : V} {δ δ' : DS} {σ : L2.St} {Q : L2.St → Hp → Prop} (vs : List Nat), tset t d δ = some δ' → Rp K H d v → Er K H δ σ → (∀ i ∈ t.slots, i ∈ vs) →
    (∀ σ', Er K H δ' σ' → wipe σ' vs = wipe σ vs → Q σ' H) → t.h K v σ H Q
  | .name i, d, v, δ, δ', σ, Q, vs, h, r, er, hv, q => by
    simp only [tset, Option.some.injEq] at h
    subst h
    exact q _ (er.set i r) (wipe_set (hv i (by simp [Tg.slots])))
  | .tup ts, d, v, δ, δ', σ, Q, vs, h, r, er, hv, q => by
    cases r with
    | tup h1 r1 =>
      rename_i ds a us
      have hl : ts.length = ds.length := Tg.len ts ds δ δ' h
      exact ⟨a, us, rfl, .inl (.inl h1), by rw [← r1.length, hl], Tg.oks ts vs h r1 er hv q⟩
    | _ => simp [tset] at h
theorem Tg.oks {K : PySem.W.Frag} {H : Hp} : ∀ (ts : List Tg) {ds : List D} {us : List V} {δ δ' : DS} {σ : L2.St} {Q : L2.St → Hp → Prop} (vs : List Nat), tsets ts ds δ = some δ' → Rps K H ds us → Er K H δ σ → (∀ i ∈ Tg.slotss ts, i ∈ vs) →
    (∀ σ', Er K H δ' σ' → wipe σ' vs = wipe σ vs → Q σ' H) → Tg.hs K ts us σ H Q
  | [], ds, us, δ, δ', σ, Q, vs, h, r, er, hv, q => by
    cases r with
    | nil =>
      simp only [tsets, Option.some.injEq] at h
      subst h
      exact ⟨rfl, q σ er rfl⟩
    | cons _ _ => simp [tsets] at h
  | t :: ts, ds, us, δ, δ', σ, Q, vs, h, r, er, hv, q => by
    cases r with
    | nil => simp [tsets] at h
    | cons r rs =>
      rw [tsets] at h
      split at h
      · rename_i δ1 e1
        refine ⟨_, _, rfl, Tg.ok t vs e1 r er (fun i hi => hv i (by simp [Tg.slotss, hi])) fun σ1 er1 w1 => ?_⟩
        exact Tg.oks ts vs h rs er1 (fun i hi => hv i (by simp [Tg.slotss, hi])) fun σ2 er2 w2 => q σ2 er2 (w2.trans w1)
      · cases h
theorem Tg.len : ∀ (ts : List Tg) (ds : List D) (δ δ' : DS), tsets ts ds δ = some δ' → ts.length = ds.length
  | [], [], _, _, _ => rfl
  | [], _ :: _, _, _, h => by simp [tsets] at h
  | _ :: _, [], _, _, h => by simp [tsets] at h
  | t :: ts, d :: ds, δ, δ', h => by
    rw [tsets] at h
    split at h
    · rw [List.length_cons, List.length_cons, Tg.len ts ds _ _ h]
    · cases h
end
theorem wipe_of_slots (vs : List Nat) : True := trivial
/-- e to a target of names -/
def dAsg (t : DTE) (g : Tg) : DTS := fun W D δ M => t W δ M fun d M1 => ∃ δ', tset g d δ = some δ' ∧ D.nx δ' M1
theorem ds_asg {tg : Expr} {g : Tg} (ha : PE X a (liftE (gOf X) W ta)) (hg : PG X tg (g.h X.K)) (hs : swapsWithSole [tg] a pos.line X.env = pure false) (hw : swappedStores [tg] a X.env = pure none)
    (h1 : (assignEach [tg] X.env).map (·.2) = [assign tg X.env]) : PS X (.Assign [tg] a pos) (liftS (gOf X) W (dAsg ta g)) :=
  ps_imp (ps_asg ha hg hs hw h1) fun Dn σ H ⟨δ, M, Wd, Dd, at_, q, k⟩ => ⟨δ, M, Wd, _, at_, q, fun d v H1 M1 m1 r1 e1 ⟨δ', eδ, q1⟩ =>
    Tg.ok g g.slots eδ r1 (at_.er.mono e1.tup) (fun i h => h) fun σ' er' _ => k.nx δ' σ' H1 M1 m1 er' e1 q1⟩
theorem ds_set {i : Nat} {x : Str} {pos' : Pos} (hN : X.N.Nodup) (hi : X.N[i]? = some x) (hx : Loc X.env.scope x) (ha : PE X a (liftE (gOf X) W ta)) (hs : swapsWith a (some (.Name x pos')) pos.line X.env = pure false) (hf : X.fn x = true ∨ X.env.scope.names.lookup x = some .local) :
    PS X (.Assign [.Name x pos'] a pos) (liftS (gOf X) W (dAsg ta (.name i))) :=
  ps_imp (ps_set hN hi hx ha hs hf) fun Dn σ H ⟨δ, M, Wd, Dd, at_, q, k⟩ => ⟨δ, M, Wd, _, at_, q, fun d v H1 M1 m1 r1 e1 ⟨δ', eδ, q1⟩ =>
    Tg.ok (.name i) [i] eδ r1 (at_.er.mono e1.tup) (fun i h => h) fun σ' er' _ => k.nx δ' σ' H1 M1 m1 er' e1 q1⟩
/-- a, b = e1, e2, stored by swapping -/
def dPar (i j : Nat) (t : DTA) : DTS := fun W D δ M => t W δ M fun ds M1 => ∃ d e, ds = [d, e] ∧ D.nx ((δ.set i (some d)).set j (some e)) M1
theorem ds_par {i j : Nat} {x y : Str} {t : DTA} {px py pt : Pos} {kt k2 pt2} (hc : X.calm = true) (hN : X.N.Nodup) (hi : X.N[i]? = some x) (hj : X.N[j]? = some y) (hij : i ≠ j)
    (hx : X.env.scope.names.lookup x = some .local) (hy : X.env.scope.names.lookup y = some .local) (ha : PA X [a, b] (liftA (gOf X) W t))
    (hw : swappedStores [.Tuple [.Name x px, .Name y py] kt pt] (.Tuple [a, b] k2 pt2) X.env = pure (some [x, y])) :
    PS X (.Assign [.Tuple [.Name x px, .Name y py] kt pt] (.Tuple [a, b] k2 pt2) pos) (liftS (gOf X) W (dPar i j t)) :=
  ps_imp (ps_par hc hN hi hj hij hx hy ha hw) fun Dn σ H ⟨δ, M, Wd, Dd, at_, q, k⟩ => ⟨δ, M, Wd, _, at_, q, fun ds vs H1 M1 m1 r1 e1 ⟨d, e, eds, q1⟩ => by
    subst eds
    cases r1 with
    | cons ra rr =>
      cases rr with
      | cons rb rr =>
        cases rr
        exact ⟨_, _, rfl, k.nx _ _ H1 M1 m1 (((at_.er.mono e1.tup).set i ra).set j rb) e1 q1⟩⟩
abbrev DTSet := D → D → D → MH → (MH → Prop) → Prop
def liftSet (g : G) (r : DTSet) : TSet := fun o i v H Q => ∃ od ix vd M Qd, Rp g.K H od o ∧ Rp g.K H ix i ∧ Rp g.K H vd v ∧ MR g H M ∧ r od ix vd M Qd ∧ ∀ H' M', MR g H' M' → Ev H M H' M' → Qd M' → Q H'
/-- o[i] = e -/
def dSub (r : DTSet) (te to_ ti : DTE) : DTS := fun W D δ M => te W δ M fun d M1 => to_ W δ M1 fun o M2 => ti W δ M2 fun i M3 => r o i d M3 fun M4 => D.nx δ M4
theorem ds_sub {o i : Expr} {pos' : Pos} {te to_ ti : DTE} {r : DTSet} (hr : PSet X (liftSet (gOf X) r)) (he : PE X a (liftE (gOf X) W te)) (ho : PE X o (liftE (gOf X) W to_)) (hi : PE X i (liftE (gOf X) W ti))
    (hA : ∀ v, assign (.Subscript o i pos') X.env v = (do
      let ov ← holding [v] (eval o X.env)
      let iv ← holding [v, ov] (eval i X.env)
      standAt pos'
      holding [v, ov, iv] (setItem ov iv v)
      release [v, ov, iv] []))
    (hs : swapsWithSole [.Subscript o i pos'] a pos.line X.env = pure false) (hw : swappedStores [.Subscript o i pos'] a X.env = pure none)
    (h1 : (assignEach [.Subscript o i pos'] X.env).map (·.2) = [assign (.Subscript o i pos') X.env]) : PS X (.Assign [.Subscript o i pos'] a pos) (liftS (gOf X) W (dSub r te to_ ti)) :=
  ps_imp (ps_asg he (pg_sub ho hi hr hA) hs hw h1) fun Dn σ H ⟨δ, M, Wd, Dd, at_, q, k⟩ => ⟨δ, M, Wd, _, at_, q, fun d v H1 M1 m1 r1 e1 q1 =>
    ⟨δ, M1, Wd, _, at_.fwd m1 e1, q1, fun d2 v2 H2 M2 m2 r2 e2 q2 =>
    ⟨δ, M2, Wd, _, at_.fwd m2 (e1.trans e2), q2, fun d3 v3 H3 M3 m3 r3 e3 q3 =>
    ⟨d2, d3, d, M3, _, r2.mono e3.tup, r3, r1.mono (e2.trans e3).tup, m3, q3, fun H4 M4 m4 e4 q4 =>
      k.nx δ σ H4 M4 m4 (at_.er.mono (((e1.trans e2).trans e3).trans e4).tup) (((e1.trans e2).trans e3).trans e4) q4⟩⟩⟩⟩

/-! ### while -/
abbrev W0 : DW := fun _ _ => False
abbrev X0 : XK := fun _ _ _ => False
def dWhile (c : DTT) (tb : DTS) : DTS := fun _ D δ M => ∃ I : Nat → DS → MH → Prop, (∃ n, I n δ M) ∧ ∀ n δ M, I n δ M → c W0 δ M fun b M1 =>
  if b = true then tb W0 { nx := fun δ' M' => ∃ m, m < n ∧ I m δ' M', ct := fun δ' M' => ∃ m, m < n ∧ I m δ' M', bk := D.nx, rt := D.rt } δ M1 else D.nx δ M1
theorem Kw.none (g : G) (H : Hp) (M : MH) : Kw g X0 H M W0 := fun _ _ _ _ _ _ _ _ z => z
theorem ds_while {body : List Stmt} {tb : DTS} (hc : PT X.nox c (liftT (gOf X) X0 ua)) (hb : PSs X.nox body (liftS (gOf X) X0 tb)) : PS X (.While c body [] pos) (liftS (gOf X) W (dWhile ua tb)) := by
  refine ps_imp (ps_nox (ps_while PassesOwn.never hc hb)) fun Dn σ H ⟨δ, M, Wd, Dd, at_, ⟨I, ⟨n, i0⟩, turn⟩, k⟩ => ?_
  refine ⟨fun n σ' H' => ∃ δ' M', Er X.K H' δ' σ' ∧ MR (gOf X) H' M' ∧ Ev H M H' M' ∧ I n δ' M', ⟨n, δ, M, at_.er, at_.mr, Ev.refl _ _, i0⟩, ?_⟩
  rintro n σ1 H1 ⟨δ1, M1, er1, m1, e1, i1⟩
  refine ⟨δ1, M1, W0, _, ⟨er1, m1, Kw.none _ _ _⟩, turn n δ1 M1 i1, fun b H2 M2 m2 e2 q2 => ?_⟩
  have er2 := er1.mono e2.tup
  cases b with
  | true =>
    refine iteT ⟨fun σ' H' => ∃ m, m < n ∧ ∃ δ' M', Er X.K H' δ' σ' ∧ MR (gOf X) H' M' ∧ Ev H M H' M' ∧ I m δ' M', fun σ' H' h => h, ?_⟩
    have again : ∀ (δ' : DS) (σ' : L2.St) (H' : Hp) (M' : MH), MR (gOf X) H' M' → Er X.K H' δ' σ' → Ev H2 M2 H' M' → (∃ m, m < n ∧ I m δ' M') → ∃ m, m < n ∧ ∃ δ' M', Er X.K H' δ' σ' ∧ MR (gOf X) H' M' ∧ Ev H M H' M' ∧ I m δ' M' :=
      fun δ' σ' H' M' mr er ev ⟨m, hm, im⟩ => ⟨m, hm, δ', M', er, mr, (e1.trans e2).trans ev, im⟩
    exact ⟨δ1, M2, W0, _, ⟨er2, m2, Kw.none _ _ _⟩, q2, ⟨again, k.rt.fwd (e1.trans e2), k.nx.fwd (e1.trans e2), again⟩⟩
  | false =>
    exact iteF (k.nx δ1 σ1 H2 M2 m2 er2 (e1.trans e2) q2)
end
end DL

set_option Elab.async false
set_option linter.all false
set_option maxRecDepth 20000
/-! DL3: what is walked; for; list comprehensions. -/
namespace DL
open PySem L2 PyProof.Rows
/-- J walks the items while al holds -/
structure Wk (g : G) (H1 : Hp) (M1 : MH) (J : It) (items : List D) (al : MH → Prop) : Prop where
  go : ∀ i H M, MR g H M → Tz H1 H → al M → i < items.length → J.go i H
  stop : ∀ H M, MR g H M → Tz H1 H → al M → J.stop items.length H
  yld : ∀ i H M x H' d, MR g H M → Tz H1 H → al M → J.yld i H x H' → items[i]? = some d → MR g H' M ∧ Ev H M H' M ∧ Rp g.K H' d x
abbrev DTI := DW → DS → MH → (List D → (MH → Prop) → MH → Prop) → Prop
def liftI (g : G) (W : XK) (t : DTI) : TI := fun σ H R => ∃ δ M Wd Rd, At g W σ H δ M Wd ∧ t Wd δ M Rd ∧
  ∀ J items al H1 M1, MR g H1 M1 → Ev H M H1 M1 → Wk g H1 M1 J items al → Rd items al M1 → R J H1
theorem pi_imp {X : Cx} {tg e : Expr} {t t' : TI} (h : PI X tg e t) (i : ∀ σ H R, t' σ H R → t σ H R) : PI X tg e t' := ⟨fun pins s σ H R I q => h.run pins s σ H R I (i σ H R q)⟩

def forR (al : MH → Prop) (g : Tg) (tb : DTS) (D : DEnds) : List DL.D → DS → MH → Prop
  | [], δ, M => al M ∧ D.nx δ M
  | x :: xs, δ, M => al M ∧ ∃ δ', tset g x δ = some δ' ∧ tb W0 { nx := forR al g tb D xs, ct := forR al g tb D xs, bk := D.nx, rt := D.rt } δ' M
def dFor (it : DTI) (g : Tg) (tb : DTS) : DTS := fun _ D δ M => it W0 δ M fun items al M1 => forR al g tb D items δ M1
theorem forR_al {al : MH → Prop} {g : Tg} {tb : DTS} {D : DEnds} {xs : List DL.D} {δ : DS} {M : MH} (h : forR al g tb D xs δ M) : al M := by
  cases xs with
  | nil => exact h.1
  | cons x xs => exact h.1
section
variable {X : Cx} {W : XK} {pos : Pos}
theorem ds_for {tg iter : Expr} {body : List Stmt} {it : DTI} {g : Tg} {tb : DTS} (hc : X.calm = true) (hi : PI X.nox tg iter (liftI (gOf X) X0 it)) (hg : PG X.nox tg (g.h X.K)) (hb : PSs X.nox body (liftS (gOf X) X0 tb))
    (hs : ∀ x, foldedSetIterable iter X.env x = pure x) : PS X (.For tg iter body [] pos) (liftS (gOf X) W (dFor it g tb)) := by
  refine ps_imp (ps_nox (ps_for PassesOwn.never hc hi hg hb hs)) fun Dn σ H ⟨δ, M, Wd, Dd, at_, q, k⟩ => ?_
  refine ⟨δ, M, W0, _, ⟨at_.er, at_.mr, Kw.none _ _ _⟩, q, fun J items al H1 M1 m1 e1 wk q1 => ?_⟩
  refine ⟨fun i m σ' H' => m = items.length - i ∧ i ≤ items.length ∧ ∃ δ' M', Er X.K H' δ' σ' ∧ MR (gOf X) H' M' ∧ Ev H1 M1 H' M' ∧ forR al g tb Dd (items.drop i) δ' M',
    ⟨items.length, rfl, Nat.zero_le _, δ, M1, at_.er.mono e1.tup, m1, Ev.refl _ _, q1⟩, ?_⟩
  rintro i m σ2 H2 ⟨rfl, hi', δ2, M2, er2, m2, e2, q2⟩
  by_cases hlt : i < items.length
  · have ed : items.drop i = items[i] :: items.drop (i + 1) := List.drop_eq_getElem_cons hlt
    rw [ed] at q2
    obtain ⟨al2, δ3, et, q3⟩ := q2
    refine .inr ⟨wk.go i H2 M2 m2 e2.tz al2 hlt, _, fun σ' H' (h : ∃ δ' M', Er X.K H' δ' σ' ∧ MR (gOf X) H' M' ∧ Ev H1 M1 H' M' ∧ forR al g tb Dd (items.drop (i + 1)) δ' M') => ⟨items.length - (i + 1), by omega, rfl, hlt, h⟩, fun x H' y => ?_⟩
    obtain ⟨m3, e3, r3⟩ := wk.yld i H2 M2 x H' items[i] m2 e2.tz al2 y (by simp [hlt])
    refine Tg.ok g g.slots et r3 (er2.mono e3.tup) (fun i h => h) fun σ3 er3 _ => ?_
    have again : ∀ (δ' : DS) (σ' : L2.St) (H'' : Hp) (M' : MH), MR (gOf X) H'' M' → Er X.K H'' δ' σ' → Ev H' M2 H'' M' → forR al g tb Dd (items.drop (i + 1)) δ' M' → ∃ δ' M', Er X.K H'' δ' σ' ∧ MR (gOf X) H'' M' ∧ Ev H1 M1 H'' M' ∧ forR al g tb Dd (items.drop (i + 1)) δ' M' :=
      fun δ' σ' H'' M' mr er ev q => ⟨δ', M', er, mr, (e2.trans e3).trans ev, q⟩
    exact ⟨δ3, M2, W0, _, ⟨er3, m3, Kw.none _ _ _⟩, q3, ⟨again, k.rt.fwd ((e1.trans e2).trans e3), k.nx.fwd ((e1.trans e2).trans e3), again⟩⟩
  · have e : i = items.length := by omega
    subst e
    rw [List.drop_length] at q2
    exact .inl ⟨wk.stop H2 M2 m2 e2.tz q2.1, k.nx δ2 σ2 H2 M2 m2 er2 (e1.trans e2) q2.2⟩
end

/-! ### comprehensions -/
def wipeD (δ : DS) : List Nat → DS
  | [] => δ
  | v :: vs => (wipeD δ vs).set v none
theorem Er.setNone {K : PySem.W.Frag} {H : Hp} {δ : DS} {σ : L2.St} (h : Er K H δ σ) (i : Nat) : Er K H (δ.set i none) (σ.set i none) := by
  refine ⟨by rw [List.length_set, List.length_set]; exact h.1, fun j e q => ?_⟩
  by_cases hj : i = j
  · subst hj
    by_cases hl : i < δ.length
    · rw [List.getElem?_set_self hl] at q; cases q
    · rw [List.getElem?_eq_none (by rw [List.length_set]; omega)] at q; cases q
  · rw [List.getElem?_set_ne hj] at q
    obtain ⟨u, a, b⟩ := h.2 j e q
    exact ⟨u, by rw [List.getElem?_set_ne hj]; exact a, b⟩
theorem Er.wipe {K : PySem.W.Frag} {H : Hp} {δ : DS} {σ : L2.St} (h : Er K H δ σ) : ∀ vs : List Nat, Er K H (wipeD δ vs) (L2.wipe σ vs)
  | [] => h
  | v :: vs => (Er.wipe h vs).setNone v
abbrev DBody := DS → List D → MH → (List D → MH → Prop) → Prop
def accR (al : MH → Prop) (g : Tg) (δ : DS) (body : DBody) : List D → List D → MH → (List D → MH → Prop) → Prop
  | [], acc, M, R => al M ∧ R acc M
  | x :: xs, acc, M, R => al M ∧ ∃ δ', tset g x δ = some δ' ∧ body δ' acc M fun acc' M' => accR al g δ body xs acc' M' R
def body1 (tt : DTT) (te : DTE) : DBody := fun δ acc M R => tt W0 δ M fun b M1 => if b = true then te W0 δ M1 fun y M2 => acc.length < sizeLine ∧ R (acc ++ [y]) M2 else R acc M1
def dLc (it : DTI) (g : Tg) (tt : DTT) (te : DTE) (vs : List Nat) : DTE := fun W δ M Q => it W δ M fun items al M1 =>
  accR al g (wipeD δ vs) (body1 tt te) items [] M1 fun acc M2 => ∀ p, M2 p = none → Q (.ref p) (up M2 p (.lst acc))
def dYes : DTT := fun _ _ M Q => Q true M
/-- an object that stands in H is looked at from now on -/
theorem MR.track {g : G} {H : Hp} {M : MH} {p : Nat} {u : MO} (m : MR g H M) (h : ORp g H p u) : MR g H (up M p u) := fun a x e => by
  by_cases hb : a = p
  · subst hb
    rw [up_same] at e
    cases e
    exact h
  · rw [up_ne hb] at e
    exact m a x e
section
variable {X : Cx} {W : XK} {pos : Pos}
/-- what a comprehension's loop keeps: the list at D is not looked at meanwhile -/
structure Lcs (g : G) (H1 : Hp) (M1 : MH) (D : Nat) (H : Hp) (M : MH) (acc : List DL.D) : Prop where
  mr : MR g H M
  ev : Ev H1 M1 H M
  fr : M D = none
  at_ : ∃ vs, H D = some (.lst vs) ∧ Rps g.K H acc vs
theorem Lcs.fwd {g : G} {H1 H H' : Hp} {M1 M M' : MH} {D : Nat} {acc : List DL.D} (l : Lcs g H1 M1 D H M acc) (m : MR g H' M') (e : Ev H M H' M') : Lcs g H1 M1 D H' M' acc := by
  obtain ⟨vs, h, r⟩ := l.at_
  exact ⟨m, l.ev.trans e, e.new D (by rw [h]; exact fun z => nomatch z) l.fr, vs, e.keep D _ h l.fr, r.mono e.tup⟩
/-- one item more -/
theorem Lcs.snoc {g : G} {H1 H : Hp} {M1 M : MH} {D : Nat} {acc : List DL.D} {y : DL.D} {v : V} (l : Lcs g H1 M1 D H M acc) (r : Rp g.K H y v) (h1 : H1 D = none) :
    ∃ vs, H D = some (.lst vs) ∧ vs.length = acc.length ∧ Lcs g H1 M1 D (upd H D (.lst (vs ++ [v]))) M (acc ++ [y]) := by
  obtain ⟨vs, h, rs⟩ := l.at_
  have t : Tz H (upd H D (.lst (vs ++ [v]))) := Tz.upd (fun xs e => by rw [h] at e; cases e) (fun u xs e => by rw [h] at e; cases e)
  refine ⟨vs, h, rs.length.symm, ⟨l.mr.ext t.w l.fr, ⟨l.ev.tz.trans t, fun a ha => ?_, l.ev.new, fun a o ha hm => ?_⟩, l.fr, _, upd_same, (rs.append (.cons r .nil)).mono t.w⟩⟩
  · by_cases z : a = D
    · rw [z, upd_same]; exact (fun z => nomatch z)
    · rw [upd_ne z]; exact l.ev.dom a ha
  · rw [upd_ne (ne_of_none ha h1)]; exact l.ev.keep a o ha hm
theorem lc_imp {it : DTI} {g : Tg} {tt : DTT} {te : DTE} {vs : List Nat} {σ : L2.St} {H : Hp} {Q : VK} (hv : ∀ i ∈ g.slots, i ∈ vs) (h : liftE (gOf X) W (dLc it g tt te vs) σ H Q) :
    tLc (liftI (gOf X) W it) (g.h X.K) (liftT (gOf X) X0 tt) (liftE (gOf X) X0 te) vs σ H Q := by
  obtain ⟨δ, M, Wd, Qd, at_, q, k⟩ := h
  refine ⟨δ, M, Wd, _, at_, q, fun J items al H1 M1 m1 e1 wk q1 D hD => ?_⟩
  generalize hR : (fun (acc : List DL.D) (M2 : MH) => ∀ p, M2 p = none → Qd (.ref p) (up M2 p (.lst acc))) = R at q1
  refine ⟨fun i m H' => m = items.length - i ∧ i ≤ items.length ∧ ∃ acc M', Lcs (gOf X) H1 M1 D H' M' acc ∧ accR al g (wipeD δ vs) (body1 tt te) (items.drop i) acc M' R,
    ⟨items.length, rfl, Nat.zero_le _, [], M1, ⟨m1.ext (Tups.upd0 hD) (m1.free hD), Ev.upd hD, m1.free hD, [], upd_same, .nil⟩, q1⟩, ?_⟩
  rintro i m H2 ⟨rfl, hi', acc, M2, l2, q2⟩
  by_cases hlt : i < items.length
  · have ed : items.drop i = items[i] :: items.drop (i + 1) := List.drop_eq_getElem_cons hlt
    rw [ed] at q2
    obtain ⟨al2, δ3, et, q3⟩ := q2
    refine .inr ⟨wk.go i H2 M2 l2.mr l2.ev.tz al2 hlt, _, fun H' (h : ∃ acc M', Lcs (gOf X) H1 M1 D H' M' acc ∧ accR al g (wipeD δ vs) (body1 tt te) (items.drop (i + 1)) acc M' R) => ⟨items.length - (i + 1), by omega, rfl, hlt, h⟩, fun x H3 y => ?_⟩
    obtain ⟨m3, e3, r3⟩ := wk.yld i H2 M2 x H3 items[i] l2.mr l2.ev.tz al2 y (by simp [hlt])
    have l3 := l2.fwd m3 e3
    refine Tg.ok g vs et r3 ((at_.er.mono (e1.trans (l3.ev)).tup).wipe vs) hv fun σ3 er3 w3 => ⟨w3.trans ?_, ?_⟩
    · have ww : ∀ ws : List Nat, L2.wipe (L2.wipe σ ws) ws = L2.wipe σ ws := fun ws => by
        apply List.ext_getElem?
        intro j
        cases hj : (L2.wipe (L2.wipe σ ws) ws)[j]? with
        | none =>
          have z := List.getElem?_eq_none_iff.mp hj
          rw [wipe_length, wipe_length] at z
          rw [List.getElem?_eq_none (by rw [wipe_length]; exact z)]
        | some o =>
          have lj : j < σ.length := by
            have z := (List.getElem?_eq_some_iff.mp hj).1
            rw [wipe_length, wipe_length] at z; exact z
          by_cases hm : j ∈ ws
          · have no : ∀ (τ : L2.St), j < τ.length → (L2.wipe τ ws)[j]? = some none := fun τ ht => by
              cases e : (L2.wipe τ ws)[j]? with
              | none => rw [List.getElem?_eq_none_iff, wipe_length] at e; omega
              | some o' =>
                cases o' with
                | none => rfl
                | some x => exact absurd hm (wipe_some e).2
            rw [no _ (by rw [wipe_length]; exact lj)] at hj
            cases hj
            exact (no _ lj).symm
          · rw [← hj]; exact wipe_out hm
      exact ww vs
    · have a3 : At (gOf X) X0 σ3 H3 δ3 M2 W0 := ⟨er3, m3, Kw.none _ _ _⟩
      refine ⟨δ3, M2, W0, _, a3, q3, fun b H4 M4 m4 e4 q4 => ?_⟩
      have l4 := l3.fwd m4 e4
      cases b with
      | false => exact iteF ⟨acc, M4, l4, q4⟩
      | true =>
        refine iteT ⟨δ3, M4, W0, _, a3.fwd m4 e4, q4, fun yd yv H5 M5 m5 r5 e5 ⟨hl, q5⟩ => ?_⟩
        obtain ⟨us, hD5, hlen, l6⟩ := (l4.fwd m5 e5).snoc r5 hD
        exact ⟨us, hD5, by rw [hlen]; exact hl, acc ++ [yd], M5, l6, q5⟩
  · have e : i = items.length := by omega
    subst e
    rw [List.drop_length] at q2
    obtain ⟨al2, q3⟩ := q2
    subst hR
    obtain ⟨us, hD2, rs⟩ := l2.at_
    refine .inl ⟨wk.stop H2 M2 l2.mr l2.ev.tz al2, k (.ref D) (.ref D) H2 _ (l2.mr.track (p := D) (u := .lst acc) ⟨us, hD2, rs⟩) (.ref D) ?_ (q3 D l2.fr)⟩
    have ev := e1.trans l2.ev
    refine ⟨ev.tz, ev.dom, fun a ha hm => ?_, ev.keep⟩
    rw [up_ne (by intro z; rw [z] at ha; exact absurd hD (e1.dom D ha))]
    exact ev.new a ha hm
abbrev blkOf (X : Cx) (scope : Scope) (s : Shared) (H : Hp) (C : Nat) (cl : List (Str × Nat)) (fp : List Nat) : Cx := X.blk s H scope (compEnvC scope cl C X.env) fp
theorem de_lc {elt tg iter : Expr} {ifs : List Expr} {scope : Scope} {own : List (Str × Nat)} {it : DTI} {g : Tg} {tt : DTT} {te : DTE} (hc : X.calm = true) (hN : X.N.Nodup) (hi : PI X tg iter (liftI (gOf X) W it)) (ok : BlkOk X.N X.env.scope scope own)
    (hv : ∀ i ∈ g.slots, i ∈ own.map (·.2)) (hg : ∀ s H C cl fp, PG (blkOf X scope s H C cl fp) tg (g.h X.K)) (ht : ∀ s H C cl fp, PTs (blkOf X scope s H C cl fp) ifs (liftT (gOf X) X0 tt))
    (he : ∀ s H C cl fp, PE (blkOf X scope s H C cl fp) elt (liftE (gOf X) X0 te)) (hs : ∀ x, foldedSetIterable iter X.env x = pure x) :
    PE X (.ListComp elt [⟨tg, iter, ifs, 0⟩] scope pos) (liftE (gOf X) W (dLc it g tt te (own.map (·.2)))) :=
  pe_imp (pe_lc hc hN hi ok hg ht he hs) fun σ H Q h => lc_imp hv h
theorem ds_setLc {i : Nat} {y : Str} {py spos : Pos} {elt tg iter : Expr} {ifs : List Expr} {scope : Scope} {own : List (Str × Nat)} {it : DTI} {g : Tg} {tt : DTT} {te : DTE} (hc : X.calm = true) (hN : X.N.Nodup) (hy : X.N[i]? = some y) (hyl : X.env.scope.names.lookup y = some .local)
    (hsw : swapsWith (.ListComp elt [⟨tg, iter, ifs, 0⟩] scope pos) (some (.Name y py)) spos.line X.env = pure true) (hi : PI X tg iter (liftI (gOf X) W it)) (ok : BlkOk X.N X.env.scope scope own)
    (hv : ∀ i ∈ g.slots, i ∈ own.map (·.2)) (hg : ∀ s H C cl fp, PG (blkOf X scope s H C cl fp) tg (g.h X.K)) (ht : ∀ s H C cl fp, PTs (blkOf X scope s H C cl fp) ifs (liftT (gOf X) X0 tt))
    (he : ∀ s H C cl fp, PE (blkOf X scope s H C cl fp) elt (liftE (gOf X) X0 te)) (hs : ∀ x, foldedSetIterable iter X.env x = pure x) :
    PS X (.Assign [.Name y py] (.ListComp elt [⟨tg, iter, ifs, 0⟩] scope pos) spos) (liftS (gOf X) W (dAsg (dLc it g tt te (own.map (·.2))) (.name i))) :=
  ps_imp (ps_setLc hc hN hy hyl hsw hi ok hg ht he hs) fun Dn σ H ⟨δ, M, Wd, Dd, at_, q, k⟩ => lc_imp (X := X) (Q := fun x H1 => gName i x σ H1 Dn.nx) hv ⟨δ, M, Wd, _, at_, q, fun d v H1 M1 m1 r1 e1 ⟨δ', eδ, q1⟩ =>
    Tg.ok (.name i) [i] eδ r1 (at_.er.mono e1.tup) (fun i h => h) fun σ' er' _ => k.nx δ' σ' H1 M1 m1 er' e1 q1⟩
end

/-! ### sources -/
def itemsOf (M : MH) : D → Option (List D)
  | .tup ds => some ds
  | .cst ds => some ds
  | .ref a => match M a with
    | some (.lst ds) => some ds
    | _ => none
  | _ => none
/-- the source stands as it did -/
def still (M : MH) : D → MH → Prop
  | .ref a => fun M' => M' a = M a
  | _ => fun _ => True
def diSeq (t : DTE) : DTI := fun W δ M R => t W δ M fun x M1 => ∃ ds, itemsOf M1 x = some ds ∧ R ds (still M1 x) M1
section
variable {X : Cx} {W : XK} {pos : Pos}
theorem wk_list {g : G} {H : Hp} {M : MH} {a : Nat} {ds : List D} (h : M a = some (.lst ds)) : Wk g H M (Itl g.K a) ds (still M (.ref a)) where
  go := fun i H' M' m e al hi => by
    obtain ⟨vs, h1, r⟩ := m.list (p := a) (ds := ds) (Eq.trans al h)
    obtain ⟨v, hv, _⟩ := r.get (i := i) (d := ds[i]) (by simp [hi])
    exact ⟨vs, v, .of h1, hv⟩
  stop := fun H' M' m e al => by
    obtain ⟨vs, h1, r⟩ := m.list (p := a) (ds := ds) (Eq.trans al h)
    exact ⟨vs, .of h1, by rw [r.length]; exact Nat.le_refl _⟩
  yld := fun i H' M' x H2 d m e al y hd => by
    obtain ⟨vs, h1, r⟩ := m.list (p := a) (ds := ds) (Eq.trans al h)
    obtain ⟨e2, y2⟩ := y
    subst e2
    obtain ⟨v, hv, rv⟩ := r.get hd
    have z := y2 vs (.of h1)
    rw [hv] at z
    cases z
    exact ⟨m, Ev.refl _ _, rv⟩
theorem wk_cst {g : G} {H : Hp} {M : MH} {a : Nat} {ds : List D} {vs : List V} (h : CsL g.K H a vs) (r : Rps g.K H ds vs) : Wk g H M (Itl g.K a) ds (fun _ => True) where
  go := fun i H' M' m e al hi => by
    obtain ⟨v, hv, _⟩ := r.get (i := i) (d := ds[i]) (by simp [hi])
    exact ⟨vs, v, (h.mono e.w).sq, hv⟩
  stop := fun H' M' m e al => ⟨vs, (h.mono e.w).sq, by rw [r.length]; exact Nat.le_refl _⟩
  yld := fun i H' M' x H2 d m e al y hd => by
    obtain ⟨e2, y2⟩ := y
    subst e2
    obtain ⟨v, hv, rv⟩ := r.get hd
    have z := y2 vs (h.mono e.w).sq
    rw [hv] at z
    cases z
    exact ⟨m, Ev.refl _ _, rv.mono e.w⟩
theorem wk_tup {g : G} {H : Hp} {M : MH} {a : Nat} {ds : List D} {vs : List V} (h : H a = some (.tup vs)) (r : Rps g.K H ds vs) : Wk g H M (Itt g.K a) ds (fun _ => True) where
  go := fun i H' M' m e al hi => by
    obtain ⟨v, hv, _⟩ := r.get (i := i) (d := ds[i]) (by simp [hi])
    exact ⟨vs, v, .of (e.w.t _ _ h), hv⟩
  stop := fun H' M' m e al => ⟨vs, .of (e.w.t _ _ h), by rw [r.length]; exact Nat.le_refl _⟩
  yld := fun i H' M' x H2 d m e al y hd => by
    obtain ⟨e2, y2⟩ := y
    subst e2
    obtain ⟨v, hv, rv⟩ := r.get hd
    have z := y2 vs (.of (e.w.t _ _ h))
    rw [hv] at z
    cases z
    exact ⟨m, Ev.refl _ _, rv.mono e.w⟩
theorem begin_list {tg : Expr} {pins : List (Nat × Obj)} {σ : L2.St} {H : Hp} {s : Shared} {a : Nat} {xs : List V} {R : It → Hp → Prop} {E : Value → Shared → Prop} (I : Inv X pins σ H s) (hq : SqL X.K H a xs) (q : R (Itl X.K a) H) :
    wpAny (model X.prog X.w) X.A (pyIter (.ref a)) (PIE X pins σ tg R) E s := by
  obtain ⟨its, rv, p, hz⟩ := I.list hq
  have J : Inv X pins σ H { s with heap := s.heap.push { cls := .type "list_iterator", data := .fields #[.ref a, .int 0 0] } } := I.kept (t' := s.toks) fun b o e => Heap.get?_push_of_some _ e
  refine wpAny_pyIter_list p.isList ⟨_, [s.heap.objs.size], _, _, H, rfl, J, turn_list a _, ⟨_, Heap.get?_push_size _ rfl, rfl, rfl⟩, ?_, q⟩
  intro b hb
  rw [List.mem_singleton] at hb
  rw [hb]
  exact I.fpOk (Nat.le_refl _) (I.hok.fresh (Nat.le_refl _))
theorem begin_tup {tg : Expr} {pins : List (Nat × Obj)} {σ : L2.St} {H : Hp} {s : Shared} {a : Nat} {xs : List V} {R : It → Hp → Prop} {E : Value → Shared → Prop} (I : Inv X pins σ H s) (hq : SqT X.K H a xs) (q : R (Itt X.K a) H) :
    wpAny (model X.prog X.w) X.A (pyIter (.ref a)) (PIE X pins σ tg R) E s := by
  obtain ⟨its, rv, p, hz⟩ := I.tuple hq
  have J : Inv X pins σ H { s with heap := s.heap.push { cls := .type "tuple_iterator", data := .fields #[.ref a, .int 0 0] } } := I.kept (t' := s.toks) fun b o e => Heap.get?_push_of_some _ e
  refine wpAny_pyIter_tuple (show s.heap.IsTuple a its.toArray from p) ⟨_, [s.heap.objs.size], _, _, H, rfl, J, turn_tuple a _, ⟨_, Heap.get?_push_size _ rfl, rfl, rfl⟩, ?_, q⟩
  intro b hb
  rw [List.mem_singleton] at hb
  rw [hb]
  exact I.fpOk (Nat.le_refl _) (I.hok.fresh (Nat.le_refl _))
theorem di_seq {tg l : Expr} {t : DTE} (hl : PE X l (liftE (gOf X) W t)) : PI X tg l (liftI (gOf X) W (diSeq t)) := by
  refine ⟨fun pins s σ H R I ⟨δ, M, Wd, Rd, at_, q, k⟩ => ?_⟩
  refine thn (hl.run pins s σ H (fun v H1 => ∃ d M1, MR (gOf X) H1 M1 ∧ Rp X.K H1 d v ∧ Ev H M H1 M1 ∧ ∃ ds, itemsOf M1 d = some ds ∧ Rd ds (still M1 d) M1) I
    ⟨δ, M, Wd, _, at_, q, fun d v H1 M1 m1 r1 e1 q1 => ⟨d, M1, m1, r1, e1, q1⟩⟩) fun u s1 ⟨v, H1, I1, ru, d, M1, m1, r1, e1, ds, hds, q1⟩ => ?_
  cases r1 with
  | tup h r =>
    cases ru
    simp only [itemsOf, Option.some.injEq] at hds
    subst hds
    exact begin_tup I1 (.of h) (k _ _ _ H1 M1 m1 e1 (wk_tup h r) q1)
  | cst h r =>
    cases ru
    simp only [itemsOf, Option.some.injEq] at hds
    subst hds
    exact begin_list I1 h.sq (k _ _ _ H1 M1 m1 e1 (wk_cst h r) q1)
  | ref a =>
    cases ru
    unfold itemsOf at hds
    simp only at hds
    cases e : M1 a with
    | none => rw [e] at hds; cases hds
    | some o =>
      rw [e] at hds
      cases o with
      | lst xs =>
        simp only [Option.some.injEq] at hds
        subst hds
        obtain ⟨vs, h1, r⟩ := m1.list e
        exact begin_list I1 (.of h1) (k _ _ _ H1 M1 m1 e1 (wk_list e) q1)
      | dct kvs => cases hds
      | rdc kvs => cases hds
  | _ => simp [itemsOf] at hds
/-- range(n), range(a, b) -/
def rng (lo : Int) (n : Nat) : List D := (List.range n).map fun i => D.int (lo + (i : Nat))
def diR1 (t : DTA) : DTI := fun W δ M R => t W δ M fun xs M1 => ∃ j : Int, xs = [.int j] ∧ -(2 ^ 62) ≤ j ∧ j < 2 ^ 62 ∧ R (rng 0 j.toNat) (fun _ => True) M1
def diR2 (t : DTA) : DTI := fun W δ M R => t W δ M fun xs M1 => ∃ i j : Int, xs = [.int i, .int j] ∧ (-(2 ^ 62) ≤ i ∧ i < 2 ^ 62 ∧ -(2 ^ 62) ≤ j ∧ j < 2 ^ 62) ∧ R (rng i (j - i).toNat) (fun _ => True) M1
theorem wk_rng {g : G} {H : Hp} {M : MH} {lo : Int} {n : Nat} : Wk g H M (Itr lo n) (rng lo n) (fun _ => True) where
  go := fun i H' M' m e al hi => by
    have z : (rng lo n).length = n := by simp [rng]
    rw [z] at hi; exact hi
  stop := fun H' M' m e al => by
    have z : (rng lo n).length = n := by simp [rng]
    rw [z]; exact Nat.le_refl _
  yld := fun i H' M' x H2 d m e al y hd => by
    obtain ⟨e2, y2⟩ := y
    subst e2 y2
    unfold rng at hd
    rw [List.getElem?_map, Option.map_eq_some_iff] at hd
    obtain ⟨j, hj, rfl⟩ := hd
    have hj2 : i = j := by
      rw [List.getElem?_eq_some_iff] at hj
      obtain ⟨_, q⟩ := hj
      rw [List.getElem_range] at q
      exact q
    subst hj2
    exact ⟨m, Ev.refl _ _, .int _⟩
theorem di_r1 {tg a : Expr} {p : Pos} {t : DTA} (hg : Gl X "range") (hm : X.mg "range" = none) (ha : PA X [a] (liftA (gOf X) W t)) (hs : starEach [a] X.env = [(false, eval a X.env)]) : PI X tg (.Call (.Name "range" p) [a] [] pos) (liftI (gOf X) W (diR1 t)) :=
  pi_imp (pi_range1 hg hm ha hs) fun σ H R ⟨δ, M, Wd, Rd, at_, q, k⟩ => ⟨δ, M, Wd, _, at_, q, fun ds vs H1 M1 m1 r1 e1 ⟨j, ej, h1, h2, q1⟩ => by
    subst ej
    cases r1 with
    | cons ra rr => cases rr; cases ra; exact ⟨j, rfl, h1, h2, k _ _ _ H1 M1 m1 e1 wk_rng q1⟩⟩
theorem di_r2 {tg a b : Expr} {p : Pos} {t : DTA} (hg : Gl X "range") (hm : X.mg "range" = none) (ha : PA X [a, b] (liftA (gOf X) W t)) (hs : starEach [a, b] X.env = [(false, eval a X.env), (false, eval b X.env)]) (hs2 : starEach [b] X.env = [(false, eval b X.env)]) :
    PI X tg (.Call (.Name "range" p) [a, b] [] pos) (liftI (gOf X) W (diR2 t)) :=
  pi_imp (pi_range2 hg hm ha hs hs2) fun σ H R ⟨δ, M, Wd, Rd, at_, q, k⟩ => ⟨δ, M, Wd, _, at_, q, fun ds vs H1 M1 m1 r1 e1 ⟨i, j, ej, h1, q1⟩ => by
    subst ej
    cases r1 with
    | cons ra rr =>
      cases rr with
      | cons rb rr => cases rr; cases ra; cases rb; exact ⟨i, j, rfl, h1, k _ _ _ H1 M1 m1 e1 wk_rng q1⟩⟩
end
end DL

set_option Elab.async false
set_option linter.all false
set_option maxRecDepth 20000
/-! DL4: enumerate, zip over lists and tuples in any mix; reversed. -/
namespace PySem
open Sem (wp)
set_option maxHeartbeats 1000000 in
theorem meets_enum_one {v : Value} {o : Obj} {P0 : Heap → Prop} (B : Begins v o P0) :
    Meets (Builtin.«enumerate.__new__» ⟨[.type "enumerate", v], []⟩) (fun _ R s => P0 s.heap ∧
      R (.ok (.ret (.ref (s.heap.push o).objs.size)))
       { s with heap := (s.heap.push o).push { cls := .type "enumerate", data := .fields #[.none, .bool false, .ref s.heap.objs.size, rawInt 0, .none, .none] } }) :=
  .of_wp fun prog w A R s hh => by
    obtain ⟨hp, g, d, tk, os⟩ := s; obtain ⟨h1, h⟩ := hh
    have hsub := sub_enumerate
    have qB : ∀ {A' : Around} {E' : Value → Shared → Prop} {Q' : Value → Shared → Prop}, Q' (.ref hp.objs.size) ⟨hp.push o, g, d, tk, os⟩ → wpAny (model prog w) A' (pyIter v) Q' E' ⟨hp, g, d, tk, os⟩ :=
      fun q => B.iter prog w _ _ ⟨hp, g, d, tk, os⟩ _ h1 q
    wp_walk using qB
    refine wpAny_stack_any fun st => wpAny_pure ?_
    split
    · rename_i c _ _ _ _ _
      cases (c == Value.type "enumerate") <;> (wp_walk using qB; exact ⟨_, rfl, h⟩)
    · wp_walk using qB
      exact ⟨_, rfl, h⟩
theorem enum_one {prog : Program} {w : World} {A : Around} {E : Value → Shared → Prop} {s : Shared} {v : Value} {o : Obj} {P0 : Heap → Prop} {Q : Value → Shared → Prop} (B : Begins v o P0) (h1 : P0 s.heap)
    (h : ∀ h', IsEnum h' (s.heap.objs.size + 1) s.heap.objs.size 0 .none → h'.get? s.heap.objs.size = some o → (∀ b u, s.heap.get? b = some u → h'.get? b = some u) → Q (.ref (s.heap.objs.size + 1)) { s with heap := h' }) :
    wpAny (model prog w) A (call (.type "enumerate") [v]) Q E s := by
  refine callType_new F.called_enumerate (by decide) (F.typeCall_enumerate_1 _) (F.newCall_enumerate_1 _) (fun obj => F.args_object_init_2 obj _) F.entry_enumerate_new (meets_enum_one B) ⟨h1, ?_⟩
  have z : (s.heap.push o).objs.size = s.heap.objs.size + 1 := Heap.size_push ..
  show _ ∧ _
  rw [z]
  have he : IsEnum ((s.heap.push o).push { cls := .type "enumerate", data := .fields #[.none, .bool false, .ref s.heap.objs.size, rawInt 0, .none, .none] }) (s.heap.objs.size + 1) s.heap.objs.size 0 .none := by
    have q := Heap.get?_push_size (s.heap.push o) (o := { cls := .type "enumerate", data := .fields #[.none, .bool false, .ref s.heap.objs.size, rawInt 0, .none, .none] }) rfl
    rw [z] at q; exact q
  exact ⟨⟨_, he, rfl⟩, h _ he (Heap.get?_push_of_some _ (Heap.get?_push_size _ B.free)) fun b u x => Heap.get?_push_of_some _ (Heap.get?_push_of_some _ x)⟩
end PySem
namespace DL
open PySem L2 PyProof.Rows
/-- a list (true) or a tuple -/
def SqB (k : Bool) (K : PySem.W.Frag) (H : Hp) (a : Nat) (xs : List V) : Prop := match k with
  | true => SqL K H a xs
  | false => SqT K H a xs
def itB (k : Bool) (h : Heap) (it a : Nat) (i : Nat) : Prop := match k with
  | true => h.IsListIter it a i
  | false => h.IsTupleIter it a i
def srcB (k : Bool) (h : Heap) (a : Nat) (items : Array Value) : Prop := match k with
  | true => h.IsList a items
  | false => h.IsTuple a items
def oB (k : Bool) (a : Nat) : Obj := match k with
  | true => { cls := .type "list_iterator", data := .fields #[.ref a, .int 0 0] }
  | false => { cls := .type "tuple_iterator", data := .fields #[.ref a, .int 0 0] }
theorem drawsB {prog : Program} {w : World} {A : Around} (hh : A.handled = none) (k : Bool) (it l : Nat) (hne : l ≠ it) (items : Array Value) :
    Draws prog w A it [it, l] items.size (fun i v => items[i]? = some v) (fun i h => itB k h it l i ∧ srcB k h l items) := by
  cases k with
  | true => exact Draws.list hh it l hne items
  | false => exact Draws.tuple hh it l hne items
theorem beginsB (k : Bool) (a : Nat) (items : Array Value) : Begins (.ref a) (oB k a) (fun h => srcB k h a items) := by
  cases k with
  | true => exact begins_list a items
  | false => exact begins_tuple a items
theorem itB_new {k : Bool} {h : Heap} {it a : Nat} (e : h.get? it = some (oB k a)) : itB k h it a 0 := by
  cases k with
  | true => exact ⟨_, e, rfl, rfl⟩
  | false => exact ⟨_, e, rfl, rfl⟩
theorem itB_obj {k : Bool} {h : Heap} {it a i : Nat} (x : itB k h it a i) : ∃ o, h.get? it = some o ∧ ∀ v, o.data ≠ .cell v := by
  cases k with
  | true => obtain ⟨o, e, _, d⟩ := x; exact ⟨o, e, fun v z => by rw [d] at z; cases z⟩
  | false => obtain ⟨o, e, _, d⟩ := x; exact ⟨o, e, fun v z => by rw [d] at z; cases z⟩
theorem itB_at {k : Bool} {h h' : Heap} {it a i : Nat} (x : itB k h it a i) (q : ∀ o, h.get? it = some o → h'.get? it = some o) : itB k h' it a i := by
  cases k with
  | true => exact Heap.IsListIter.at (h := h) x q
  | false => obtain ⟨o, e, r⟩ := x; exact ⟨o, q o e, r⟩
section
variable {X : Cx} {pins : List (Nat × Obj)} {σ : L2.St} {H : Hp} {s : Shared} {a : Nat} {xs ys : List V}
theorem seqB (I : Inv X pins σ H s) {k : Bool} (h : SqB k X.K H a xs) : ∃ its : List Value, Vals xs its ∧ srcB k s.heap a its.toArray := by
  cases k with
  | true => obtain ⟨its, r, p, _⟩ := I.list h; exact ⟨its, r, p.isList⟩
  | false => obtain ⟨its, r, p, _⟩ := I.tuple h; exact ⟨its, r, p⟩
theorem seqB_inj (I : Inv X pins σ H s) {k : Bool} (h : SqB k X.K H a xs) (h' : SqB k X.K H a ys) : xs = ys := by
  cases k with
  | true => exact I.list_inj h h'
  | false => exact I.tuple_inj h h'
end
/-- (i, x) for the i-th x -/
def ItE (k : Bool) (K : PySem.W.Frag) (a : Nat) : It :=
  ⟨fun i H => ∃ (xs : List V) (x : V), SqB k K H a xs ∧ xs[i]? = some x,
   fun i H v H' => ∃ T x, v = .ref T ∧ H T = none ∧ H' = upd H T (.tup [.int (i : Nat), x]) ∧ ∀ xs, SqB k K H a xs → xs[i]? = some x,
   fun i H => ∃ xs : List V, SqB k K H a xs ∧ xs.length = i⟩
theorem turnE {P : Program} {w : World} {K : PySem.W.Frag} {elts : List Expr} {kk : Nat} {tpos : Pos} (k : Bool) (a e it : Nat) (ea : e ≠ a) (ai : a ≠ it) (ei : e ≠ it) :
    Turn P w K (.Tuple elts kk tpos) (ItE k K a) [e, it] e (fun i h => (∃ old, IsEnum h e it ((i : Nat) : Int) old) ∧ itB k h it a i) where
  mem := List.mem_cons_self
  obj := fun i h ⟨⟨old, he⟩, hi⟩ b hb => by
    rcases List.mem_cons.mp hb with z | hb
    · rw [z]; exact ⟨_, he, fun v q => nomatch q⟩
    · rw [List.mem_singleton.mp hb]; exact itB_obj hi
  keep := fun i h h' ⟨⟨old, he⟩, hi⟩ q => ⟨⟨old, q e List.mem_cons_self _ he⟩, itB_at hi fun o z => q it (by simp) o z⟩
  item := by
    intro X hP hw hK hc i pins s σ H E I hf ⟨⟨old, he⟩, hit⟩ hg
    subst hP hw hK
    obtain ⟨xs, x, hq, hx⟩ := hg
    obtain ⟨its, rv, src⟩ := seqB I hq
    obtain ⟨u, hu, ru⟩ := rv.get hx
    have hel : e < s.heap.objs.size := Heap.lt_size he
    have hil : it < s.heap.objs.size := by obtain ⟨_, q, _⟩ := itB_obj hit; exact Heap.lt_size q
    have hlt : i < its.toArray.size := by
      have z := (List.getElem?_eq_some_iff.mp hu).1
      simpa using z
    refine wpAny_pyNext_enum_itemC (drawsB (A := X.A.in1) (I.ok.hd hc) k it a ai its.toArray) he ⟨hit, src⟩ hlt ei (by simp [ei, ea]) fun y h' tk hy ho hit' hT hsz hk => ?_
    have eu : y = u := by
      have hy' : its[i]? = some y := by simpa using hy
      rw [hu] at hy'
      exact (Option.some.inj hy').symm
    subst eu
    refine ⟨_, rfl, wpAny_letOwnedTupleGo_enum (s := { s with heap := h', toks := tk + 1 }) ho fun h'' he' sb => ?_⟩
    have hT2 : h''.get? s.heap.objs.size = some { cls := .type "tuple", data := .seq #[.int i tk, y] } := (sb.2 _ (Nat.ne_of_gt hel)).trans hT
    have nw : ObjOk X.prog X.w (upd H s.heap.objs.size (.tup [.int (i : Nat), x])) h'' s.heap.objs.size (.tup [.int (i : Nat), x]) :=
      ⟨(by show 2 ≤ sizeLine; decide), [.int i tk, y], .cons ⟨_, rfl⟩ (.cons ru .nil), ⟨_, hT2, rfl, _, rfl⟩⟩
    have I1 : Inv X pins σ (upd H s.heap.objs.size (.tup [.int (i : Nat), x])) { s with heap := h'', toks := tk + 1 } :=
      I.turnedNew (ch := [e, it]) (fun b ob hb q => (sb.2 b (fun z => hb (by rw [z]; exact List.mem_cons_self))).trans (hk b ob (fun z => hb (by rw [z]; exact List.mem_cons_self)) (fun z => hb (by simp [z])) q)) hf (Nat.le_refl _) nw
    refine ⟨.ref s.heap.objs.size, _, I1, rfl, ⟨_, x, rfl, I.hok.fresh (Nat.le_refl _), rfl, fun ys hy => by rw [seqB_inj I hy hq]; exact hx⟩, ⟨⟨y, ?_⟩, itB_at hit'.1 fun o q => (sb.2 it (Ne.symm ei)).trans q⟩, fun b hb => ?_⟩
    · have e1 : ((i + 1 : Nat) : Int) = (i : Int) + 1 := by omega
      rw [e1]; exact he'
    · have hb' : b < s.heap.objs.size := by
        rcases List.mem_cons.mp hb with z | z
        · rw [z]; exact hel
        · rw [List.mem_singleton.mp z]; exact hil
      rw [upd_ne (Nat.ne_of_lt hb')]
      exact (hf b hb).1
  done := by
    intro X hP hw hK hc i pins s σ H E I hf ⟨⟨old, he⟩, hit⟩ hg
    subst hP hw hK
    obtain ⟨xs, hq, hx⟩ := hg
    obtain ⟨its, rv, src⟩ := seqB I hq
    obtain ⟨f0, f1, f2, f3, f4, f5⟩ := hf it (by simp)
    have hl : its.toArray.size = i := by rw [List.size_toArray, ← rv.length, hx]
    exact wpAny_pyNext_enum_endD (drawsB (A := X.A.in1) (I.ok.hd hc) k it a ai its.toArray) he ⟨(by rw [hl]; exact hit), src⟩ fun h' eb => ⟨rfl, I.turned (t' := s.toks) (fun b o hb q => eb b o hb q) f0 f1 f3 f4 f5⟩
  self := fun A i s Q E st h => let ⟨⟨_, he⟩, _⟩ := st; wpAny_pyIter_enum he h
/-- pairs of two -/
def ItZ (k1 k2 : Bool) (K : PySem.W.Frag) (a b : Nat) : It :=
  ⟨fun i H => ∃ (xs ys : List V) (x y : V), SqB k1 K H a xs ∧ SqB k2 K H b ys ∧ xs[i]? = some x ∧ ys[i]? = some y,
    fun i H v H' => ∃ T x y, v = .ref T ∧ H T = none ∧ H' = upd H T (.tup [x, y]) ∧ (∀ xs, SqB k1 K H a xs → xs[i]? = some x) ∧ ∀ ys, SqB k2 K H b ys → ys[i]? = some y,
    fun i H => ∃ xs ys : List V, SqB k1 K H a xs ∧ SqB k2 K H b ys ∧ i ≤ xs.length ∧ i ≤ ys.length ∧ (i = xs.length ∨ i = ys.length)⟩
theorem turnZ {P : Program} {w : World} {K : PySem.W.Frag} {elts : List Expr} {kk : Nat} {tpos : Pos} (k1 k2 : Bool) {a b z TI TO i1 i2 : Nat} (ai : a ≠ i1) (bi : b ≠ i2) (S : ZipSep2 z TI TO i1 i2 [i1, a] [i2, b]) :
    Turn P w K (.Tuple elts kk tpos) (ItZ k1 k2 K a b) [z, TI, TO, i1, i2] z (fun i h => IsZip h z TI TO .none ∧ IsTupOf2 h TI (.ref i1) (.ref i2) ∧ (∃ x y, IsTupOf2 h TO x y) ∧ itB k1 h i1 a i ∧ itB k2 h i2 b i) where
  mem := List.mem_cons_self
  obj := fun i h ⟨hz, hTI, ⟨x, y, hTO⟩, h1, h2⟩ c hc => by
    have e' : c = z ∨ c = TI ∨ c = TO ∨ c = i1 ∨ c = i2 := by simpa using hc
    rcases e' with q | q | q | q | q <;> rw [q]
    · exact ⟨_, hz, fun v q => nomatch q⟩
    · exact ⟨_, hTI, fun v q => nomatch q⟩
    · exact ⟨_, hTO, fun v q => nomatch q⟩
    · exact itB_obj h1
    · exact itB_obj h2
  keep := fun i h h' ⟨hz, hTI, ⟨x, y, hTO⟩, h1, h2⟩ q =>
    ⟨q z (by simp) _ hz, q TI (by simp) _ hTI, ⟨x, y, q TO (by simp) _ hTO⟩, itB_at h1 fun o u => q i1 (by simp) o u, itB_at h2 fun o u => q i2 (by simp) o u⟩
  item := by
    intro X hP hw hK hc i pins s σ H E I hf ⟨hz, hTI, ⟨x0, y0, hTO⟩, h1, h2⟩ hg
    subst hP hw hK
    obtain ⟨xs, ys, x, y, hqx, hqy, hx, hy⟩ := hg
    obtain ⟨its, rv, src⟩ := seqB I hqx
    obtain ⟨its2, rv2, src2⟩ := seqB I hqy
    obtain ⟨u, hu, ru⟩ := rv.get hx
    obtain ⟨u2, hu2, ru2⟩ := rv2.get hy
    have hzl : z < s.heap.objs.size := Heap.lt_size hz
    have l1 : i < its.toArray.size := by have q := (List.getElem?_eq_some_iff.mp hu).1; simpa using q
    have l2 : i < its2.toArray.size := by have q := (List.getElem?_eq_some_iff.mp hu2).1; simpa using q
    refine wpAny_pyNext_zipD2_item S (drawsB (A := X.A.in1) (I.ok.hd hc) k1 i1 a ai its.toArray) (drawsB (A := X.A.in1) (I.ok.hd hc) k2 i2 b bi its2.toArray) hz hTI hTO ⟨h1, src⟩ ⟨h2, src2⟩ l1 l2 fun v1 v2 h' tk hv1 hv2 z' TO' s1' s2' hT hsz hk => ?_
    have ev1 : v1 = u := by
      have q : its[i]? = some v1 := by simpa using hv1
      rw [hu] at q; exact (Option.some.inj q).symm
    have ev2 : v2 = u2 := by
      have q : its2[i]? = some v2 := by simpa using hv2
      rw [hu2] at q; exact (Option.some.inj q).symm
    subst ev1 ev2
    refine ⟨_, rfl, wpAny_letOwnedTupleGo_zip (s := { s with heap := h', toks := tk }) z' fun h'' z'' sb => ?_⟩
    have hT2 : h''.get? s.heap.objs.size = some { cls := .type "tuple", data := .seq #[v1, v2] } := (sb.2 _ (Nat.ne_of_gt hzl)).trans hT
    have nw : ObjOk X.prog X.w (upd H s.heap.objs.size (.tup [x, y])) h'' s.heap.objs.size (.tup [x, y]) :=
      ⟨(by show 2 ≤ sizeLine; decide), [v1, v2], .cons ru (.cons ru2 .nil), ⟨_, hT2, rfl, _, rfl⟩⟩
    have I1 : Inv X pins σ (upd H s.heap.objs.size (.tup [x, y])) { s with heap := h'', toks := tk } :=
      I.turnedNew (t' := tk) (ch := [z, TI, TO, i1, i2]) (fun c o hb q => (sb.2 c (fun q' => hb (by simp [q']))).trans (hk c o (fun q' => hb (by simp [q'])) (fun q' => hb (by simp [q'])) (fun q' => hb (by simp [q'])) (fun q' => hb (by simp [q'])) q)) hf (Nat.le_refl _) nw
    have i1z : i1 ≠ z := Ne.symm S.zi1
    have i2z : i2 ≠ z := Ne.symm S.zi2
    refine ⟨.ref s.heap.objs.size, _, I1, rfl, ⟨_, x, y, rfl, I.hok.fresh (Nat.le_refl _), rfl, fun l hl => by rw [seqB_inj I hl hqx]; exact hx, fun l hl => by rw [seqB_inj I hl hqy]; exact hy⟩, ⟨z'', ?_, ⟨v1, v2, ?_⟩, ?_, ?_⟩, fun c hcm => ?_⟩
    · exact (sb.2 _ S.TIz).trans (hk _ _ S.TIz S.TITO S.TIi1 S.TIi2 hTI)
    · exact (sb.2 _ S.TOz).trans TO'
    · exact itB_at s1'.1 fun o q => (sb.2 _ i1z).trans q
    · exact itB_at s2'.1 fun o q => (sb.2 _ i2z).trans q
    · have hlt : c < s.heap.objs.size := by
        have e' : c = z ∨ c = TI ∨ c = TO ∨ c = i1 ∨ c = i2 := by simpa using hcm
        rcases e' with q | q | q | q | q <;> rw [q]
        · exact hzl
        · exact Heap.lt_size hTI
        · exact Heap.lt_size hTO
        · obtain ⟨_, e1, _⟩ := itB_obj h1; exact Heap.lt_size e1
        · obtain ⟨_, e2, _⟩ := itB_obj h2; exact Heap.lt_size e2
      rw [upd_ne (Nat.ne_of_lt hlt)]
      exact (hf c hcm).1
  done := by
    intro X hP hw hK hc i pins s σ H E I hf ⟨hz, hTI, ⟨x0, y0, hTO⟩, h1, h2⟩ hg
    subst hP hw hK
    obtain ⟨xs, ys, hqx, hqy, le1, le2, hend⟩ := hg
    obtain ⟨its, rv, src⟩ := seqB I hqx
    obtain ⟨its2, rv2, src2⟩ := seqB I hqy
    have l1 : its.toArray.size = xs.length := by rw [List.size_toArray, ← rv.length]
    have l2 : its2.toArray.size = ys.length := by rw [List.size_toArray, ← rv2.length]
    exact wpAny_pyNext_zipD2_end S (drawsB (A := X.A.in1) (I.ok.hd hc) k1 i1 a ai its.toArray) (drawsB (A := X.A.in1) (I.ok.hd hc) k2 i2 b bi its2.toArray) hz hTI hTO ⟨h1, src⟩ ⟨h2, src2⟩ (by rw [l1]; exact le1) (by rw [l2]; exact le2) (by rw [l1, l2]; exact hend)
      fun h' tk hk => ⟨rfl, I.turnedL (t' := tk) (ch := [z, TI, TO, i1, i2]) (fun c o hb q => hk c o (fun q' => hb (by simp [q'])) (fun q' => hb (by simp [q'])) (fun q' => hb (by simp [q'])) (fun q' => hb (by simp [q'])) q) hf⟩
  self := fun A i s Q E st h => wpAny_pyIter_zip st.1 h

/-! ### over data -/
/-- where the items of d are read -/
theorem src_of {g : G} {H1 : Hp} {M1 : MH} {d : D} {v : V} {ds : List D} (h : itemsOf M1 d = some ds) (r : Rp g.K H1 d v) (m1 : MR g H1 M1) : ∃ k a, v = .ref a ∧
    ∀ H M, MR g H M → Tups H1 H → still M1 d M → ∃ vs, SqB k g.K H a vs ∧ Rps g.K H ds vs := by
  cases r with
  | tup h1 r1 =>
    simp only [itemsOf, Option.some.injEq] at h
    subst h
    exact ⟨false, _, rfl, fun H M m e _ => ⟨_, .of (e.t _ _ h1), r1.mono e⟩⟩
  | cst h1 r1 =>
    simp only [itemsOf, Option.some.injEq] at h
    subst h
    exact ⟨true, _, rfl, fun H M m e _ => ⟨_, (h1.mono e).sq, r1.mono e⟩⟩
  | ref a =>
    unfold itemsOf at h
    simp only at h
    cases e : M1 a with
    | none => rw [e] at h; cases h
    | some o =>
      rw [e] at h
      cases o with
      | lst xs =>
        simp only [Option.some.injEq] at h
        subst h
        refine ⟨true, a, rfl, fun H M m ev al => ?_⟩
        obtain ⟨vs, h1, r⟩ := m.list (p := a) (Eq.trans al e)
        exact ⟨vs, .of h1, r⟩
      | dct kvs => cases h
      | rdc kvs => cases h
  | _ => simp [itemsOf] at h
def enumD : Nat → List D → List D
  | _, [] => []
  | k, d :: ds => .tup [.int (k : Nat), d] :: enumD (k + 1) ds
theorem enumD_len : ∀ (k : Nat) (ds : List D), (enumD k ds).length = ds.length
  | _, [] => rfl
  | k, d :: ds => by rw [enumD, List.length_cons, List.length_cons, enumD_len]
theorem enumD_get : ∀ (k i : Nat) (ds : List D) (y : D), (enumD k ds)[i]? = some y → ∃ d, ds[i]? = some d ∧ y = .tup [.int ((k + i : Nat) : Int), d]
  | _, _, [], _, h => by simp [enumD] at h
  | k, 0, d :: ds, y, h => by
    simp only [enumD, List.getElem?_cons_zero, Option.some.injEq] at h
    exact ⟨d, rfl, h.symm⟩
  | k, i + 1, d :: ds, y, h => by
    rw [enumD, List.getElem?_cons_succ] at h
    obtain ⟨d', e, q⟩ := enumD_get (k + 1) i ds y h
    exact ⟨d', by rw [List.getElem?_cons_succ]; exact e, by rw [q]; congr 3; omega⟩
def zipD (xs ys : List D) : List D := List.zipWith (fun a b => .tup [a, b]) xs ys
theorem pair_new {g : G} {H : Hp} {M : MH} {T : Nat} {x y : V} {a b : D} (m : MR g H M) (hT : H T = none) (ra : Rp g.K H a x) (rb : Rp g.K H b y) :
    MR g (upd H T (.tup [x, y])) M ∧ Ev H M (upd H T (.tup [x, y])) M ∧ Rp g.K (upd H T (.tup [x, y])) (.tup [a, b]) (.ref T) := by
  have t : Tups H (upd H T (.tup [x, y])) := Tups.upd0 hT
  exact ⟨m.newT hT, Ev.upd hT, .tup upd_same (.cons (ra.mono t) (.cons (rb.mono t) .nil))⟩
def diEnum (t : DTA) : DTI := fun W δ M R => t W δ M fun xs M1 => ∃ x ds, xs = [x] ∧ itemsOf M1 x = some ds ∧ R (enumD 0 ds) (still M1 x) M1
def diZip (t : DTA) : DTI := fun W δ M R => t W δ M fun xs M1 => ∃ x y ds es, xs = [x, y] ∧ itemsOf M1 x = some ds ∧ itemsOf M1 y = some es ∧ R (zipD ds es) (fun M' => still M1 x M' ∧ still M1 y M') M1
section
variable {X : Cx} {W : XK} {pos : Pos}
theorem di_enum {e : Expr} {t : DTA} {p tpos : Pos} {elts : List Expr} {kk : Nat} (hg : Gl X "enumerate") (hm : X.mg "enumerate" = none) (ha : PA X [e] (liftA (gOf X) W t)) (hs : starEach [e] X.env = [(false, eval e X.env)]) :
    PI X (.Tuple elts kk tpos) (.Call (.Name "enumerate" p) [e] [] pos) (liftI (gOf X) W (diEnum t)) := by
  refine ⟨fun pins s σ H R I ⟨δ, M, Wd, Rd, at_, q, k⟩ => ?_⟩
  refine Call_ (ld_blt I hg hm boot_enumerate (PyProof.Rows.callWith_type1 (thn (ha.run pos pins s σ H (fun vs H1 => ∃ ds M1, MR (gOf X) H1 M1 ∧ Rps X.K H1 ds vs ∧ Ev H M H1 M1 ∧ ∃ x xs, ds = [x] ∧ itemsOf M1 x = some xs ∧ Rd (enumD 0 xs) (still M1 x) M1) I
    ⟨δ, M, Wd, _, at_, q, fun ds vs H1 M1 m1 r1 e1 q1 => ⟨ds, M1, m1, r1, e1, q1⟩⟩) fun us s1 ⟨vs, H1, I1, ru, ds, M1, m1, r1, e1, x, xs, ex, hxs, q1⟩ => ?_) hs rfl))
  subst ex
  cases r1 with
  | cons rx rn =>
    cases rn
    obtain ⟨kd, a, ev, src⟩ := src_of hxs rx m1
    subst ev
    cases ru with
    | cons rv rn =>
      cases rn
      cases rv
      obtain ⟨vs1, hq, _⟩ := src H1 M1 m1 (Tups.refl _) (by cases x <;> first | rfl | trivial)
      obtain ⟨its, rv, hsrc⟩ := seqB I1 hq
      have hal : a < s1.heap.objs.size := by
        cases kd with
        | true => obtain ⟨o, e, _⟩ := hsrc; exact Heap.lt_size e
        | false => obtain ⟨o, e, _⟩ := hsrc; exact Heap.lt_size e
      refine enum_one (beginsB kd a its.toArray) hsrc fun h' he hit hk => wpAny_pyIter_enum he ?_
      have I2 : Inv X pins σ H1 { s1 with heap := h' } := I1.kept (t' := s1.toks) hk
      have n1 : (s1.heap.objs.size + 1 : Nat) ≠ a := Nat.ne_of_gt (Nat.lt_succ_of_lt hal)
      have n2 : a ≠ s1.heap.objs.size := Nat.ne_of_lt hal
      refine ⟨s1.heap.objs.size + 1, [s1.heap.objs.size + 1, s1.heap.objs.size], _, _, H1, rfl, I2, turnE kd a (s1.heap.objs.size + 1) s1.heap.objs.size n1 n2 (Nat.succ_ne_self _), ⟨⟨.none, he⟩, itB_new hit⟩, fun b hb => ?_, ?_⟩
      · have hle : s1.heap.objs.size ≤ b := by
          rcases List.mem_cons.mp hb with z | z
          · rw [z]; exact Nat.le_add_right _ _
          · rw [List.mem_singleton.mp z]; exact Nat.le_refl _
        exact I1.fpOk hle (I1.hok.fresh hle)
      · refine k _ _ _ H1 M1 m1 e1 ⟨fun i H' M' m e al hi => ?_, fun H' M' m e al => ?_, fun i H' M' y H2 d m e al yl hd => ?_⟩ q1
        · obtain ⟨vs, hq, r⟩ := src H' M' m e.w al
          rw [enumD_len] at hi
          obtain ⟨v, hv, _⟩ := r.get (i := i) (d := xs[i]) (by simp [hi])
          exact ⟨vs, v, hq, hv⟩
        · obtain ⟨vs, hq, r⟩ := src H' M' m e.w al
          exact ⟨vs, hq, by rw [enumD_len]; exact r.length.symm⟩
        · obtain ⟨vs, hq, r⟩ := src H' M' m e.w al
          obtain ⟨T, x', e1', hT, e2', hx'⟩ := yl
          subst e1' e2'
          obtain ⟨d', hd', ed⟩ := enumD_get _ _ _ _ hd
          subst ed
          obtain ⟨v, hv, rv'⟩ := r.get hd'
          have z := hx' vs hq
          rw [hv] at z
          cases z
          rw [Nat.zero_add]
          exact pair_new m hT (.int _) rv'
theorem di_zip {e e2 : Expr} {t : DTA} {p tpos : Pos} {elts : List Expr} {kk : Nat} (hg : Gl X "zip") (hm : X.mg "zip" = none) (ha : PA X [e, e2] (liftA (gOf X) W t)) (hs : starEach [e, e2] X.env = (false, eval e X.env) :: starEach [e2] X.env)
    (hpl : (backTo pos (starEach [e2] X.env)).any (·.1) = false) : PI X (.Tuple elts kk tpos) (.Call (.Name "zip" p) [e, e2] [] pos) (liftI (gOf X) W (diZip t)) := by
  refine ⟨fun pins s σ H R I ⟨δ, M, Wd, Rd, at_, q, k⟩ => ?_⟩
  refine Call_ (ld_blt I hg hm PyProof.Rows.boot_zip (PyProof.Rows.callWith_type1 (thn (ha.run pos pins s σ H (fun vs H1 => ∃ ds M1, MR (gOf X) H1 M1 ∧ Rps X.K H1 ds vs ∧ Ev H M H1 M1 ∧ ∃ x y xs ys, ds = [x, y] ∧ itemsOf M1 x = some xs ∧ itemsOf M1 y = some ys ∧ Rd (zipD xs ys) (fun M' => still M1 x M' ∧ still M1 y M') M1) I
    ⟨δ, M, Wd, _, at_, q, fun ds vs H1 M1 m1 r1 e1 q1 => ⟨ds, M1, m1, r1, e1, q1⟩⟩) fun us s1 ⟨vs, H1, I1, ru, ds, M1, m1, r1, e1, x, y, xs, ys, ex, hxs, hys, q1⟩ => ?_) hs hpl))
  subst ex
  cases r1 with
  | cons rx rn =>
    cases rn with
    | cons ry rn =>
      cases rn
      obtain ⟨k1, a, ev, src1⟩ := src_of hxs rx m1
      subst ev
      obtain ⟨k2, b, ev, src2⟩ := src_of hys ry m1
      subst ev
      cases ru with
      | cons rv rn =>
        cases rn with
        | cons rv2 rn =>
          cases rn
          cases rv
          cases rv2
          have st : ∀ z : D, still M1 z M1 := fun z => by cases z <;> first | rfl | trivial
          obtain ⟨vs1, hq1, _⟩ := src1 H1 M1 m1 (Tups.refl _) (st x)
          obtain ⟨vs2, hq2, _⟩ := src2 H1 M1 m1 (Tups.refl _) (st y)
          obtain ⟨its, rv, hs1⟩ := seqB I1 hq1
          obtain ⟨its2, rv2, hs2⟩ := seqB I1 hq2
          have lt : ∀ (k : Bool) (c : Nat) (it : Array Value), srcB k s1.heap c it → c < s1.heap.objs.size := fun k c it h => by
            cases k with
            | true => obtain ⟨o, e, _⟩ := h; exact Heap.lt_size e
            | false => obtain ⟨o, e, _⟩ := h; exact Heap.lt_size e
          have la := lt _ _ _ hs1
          have lb := lt _ _ _ hs2
          refine zip_begins2 (beginsB k1 a its.toArray) (beginsB k2 b its2.toArray) hs1 hs2 fun h' hz hTI hTO h1 h2 hsz hk => wpAny_pyIter_zip hz ?_
          have I2 : Inv X pins σ H1 { s1 with heap := h' } := I1.kept (t' := s1.toks) hk
          have n2 : b ≠ (s1.heap.objs.size + 1 : Nat) := Nat.ne_of_lt (Nat.lt_succ_of_lt lb)
          have S := zip_sep2 (N := s1.heap.objs.size) (fp1 := [a]) (fp2 := [b]) (fun c hc => by rw [List.mem_singleton.mp hc]; exact la) (fun c hc => by rw [List.mem_singleton.mp hc]; exact lb)
          refine ⟨s1.heap.objs.size + 4, [s1.heap.objs.size + 4, s1.heap.objs.size + 2, s1.heap.objs.size + 3, s1.heap.objs.size, s1.heap.objs.size + 1], _, _, H1, rfl, I2, turnZ k1 k2 (Nat.ne_of_lt la) n2 S, ⟨hz, hTI, ⟨_, _, hTO⟩, itB_new h1, itB_new h2⟩, fun c hcm => ?_, ?_⟩
          · have hle : s1.heap.objs.size ≤ c := by
              have e' : c = s1.heap.objs.size + 4 ∨ c = s1.heap.objs.size + 2 ∨ c = s1.heap.objs.size + 3 ∨ c = s1.heap.objs.size ∨ c = s1.heap.objs.size + 1 := by simpa using hcm
              rcases e' with z | z | z | z | z <;> rw [z]
              · exact Nat.le_add_right _ _
              · exact Nat.le_add_right _ _
              · exact Nat.le_add_right _ _
              · exact Nat.le_refl _
              · exact Nat.le_add_right _ _
            exact I1.fpOk hle (I1.hok.fresh hle)
          · have zl : (zipD xs ys).length = min xs.length ys.length := by unfold zipD; rw [List.length_zipWith]
            refine k _ _ _ H1 M1 m1 e1 ⟨fun i H' M' m e al hi => ?_, fun H' M' m e al => ?_, fun i H' M' v H2 d m e al yl hd => ?_⟩ q1
            · obtain ⟨us, hqa, ra⟩ := src1 H' M' m e.w al.1
              obtain ⟨ws, hqb, rb⟩ := src2 H' M' m e.w al.2
              rw [zl] at hi
              obtain ⟨v, hv, _⟩ := ra.get (i := i) (d := xs[i]'(by omega)) (by rw [List.getElem?_eq_getElem])
              obtain ⟨v', hv', _⟩ := rb.get (i := i) (d := ys[i]'(by omega)) (by rw [List.getElem?_eq_getElem])
              exact ⟨us, ws, v, v', hqa, hqb, hv, hv'⟩
            · obtain ⟨us, hqa, ra⟩ := src1 H' M' m e.w al.1
              obtain ⟨ws, hqb, rb⟩ := src2 H' M' m e.w al.2
              have l1 := ra.length
              have l2 := rb.length
              exact ⟨us, ws, hqa, hqb, by rw [zl]; omega, by rw [zl]; omega, by rw [zl]; omega⟩
            · obtain ⟨us, hqa, ra⟩ := src1 H' M' m e.w al.1
              obtain ⟨ws, hqb, rb⟩ := src2 H' M' m e.w al.2
              obtain ⟨T, x', y', e1', hT, e2', hx', hy'⟩ := yl
              subst e1' e2'
              have hz : (zipD xs ys)[i]? = some d := hd
              unfold zipD at hz
              rw [List.getElem?_zipWith] at hz
              cases ea : xs[i]? with
              | none => rw [ea] at hz; cases hz
              | some da =>
                cases eb : ys[i]? with
                | none => rw [ea, eb] at hz; cases hz
                | some db =>
                  rw [ea, eb] at hz
                  cases hz
                  obtain ⟨va, ha', rva⟩ := ra.get ea
                  obtain ⟨vb, hb', rvb⟩ := rb.get eb
                  have z1 := hx' us hqa
                  have z2 := hy' ws hqb
                  rw [ha'] at z1
                  rw [hb'] at z2
                  cases z1
                  cases z2
                  exact pair_new m hT rva rvb
end
end DL

set_option Elab.async false
set_option linter.all false
set_option maxRecDepth 20000
/-! DL5: dicts. -/
namespace DL
open PySem L2 PyProof.Rows
section
variable {P : Program} {w : World} {K : PySem.W.Frag} {H : Hp} {h : Heap}
mutual
theorem nest_of (ok : HOk P w H h) : ∀ (d : D) (k : NestedKey) (v : V) (u : Value), kyOf d = some k → Rp K H d v → RelV v u → NestedIs h k u
  | .non, k, v, u, e, r, ru => by
    cases r; cases ru
    simp only [kyOf, Option.some.injEq] at e
    subst e
    exact .none
  | .int i, k, v, u, e, r, ru => by
    cases r
    obtain ⟨t, rfl⟩ := ru
    simp only [kyOf, Option.some.injEq] at e
    subst e
    exact .int i t
  | .str x, k, v, u, e, r, ru => by
    cases r
    obtain ⟨t, rfl⟩ := ru
    simp only [kyOf, Option.some.injEq] at e
    subst e
    exact .text x t
  | .tup ds, k, v, u, e, r, ru => by
    cases r with
    | tup ha rs =>
      cases ru
      simp only [kyOf, Option.map_eq_some_iff] at e
      obtain ⟨ks, e1, rfl⟩ := e
      obtain ⟨_, its, rv, o, e2, hc, n, hd⟩ := ok _ _ ha
      exact .tup e2 hc hd (by rw [List.toList_toArray]; exact nests_of ok ds ks _ _ e1 rs rv)
  | .bl _, _, _, _, e, _, _ => by simp [kyOf] at e
  | .ref _, _, _, _, e, _, _ => by simp [kyOf] at e
  | .ty _, _, _, _, e, _, _ => by simp [kyOf] at e
  | .cst _, _, _, _, e, _, _ => by simp [kyOf] at e
theorem nests_of (ok : HOk P w H h) : ∀ (ds : List D) (ks : List NestedKey) (vs : List V) (us : List Value), kysOf ds = some ks → Rps K H ds vs → Vals vs us → NestedAll h ks us
  | [], ks, vs, us, e, r, ru => by
    simp only [kysOf, Option.some.injEq] at e
    subst e
    cases r; cases ru
    exact .nil
  | d :: ds, ks, vs, us, e, r, ru => by
    rw [kysOf] at e
    split at e
    · rename_i k ks' e1 e2
      cases e
      cases r with
      | cons r rs =>
        cases ru with
        | cons q qs => exact .cons (nest_of ok d k _ _ e1 r q) (nests_of ok ds ks' _ _ e2 rs qs)
    · cases e
end
end
/-- a key that a dict takes here: a tuple of whole numbers, texts, None and such, to depth 8 -/
def okKey (d : D) : Bool := match d with
  | .tup ds => match kysOf ds with
    | some ks => decide ((NestedKey.tup ks).depth ≤ 8)
    | none => false
  | _ => false
theorem okKey_of {d : D} (h : okKey d = true) : ∃ ds ks, d = .tup ds ∧ kyOf d = some (.tup ks) ∧ (NestedKey.tup ks).depth ≤ 8 := by
  cases d with
  | tup ds =>
    unfold okKey at h
    simp only at h
    cases e : kysOf ds with
    | none => rw [e] at h; cases h
    | some ks =>
      rw [e] at h
      exact ⟨ds, ks, rfl, by rw [kyOf, e]; rfl, of_decide_eq_true h⟩
  | _ => cases h
theorem room8 {P : Program} {w : World} {A : Around} (hu : A.units + 64 < cLine) : (nestedKind P w).room A.in1 := by
  show A.units + 1 + 8 < cLine
  omega
theorem atKey_nil {k : NestedKey} : atKey ([] : List KRow) k = none := rfl
theorem atKey_cons {k : NestedKey} {q : KRow} {xs : List KRow} : atKey (q :: xs) k = if q.1 = k then some q.2 else atKey xs k := by
  unfold atKey
  rw [List.find?_cons]
  by_cases e : q.1 = k
  · rw [if_pos e, decide_eq_true e]; rfl
  · rw [if_neg e, decide_eq_false e]
theorem at_none {K : PySem.W.Frag} {H : Hp} {d : D} {k : NestedKey} (hk : kyOf d = some k) : ∀ {kvs : List (D × D)} {xs : List KRow}, Paired (ERp K H) kvs xs → aget kvs d = none → atKey xs k = none
  | _, _, .nil, _ => rfl
  | _, _, .cons (a := p) (b := q) r t, h => by
    rw [atKey_cons]
    unfold aget at h
    by_cases e : p.1 = d
    · rw [if_pos e] at h; cases h
    · rw [if_neg e] at h
      rw [if_neg (fun z => e (kyOf_inj _ _ _ r.1 (by rw [z]; exact hk)))]
      exact at_none hk t h
theorem at_some {K : PySem.W.Frag} {H : Hp} {d y : D} {k : NestedKey} (hk : kyOf d = some k) : ∀ {kvs : List (D × D)} {xs : List KRow}, Paired (ERp K H) kvs xs → aget kvs d = some y → ∃ p, atKey xs k = some p ∧ ∃ v, RelV v p.2 ∧ Rp K H y v
  | _, _, .nil, h => by cases h
  | _, _, .cons (a := p) (b := q) r t, h => by
    rw [atKey_cons]
    unfold aget at h
    by_cases e : p.1 = d
    · rw [if_pos e] at h
      cases h
      have z : q.1 = k := Option.some.inj (r.1.symm.trans (by rw [e]; exact hk))
      rw [if_pos z]
      obtain ⟨_, _, _, v, rv, rp⟩ := r
      exact ⟨q.2, rfl, v, rv, rp⟩
    · rw [if_neg e] at h
      rw [if_neg (fun z => e (kyOf_inj _ _ _ r.1 (by rw [z]; exact hk)))]
      exact at_some hk t h
theorem paired_append {α β : Type} {F : α → β → Prop} : ∀ {l1 l2 : List α} {m1 m2 : List β}, Paired F l1 m1 → Paired F l2 m2 → Paired F (l1 ++ l2) (m1 ++ m2)
  | _, _, _, _, .nil, h => h
  | _, _, _, _, .cons r t, h => .cons r (paired_append t h)
theorem aput_none {d y : D} : ∀ {kvs : List (D × D)}, aget kvs d = none → aput kvs d y = kvs ++ [(d, y)]
  | [], _ => rfl
  | p :: r, h => by
    unfold aget at h
    unfold aput
    by_cases e : p.1 = d
    · rw [if_pos e] at h; cases h
    · rw [if_neg e] at h
      rw [if_neg e, aput_none h]; rfl
theorem aput_len (kvs : List (D × D)) (d y : D) : (aput kvs d y).length ≤ kvs.length + 1 := by
  induction kvs with
  | nil => exact Nat.le_refl _
  | cons p r ih =>
    unfold aput
    split
    · exact Nat.le_succ _
    · rw [List.length_cons, List.length_cons]; omega
/-- the pairs behind a store -/
theorem put_paired {K : PySem.W.Frag} {H : Hp} {d y : D} {k : NestedKey} {a : Nat} {v : V} {u : Value} (hk : kyOf d = some k) (dk : k.depth ≤ 8) (rd : Rp K H d (.ref a)) (rv : RelV v u) (ry : Rp K H y v)
    {kvs : List (D × D)} {xs : List KRow} (r : Paired (ERp K H) kvs xs) (nd : (xs.map (·.1)).Nodup) : Paired (ERp K H) (aput kvs d y) (storedH xs k a u) := by
  cases e : aget kvs d with
  | none =>
    rw [aput_none e, storedH_new (at_none hk r e)]
    exact paired_append r (.cons ⟨hk, dk, rd, v, rv, ry⟩ .nil)
  | some z =>
    obtain ⟨p, hp, _⟩ := at_some hk r e
    rw [storedH_old hp]
    clear hp
    induction r with
    | nil => cases e
    | cons r t ih =>
      rename_i p q kvs xs
      rw [List.map_cons] at nd
      have nd' := List.nodup_cons.mp nd
      unfold aget at e
      by_cases c : p.1 = d
      · have z : q.1 = k := Option.some.inj (r.1.symm.trans (by rw [c]; exact hk))
        unfold aput
        rw [if_pos c, List.map_cons, map_putAt_of_not_mem xs k u (by rw [← z]; exact nd'.1)]
        refine .cons ?_ t
        unfold putAt
        rw [if_pos z]
        exact ⟨r.1, r.2.1, r.2.2.1, v, rv, ry⟩
      · rw [if_neg c] at e
        unfold aput
        rw [if_neg c, List.map_cons]
        refine .cons ?_ (ih nd'.2 e)
        unfold putAt
        rw [if_neg (fun z => c (kyOf_inj _ _ _ r.1 (by rw [z]; exact hk)))]
        exact r
section
variable {X : Cx} {pins : List (Nat × Obj)} {σ : L2.St} {H : Hp} {s : Shared} {M : MH} {a : Nat} {kvs : List (D × D)}
/-- a dict is looked at -/
def IsD (M : MH) (a : Nat) (kvs : List (D × D)) : Prop := M a = some (.dct kvs) ∨ M a = some (.rdc kvs)
theorem dict_at (I : Inv X pins σ H s) (m : MR (gOf X) H M) (h : IsD M a kvs) : kvs.length ≤ sizeLine ∧ (a == sysModules) = false ∧ ∃ o xs, Rd H a (isO a o) ∧ s.heap.get? a = some o ∧ s.heap.DictOfH (nestedKind X.prog X.w) a xs ∧ Paired (ERp X.K H) kvs xs := by
  have key : ∀ o, Rd H a (isO a o) → DOk (gOf X) H o kvs → (a == sysModules) = false → kvs.length ≤ sizeLine ∧ (a == sysModules) = false ∧ ∃ o xs, Rd H a (isO a o) ∧ s.heap.get? a = some o ∧ s.heap.DictOfH (nestedKind X.prog X.w) a xs ∧ Paired (ERp X.K H) kvs xs := by
    intro o rd ⟨hl, xs, es, ep, ex, hd, he, nd, r⟩ hs
    obtain ⟨ho, _⟩ := rd.ok I.hok
    refine ⟨hl, hs, o, xs, rd, ho, ⟨o, es, ep, ho, ex, hd, he, fun q hq => ?_, nd⟩, r⟩
    have all : ∀ {kvs : List (D × D)} {xs : List KRow}, Paired (ERp X.K H) kvs xs → ∀ q ∈ xs, NestedIs s.heap q.1 (.ref q.2.1) ∧ q.1.depth ≤ 8 := fun {kvs xs} r => by
      induction r with
      | nil => intro q hq; cases hq
      | cons r t ih =>
        intro q hq
        rcases List.mem_cons.mp hq with e | hq
        · subst e
          exact ⟨nest_of I.hok _ _ _ _ r.1 r.2.2.1 rfl, r.2.1⟩
        · exact ih q hq
    exact all r q hq
  rcases h with h | h
  · obtain ⟨o, h1, h2, h3⟩ := m a _ h
    exact key o (.inl h1) h2 h3
  · obtain ⟨o, u, h1, h2, h3⟩ := m a _ h
    exact key o (.inr ⟨u, h1⟩) h2 h3
theorem key_at (I : Inv X pins σ H s) {d : D} {v : V} {u : Value} (ok : okKey d = true) (r : Rp X.K H d v) (ru : RelV v u) : ∃ k b, kyOf d = some k ∧ k.depth ≤ 8 ∧ v = .ref b ∧ u = .ref b ∧ (nestedKind X.prog X.w).is s.heap k b := by
  obtain ⟨ds, ks, rfl, hk, hdp⟩ := okKey_of ok
  have n := nest_of I.hok _ _ _ _ hk r ru
  cases r with
  | tup h rs =>
    cases ru
    exact ⟨_, _, hk, hdp, rfl, rfl, n, hdp⟩
/-- a dict's object is written -/
theorem dict_write {t' : Nat} {h' : Heap} {xs : List KRow} (I : Inv X pins σ H s) (m : MR (gOf X) H M) {kvs' : List (D × D)} (h : M a = some (.dct kvs)) (sb : Heap.SameBut a s.heap h') (nw : h'.DictOfH (nestedKind X.prog X.w) a xs) (hl : kvs'.length ≤ sizeLine)
    (r : Paired (ERp X.K H) kvs' xs) : ∃ H', Inv X pins σ H' { s with heap := h', toks := t' } ∧ MR (gOf X) H' (up M a (.dct kvs')) ∧ Ev H M H' (up M a (.dct kvs')) := by
  obtain ⟨o0, h1, _, hs⟩ := m a _ h
  obtain ⟨o, es, ep, ho, ex, hd, he, _, nd⟩ := nw
  have t : Tz H (upd H a (isO a o)) := Tz.upd (fun xs e => by rw [h1] at e; cases e) (fun u xs e => by rw [h1] at e; cases e)
  have ob : ObjOk X.prog X.w (upd H a (isO a o)) h' a (isO a o) := ⟨ho, ⟨o, ho⟩, fun h1 h2 p q => q o p⟩
  refine ⟨upd H a (isO a o), I.write (x := a) (e := a) (by rw [h1]; trivial) (.inl rfl) (fun b q hb z => (sb.2 b hb).trans z) ⟨o, ho⟩ ob, ?_, Ev.put h t⟩
  exact m.at (u := .dct kvs') t.w ⟨o, upd_same, ⟨hl, xs, es, ep, ex, hd, he, nd, Paired.mapP r fun _ _ z => z.mono t.w⟩, hs⟩
/-- a new dict -/
theorem dict_new {t' : Nat} {h' : Heap} {xs : List KRow} {p : Nat} (I : Inv X pins σ H s) (m : MR (gOf X) H M) (hp : s.heap.objs.size ≤ p) (kp : ∀ b u, s.heap.get? b = some u → h'.get? b = some u) (nw : h'.DictOfH (nestedKind X.prog X.w) p xs) (hl : kvs.length ≤ sizeLine)
    (r : Paired (ERp X.K H) kvs xs) : ∃ H', Inv X pins σ H' { s with heap := h', toks := t' } ∧ MR (gOf X) H' (up M p (.dct kvs)) ∧ Ev H M H' (up M p (.dct kvs)) ∧ M p = none := by
  obtain ⟨o, es, ep, ho, ex, hd, he, _, nd⟩ := nw
  have hn : H p = none := I.hok.fresh hp
  have t : Tups H (upd H p (isO p o)) := Tups.upd0 hn
  have ob : ObjOk X.prog X.w (upd H p (isO p o)) h' p (isO p o) := ⟨ho, ⟨o, ho⟩, fun h1 h2 p q => q o p⟩
  have hs : (p == sysModules) = false := beq_eq_false_iff_ne.mpr (Ne.symm (Nat.ne_of_lt (Nat.lt_of_lt_of_le I.big hp)))
  exact ⟨upd H p (isO p o), I.laid (t' := t') kp hp ob, m.at (u := .dct kvs) t ⟨o, upd_same, ⟨hl, xs, es, ep, ex, hd, he, nd, Paired.mapP r fun _ _ z => z.mono t⟩, hs⟩, Ev.up hn, m.free hn⟩
end

/-! ### rules -/
/-- what every context of ours gives -/
structure Std (X : Cx) : Prop where
  calm : X.calm = true
  un : X.A.units + 64 < cLine
  un2 : X.A.units + 200 < cLine
/-- the end of an expression's rule -/
theorem ep_of {X : Cx} {pins : List (Nat × Obj)} {σ : L2.St} {H H' : Hp} {M M' : MH} {s' : Shared} {Qd : DQ} {Q : VK} {d : D} {v : V} {u : Value} (k : Kt (gOf X) H M Qd Q) (I : Inv X pins σ H' s') (m : MR (gOf X) H' M') (e : Ev H M H' M') (r : Rp X.K H' d v) (ru : RelV v u) (q : Qd d M') : EP X pins σ Q u s' :=
  ⟨v, H', I, ru, k d v H' M' m r e q⟩
/-- x in a dict -/
def inDict (M : MH) (x : D) (a : Nat) (Q : Bool → Prop) : Prop := ∃ kvs, IsD M a kvs ∧ okKey x = true ∧ Q (aget kvs x).isSome
def rInD (neg : Bool) : DR2 := fun x y M Q => ∃ a, y = .ref a ∧ inDict M x a fun b => Q (.bl (if neg then !b else b)) M
theorem agets {X : Cx} {H : Hp} {kvs : List (D × D)} {xs : List KRow} {d : D} {k : NestedKey} (hk : kyOf d = some k) (r : Paired (ERp X.K H) kvs xs) : (atKey xs k).isSome = (aget kvs d).isSome := by
  cases e : aget kvs d with
  | none => rw [at_none hk r e]; rfl
  | some y => obtain ⟨p, hp, _⟩ := at_some hk r e; rw [hp]; rfl
theorem op_inD {X : Cx} (S : Std X) : OpR X (compareOp .In) (liftR2 (gOf X) (rInD false)) := by
  intro pins s σ H x y v u Q I rx ry ⟨d, e, M, Qd, r1, r2, m, ⟨a, ea, kvs, hD, ok, q⟩, k⟩
  subst ea
  cases r2
  cases ry
  obtain ⟨hl, hs, o, xs, _, _, dd, r⟩ := dict_at I m hD
  obtain ⟨ky, b, hk, _, rfl, rfl, is⟩ := key_at I ok r1 rx
  refine wpAny_in_heap (room8 S.un) is hs dd (ep_of k (I.tok _) m (Ev.refl _ _) (.bl _) rfl ?_)
  rw [agets (X := X) hk r]
  exact q
theorem op_notInD {X : Cx} (S : Std X) : OpR X (compareOp .NotIn) (liftR2 (gOf X) (rInD true)) := by
  intro pins s σ H x y v u Q I rx ry ⟨d, e, M, Qd, r1, r2, m, ⟨a, ea, kvs, hD, ok, q⟩, k⟩
  subst ea
  cases r2
  cases ry
  obtain ⟨hl, hs, o, xs, _, _, dd, r⟩ := dict_at I m hD
  obtain ⟨ky, b, hk, _, rfl, rfl, is⟩ := key_at I ok r1 rx
  show wpAny _ _ (do return Value.bool (!(← contains (Value.ref a) (Value.ref b)))) _ _ s
  refine wpAny_bind (wpAny_contains_heap (room8 S.un) is hs dd (wpAny_pure (ep_of k (I.tok _) m (Ev.refl _ _) (.bl _) rfl ?_)))
  rw [agets (X := X) hk r]
  exact q
/-- d[k] -/
def rGetD : DR2 := fun x y M Q => ∃ a kvs d, x = .ref a ∧ IsD M a kvs ∧ okKey y = true ∧ aget kvs y = some d ∧ Q d M
theorem ix_dict {X : Cx} (S : Std X) : IxR X (liftR2 (gOf X) rGetD) := by
  intro value slice pins s σ H x y v u Q I rx ry ⟨d, e, M, Qd, r1, r2, m, ⟨a, kvs, z, ea, hD, ok, hz, q⟩, k⟩ hs
  subst ea
  cases r1
  cases rx
  obtain ⟨hl, hsy, o, xs, _, _, dd, r⟩ := dict_at I m hD
  obtain ⟨ky, b, hk, _, rfl, rfl, is⟩ := key_at I ok r2 ry
  obtain ⟨p, hp, v', rv, rp⟩ := at_some hk r hz
  exact tail_any dd.typeIs PySem.F.slot_dict_getitem.lookup (wpAny_getItem_heap (room8 S.un) is dd hp (ep_of k (I.tok _) m (Ev.refl _ _) rp rv q)) hs
/-- d[k] = v -/
def rSetD : DTSet := fun o i v M Q => ∃ a kvs, o = .ref a ∧ M a = some (.dct kvs) ∧ okKey i = true ∧ kvs.length < sizeLine ∧ Q (up M a (.dct (aput kvs i v)))
theorem set_dict {X : Cx} (S : Std X) : PSet X (liftSet (gOf X) rSetD) := by
  intro pins s σ H o i v ov iv u Q I ro ri rv ⟨od, id_, vd, M, Qd, r1, r2, r3, m, ⟨a, kvs, ea, hM, ok, hl, q⟩, k⟩
  subst ea
  cases r1
  cases ro
  obtain ⟨hl0, hsy, ob, xs, _, _, dd, r⟩ := dict_at I m (.inl hM)
  obtain ⟨ky, b, hk, hdp, rfl, rfl, is⟩ := key_at I ok r2 ri
  refine wpAny_setItem_heap (hsz := by rw [← Paired.length r]; exact hl0) (room8 S.un) is dd fun h' nw sb => ?_
  have nd := dd.nodup
  obtain ⟨H', I', m', e'⟩ := dict_write (kvs' := aput kvs id_ vd) (t' := s.toks + (nestedKind X.prog X.w).draws ky) I m hM sb nw (Nat.le_trans (aput_len _ _ _) hl) (put_paired hk hdp r2 rv r3 r nd)
  exact ⟨H', I', k H' _ m' e' q⟩
/-- {} -/
def dNewD : DTE := fun _ _ M Q => ∀ p, M p = none → Q (.ref p) (up M p (.dct []))
theorem de_newD {X : Cx} {W : XK} {pos : Pos} : PE X (.Dict [] [] pos) (liftE (gOf X) W dNewD) := by
  refine ⟨fun pins s σ H Q I ⟨δ, M, Wd, Qd, at_, q, k⟩ => wpAny_Dict_empty ?_⟩
  obtain ⟨H', I', m', e', hn⟩ := dict_new (kvs := []) (xs := []) (t' := s.toks) I at_.mr (Nat.le_refl _) (fun b u e => Heap.get?_push_of_some _ e) (Heap.DictOfH.new s.heap) (Nat.zero_le _) .nil
  exact ep_of k I' m' e' (.ref _) rfl (q _ hn)
end DL

set_option Elab.async false
set_option linter.all false
set_option maxRecDepth 20000
/-! DL6: the rules of operators, comparisons, subscripts. -/
namespace DL
open PySem L2 PyProof.Rows
/-! ### data as the library's -/
mutual
def toP : D → PyData
  | .non => .none
  | .bl b => .bool b
  | .int i => .int i
  | .str x => .str x
  | .tup ds => .tuple (toPs ds)
  | .cst ds => .list (toPs ds)
  | .ref _ => .dict []
  | .ty _ => .dict []
def toPs : List D → List PyData
  | [] => []
  | d :: ds => toP d :: toPs ds
end
mutual
/-- what d reads as: lists by what stands in them -/
inductive Dn (M : MH) : D → D → Prop
  | non : Dn M .non .non
  | bl (b : Bool) : Dn M (.bl b) (.bl b)
  | int (i : Int) : Dn M (.int i) (.int i)
  | str (x : Str) : Dn M (.str x) (.str x)
  | tup {ds es : List D} (t : Dns M ds es) : Dn M (.tup ds) (.tup es)
  | cst {ds es : List D} (t : Dns M ds es) : Dn M (.cst ds) (.cst es)
  | lst {a : Nat} {ds es : List D} (h : M a = some (.lst ds)) (t : Dns M ds es) : Dn M (.ref a) (.cst es)
inductive Dns (M : MH) : List D → List D → Prop
  | nil : Dns M [] []
  | cons {d e : D} {ds es : List D} (h : Dn M d e) (t : Dns M ds es) : Dns M (d :: ds) (e :: es)
end
mutual
/-- no list, no dict within: it reads as itself -/
def flatD : D → Bool
  | .non => true
  | .bl _ => true
  | .int _ => true
  | .str _ => true
  | .tup ds => flatDs ds
  | .cst _ => false
  | .ref _ => false
  | .ty _ => false
def flatDs : List D → Bool
  | [] => true
  | d :: ds => flatD d && flatDs ds
end
mutual
theorem Dn.flat {M : MH} : ∀ d : D, flatD d = true → Dn M d d
  | .non, _ => .non
  | .bl b, _ => .bl b
  | .int i, _ => .int i
  | .str x, _ => .str x
  | .tup ds, h => .tup (Dn.flats ds h)
  | .cst _, h => by cases h
  | .ref _, h => by cases h
  | .ty _, h => by cases h
theorem Dn.flats {M : MH} : ∀ ds : List D, flatDs ds = true → Dns M ds ds
  | [], _ => .nil
  | d :: ds, h => by
    rw [flatDs, Bool.and_eq_true] at h
    exact .cons (Dn.flat d h.1) (Dn.flats ds h.2)
end
/-- a list of flat things -/
theorem Dn.ofL {M : MH} {a : Nat} {ds : List D} (h : M a = some (.lst ds)) (f : flatDs ds = true) : Dn M (.ref a) (.cst ds) := .lst h (Dn.flats ds f)
mutual
theorem dp_of {g : G} {H : Hp} {M : MH} (m : MR g H M) : ∀ {d e : D} {v : V}, Dn M d e → Rp g.K H d v → Dp g.K H v (toP e)
  | _, _, _, .non, .non => .non
  | _, _, _, .bl b, .bl _ => .bl b
  | _, _, _, .int i, .int _ => .int i
  | _, _, _, .str x, .str _ => .str x
  | _, _, _, .tup t, .tup h r => .tup (.of h) (dps_of m t r)
  | _, _, _, .cst t, .cst h r => .lst h.sq (dps_of m t r)
  | _, _, _, .lst h t, q => by
    cases q
    obtain ⟨vs, h1, r⟩ := m.list h
    exact .lst (.of h1) (dps_of m t r)
theorem dps_of {g : G} {H : Hp} {M : MH} (m : MR g H M) : ∀ {ds es : List D} {vs : List V}, Dns M ds es → Rps g.K H ds vs → DpAll g.K H vs (toPs es)
  | _, _, _, .nil, .nil => .nil
  | _, _, _, .cons h t, .cons r rs => .cons (dp_of m h r) (dps_of m t rs)
end
/-- == of what is read -/
def eqD (x y : D) : Bool := PyData.eqv (toP x) (toP y)
def okP (x : D) : Bool := SeqAt.shaped (toP x)
def rEqv (neg : Bool) : DR2 := fun x y M Q => ∃ d e, Dn M x d ∧ Dn M y e ∧ okP d = true ∧ okP e = true ∧ Q (.bl (if neg then !eqD d e else eqD d e)) M
section
variable {X : Cx}
theorem op_eqv (S : Std X) : OpR X (compareOp .Eq) (liftR2 (gOf X) (rEqv false)) := by
  intro pins s σ H x y v u Q I rx ry ⟨dx, dy, M, Qd, r1, r2, m, ⟨d, e, n1, n2, o1, o2, q⟩, k⟩
  exact op_eqD S.un pins s σ H x y v u Q I rx ry ⟨toP d, toP e, dp_of m n1 r1, dp_of m n2 r2, o1, o2, k _ _ H M m (.bl _) (Ev.refl _ _) q⟩
theorem op_nev (S : Std X) : OpR X (compareOp .NotEq) (liftR2 (gOf X) (rEqv true)) := by
  intro pins s σ H x y v u Q I rx ry ⟨dx, dy, M, Qd, r1, r2, m, ⟨d, e, n1, n2, o1, o2, q⟩, k⟩
  exact op_neD S.un pins s σ H x y v u Q I rx ry ⟨toP d, toP e, dp_of m n1 r1, dp_of m n2 r2, o1, o2, k _ _ H M m (.bl _) (Ev.refl _ _) q⟩
end
/-! ### == of plain data is equality -/
mutual
/-- whole numbers, texts, None, tuples and (read) lists of such -/
def plD : D → Bool
  | .non => true
  | .int _ => true
  | .str _ => true
  | .tup ds => plDs ds
  | .cst ds => plDs ds
  | .bl _ => false
  | .ref _ => false
  | .ty _ => false
def plDs : List D → Bool
  | [] => true
  | d :: ds => plD d && plDs ds
end
mutual
theorem eqD_pl : ∀ (x y : D), plD x = true → plD y = true → PyData.eqv (toP x) (toP y) = D.eqb x y
  | .non, y, _, h => by cases y <;> simp_all [toP, PyData.eqv, D.eqb, plD]
  | .int i, y, _, h => by
    cases y <;> simp_all [toP, PyData.eqv, D.eqb, plD]
    rw [Bool.beq_eq_decide_eq]
  | .str i, y, _, h => by
    cases y <;> simp_all [toP, PyData.eqv, D.eqb, plD]
    rw [Bool.beq_eq_decide_eq]
  | .tup xs, y, h1, h => by
    cases y with
    | tup ys => rw [toP, toP, PyData.eqv, D.eqb]; exact eqD_pls xs ys h1 h
    | _ => simp_all [toP, PyData.eqv, D.eqb, plD]
  | .cst xs, y, h1, h => by
    cases y with
    | cst ys => rw [toP, toP, PyData.eqv, D.eqb]; exact eqD_pls xs ys h1 h
    | _ => simp_all [toP, PyData.eqv, D.eqb, plD]
  | .bl _, _, h, _ => by cases h
  | .ref _, _, h, _ => by cases h
  | .ty _, _, h, _ => by cases h
theorem eqD_pls : ∀ (xs ys : List D), plDs xs = true → plDs ys = true → PyData.eqvAll (toPs xs) (toPs ys) = D.eqbs xs ys
  | [], [], _, _ => rfl
  | [], _ :: _, _, _ => rfl
  | _ :: _, [], _, _ => rfl
  | x :: xs, y :: ys, h1, h2 => by
    rw [plDs, Bool.and_eq_true] at h1 h2
    rw [toPs, toPs, PyData.eqvAll, D.eqbs, eqD_pl x y h1.1 h2.1, eqD_pls xs ys h1.2 h2.2]
end
theorem eqb_decide (x y : D) : D.eqb x y = decide (x = y) := by
  by_cases h : x = y
  · rw [decide_eq_true h, h]; exact D.eqb_refl y
  · rw [decide_eq_false h]
    cases e : D.eqb x y with
    | false => rfl
    | true => exact absurd (D.eqb_eq x y e) h
theorem eqD_plain {x y : D} (hx : plD x = true) (hy : plD y = true) : eqD x y = decide (x = y) := (eqD_pl x y hx hy).trans (eqb_decide x y)
end DL

set_option Elab.async false
set_option linter.all false
set_option maxRecDepth 20000
/-! DL7: the tables of rules. -/
namespace DL
open PySem L2 PyProof.Rows
theorem OpR.imp {X : Cx} {f : Value → Value → Sem Value} {r r' : R2} (h : OpR X f r) (i : ∀ x y H Q, r' x y H Q → r x y H Q) : OpR X f r' := fun pins s σ H x y v u Q I rx ry q => h pins s σ H x y v u Q I rx ry (i x y H Q q)
theorem CallR.imp {X : Cx} {f : Value} {r r' : List V → Hp → VK → Prop} (h : CallR X f r) (i : ∀ xs H Q, r' xs H Q → r xs H Q) : CallR X f r' := fun pins s σ H xs us Q I rx q => h pins s σ H xs us Q I rx (i xs H Q q)
theorem lift_or2 {g : G} {r r' : DR2} {x y : V} {H : Hp} {Q : VK} (h : liftR2 g (fun a b M Q => r a b M Q ∨ r' a b M Q) x y H Q) : liftR2 g r x y H Q ∨ liftR2 g r' x y H Q := by
  obtain ⟨d, e, M, Qd, r1, r2, m, q, k⟩ := h
  rcases q with q | q
  · exact .inl ⟨d, e, M, Qd, r1, r2, m, q, k⟩
  · exact .inr ⟨d, e, M, Qd, r1, r2, m, q, k⟩
theorem op_or {X : Cx} {f : Value → Value → Sem Value} {r r' : DR2} (h : OpR X f (liftR2 (gOf X) r)) (h' : OpR X f (liftR2 (gOf X) r')) : OpR X f (liftR2 (gOf X) fun a b M Q => r a b M Q ∨ r' a b M Q) := by
  intro pins s σ H x y v u Q I rx ry q
  rcases lift_or2 q with q | q
  · exact h pins s σ H x y v u Q I rx ry q
  · exact h' pins s σ H x y v u Q I rx ry q
theorem op_no {X : Cx} {f : Value → Value → Sem Value} : OpR X f (liftR2 (gOf X) fun _ _ _ _ => False) := by
  intro pins s σ H x y v u Q I rx ry ⟨_, _, _, _, _, _, _, q, _⟩
  exact q.elim
/-! ### two whole numbers -/
def r2I (C : Int → Int → Prop) (f : Int → Int → D) : DR2 := fun x y M Q => ∃ i j, x = .int i ∧ y = .int j ∧ C i j ∧ Q (f i j) M
theorem op_r2I {X : Cx} {f : Value → Value → Sem Value} {C : Int → Int → Prop} {g : Int → Int → D} {gv : Int → Int → V} (h : OpR X f (rI C gv)) (hg : ∀ i j H, Rp X.K H (g i j) (gv i j)) : OpR X f (liftR2 (gOf X) (r2I C g)) :=
  OpR.imp h fun x y H Q ⟨d, e, M, Qd, r1, r2, m, ⟨i, j, e1, e2, c, q⟩, k⟩ => by
    subst e1 e2
    cases r1
    cases r2
    exact ⟨i, j, rfl, rfl, c, k _ _ H M m (hg i j H) (Ev.refl _ _) q⟩
theorem rI_of {f : Int → Int → V} {x y : V} {H : Hp} {Q : VK} (h : rI (fun _ _ => True) f x y H Q) : rI0 f x y H Q := by
  obtain ⟨i, j, e1, e2, _, q⟩ := h
  exact ⟨i, j, e1, e2, q⟩
abbrev C1 : Int → Int → Prop := fun _ _ => True
/-- tuples one behind the other -/
def rCatTD : DR2 := fun x y M Q => ∃ a b, x = .tup a ∧ y = .tup b ∧ a.length + b.length ≤ sizeLine ∧ Q (.tup (a ++ b)) M
theorem op_catTD {X : Cx} : OpR X (binaryOp .Add) (liftR2 (gOf X) rCatTD) :=
  OpR.imp op_catA fun x y H Q ⟨d, e, M, Qd, r1, r2, m, ⟨a, b, e1, e2, hl, q⟩, k⟩ => by
    subst e1 e2
    cases r1 with
    | @tup _ p us h1 r1 =>
      cases r2 with
      | @tup _ p2 ws h2 r2 =>
        refine ⟨p, p2, us, ws, rfl, rfl, .of h1, .of h2, by rw [← r1.length, ← r2.length]; exact hl, fun e => ?_, fun _ e => ?_, fun _ _ n hn => ?_⟩
        · subst e
          cases r1
          exact k _ _ H M m (.tup h2 r2) (Ev.refl _ _) q
        · subst e
          cases r2
          rw [List.append_nil] at q
          exact k _ _ H M m (.tup h1 r1) (Ev.refl _ _) q
        · have t : Tups H (upd H n (.tup (us ++ ws))) := Tups.upd0 hn
          exact k _ _ _ M (m.newT hn) (.tup upd_same ((r1.append r2).mono t)) (Ev.upd hn) q
/-- lists one behind the other: a new one -/
def rCatLD : DR2 := fun x y M Q => ∃ p q a b, x = .ref p ∧ y = .ref q ∧ M p = some (.lst a) ∧ M q = some (.lst b) ∧ a.length + b.length ≤ sizeLine ∧ ∀ r, M r = none → Q (.ref r) (up M r (.lst (a ++ b)))
theorem op_catLD {X : Cx} : OpR X (binaryOp .Add) (liftR2 (gOf X) rCatLD) :=
  OpR.imp op_cat fun x y H Q ⟨d, e, M, Qd, r1, r2, m, ⟨p, q, a, b, e1, e2, h1, h2, hl, qq⟩, k⟩ => by
    subst e1 e2
    cases r1
    cases r2
    obtain ⟨us, g1, r1⟩ := m.list h1
    obtain ⟨ws, g2, r2⟩ := m.list h2
    exact ⟨p, q, us, ws, rfl, rfl, g1, g2, by rw [← r1.length, ← r2.length]; exact hl, fun n hn => k _ _ _ _ (m.newL hn (r1.append r2)) (.ref n) (Ev.up hn) (qq n (m.free hn))⟩
/-- list * number: a new one -/
def rRepLD : DR2 := fun x y M Q => ∃ p a k, x = .ref p ∧ y = .int k ∧ M p = some (.lst a) ∧ -(2 ^ 63) ≤ k ∧ k < 2 ^ 63 ∧ a.length * k.toNat ≤ sizeLine ∧ ∀ r, M r = none → Q (.ref r) (up M r (.lst (List.replicate k.toNat a).flatten))
theorem op_repLD {X : Cx} : OpR X (binaryOp .Mult) (liftR2 (gOf X) rRepLD) :=
  OpR.imp op_rep fun x y H Q ⟨d, e, M, Qd, r1, r2, m, ⟨p, a, kk, e1, e2, h1, b1, b2, hl, qq⟩, k⟩ => by
    subst e1 e2
    cases r1
    cases r2
    obtain ⟨us, g1, r1⟩ := m.list h1
    exact ⟨p, kk, us, rfl, rfl, g1, b1, b2, by rw [← r1.length]; exact hl, fun n hn => k _ _ _ _ (m.newL hn (r1.rep _)) (.ref n) (Ev.up hn) (qq n (m.free hn))⟩
def CDivE (i j : Int) : Prop := CDivW i j ∨ CDivN i j
def ruleBin : Operator → DR2
  | .Add => fun x y M Q => (r2I C1 (fun i j => .int (i + j)) x y M Q ∨ rCatTD x y M Q) ∨ rCatLD x y M Q
  | .Sub => r2I C1 fun i j => .int (i - j)
  | .Mult => fun x y M Q => (r2I CMul (fun i j => .int (i * j)) x y M Q ∨ r2I CMulW (fun i j => .int (i * j)) x y M Q) ∨ rRepLD x y M Q
  | .FloorDiv => fun x y M Q => r2I CDivN (fun i j => .int (i.fdiv j)) x y M Q ∨ r2I CDivW (fun i j => .int (i / j)) x y M Q
  | .Mod => r2I (fun _ j => j ≠ 0) fun i j => .int (i.fmod j)
  | .Pow => r2I CPow fun i j => .int (i ^ j.toNat)
  | _ => fun _ _ _ _ => False
theorem ruleBin_ok {X : Cx} (op : Operator) : OpR X (binaryOp op) (liftR2 (gOf X) (ruleBin op)) := by
  cases op with
  | Add => exact op_or (op_or (op_r2I (OpR.imp op_add fun _ _ _ _ => rI_of) fun _ _ _ => .int _) op_catTD) op_catLD
  | Sub => exact op_r2I (OpR.imp op_sub fun _ _ _ _ => rI_of) fun _ _ _ => .int _
  | Mult => exact op_or (op_or (op_r2I op_mul fun _ _ _ => .int _) (op_r2I op_mulW fun _ _ _ => .int _)) op_repLD
  | FloorDiv => exact op_or (op_r2I op_fdivN fun _ _ _ => .int _) (op_r2I op_fdivW fun _ _ _ => .int _)
  | Mod => exact op_r2I op_modN fun _ _ _ => .int _
  | Pow => exact op_r2I op_pow fun _ _ _ => .int _
  | _ => exact op_no
def ruleUn : UnaryOp → DR1
  | .USub => fun x M Q => ∃ i, x = .int i ∧ Q (.int (-i)) M
  | _ => fun _ _ _ => False
theorem ruleUn_ok {X : Cx} (op : UnaryOp) : UnR X (unaryOp op) (liftR1 (gOf X) (ruleUn op)) := by
  cases op with
  | USub =>
    intro pins s σ H x v Q I rx ⟨d, M, Qd, r1, m, ⟨i, e, q⟩, k⟩
    subst e
    cases r1
    exact un_neg pins s σ H _ v Q I rx ⟨i, rfl, k _ _ H M m (.int _) (Ev.refl _ _) q⟩
  | _ => intro pins s σ H x v Q I rx ⟨_, _, _, _, _, q, _⟩; exact q.elim
/-! ### order -/
/-- x < y of what is read, alike place by place -/
def ltD (x y : D) : Bool := PySem.W.dataLt (toP x) (toP y)
def alikeD (x y : D) : Bool := PySem.W.alike (toP x) (toP y)
def rLtD : DR2 := fun x y M Q => ∃ d e, Dn M x d ∧ Dn M y e ∧ okP d = true ∧ okP e = true ∧ alikeD d e = true ∧ d ≠ .non ∧ Q (.bl (ltD d e)) M
theorem op_ltD {X : Cx} (S : Std X) : OpR X (compareOp .Lt) (liftR2 (gOf X) rLtD) := by
  intro pins s σ H x y v u Q I rx ry ⟨dx, dy, M, Qd, r1, r2, m, ⟨d, e, n1, n2, o1, o2, al, nn, q⟩, k⟩
  obtain ⟨as, h1⟩ := Dp.reads I _ _ _ (dp_of m n1 r1) rx
  obtain ⟨bs, h2⟩ := Dp.reads I _ _ _ (dp_of m n2 r2) ry
  show wpAny _ _ (richCompare .Lt v u) _ _ _
  have np : toP d ≠ .none := by
    intro z
    cases d <;> simp_all [toP]
  exact PySem.W.rcLt_alike _ _ X.A s v u as bs h1 h2 al np (SeqAt.room_of_shaped o1 S.un) X.prog X.w X.xe _ (ep_of k I m (Ev.refl _ _) (.bl _) rfl q)
/-! ### in -/
def anyD (d : D) (ds : List D) : Bool := (toPs ds).any fun z => PyData.eqv z (toP d)
def rInS (neg : Bool) : DR2 := fun x y M Q => ∃ d e ds, Dn M x d ∧ Dn M y e ∧ (e = .cst ds ∨ e = .tup ds) ∧ okP d = true ∧ okP e = true ∧ Q (.bl (if neg then !anyD d ds else anyD d ds)) M
theorem op_inS {X : Cx} (S : Std X) : OpR X (compareOp .In) (liftR2 (gOf X) (rInS false)) := by
  intro pins s σ H x y v u Q I rx ry ⟨dx, dy, M, Qd, r1, r2, m, ⟨d, e, ds, n1, n2, he, o1, o2, q⟩, k⟩
  obtain ⟨as, h1⟩ := Dp.reads I _ _ _ (dp_of m n1 r1) rx
  obtain ⟨bs, h2⟩ := Dp.reads I _ _ _ (dp_of m n2 r2) ry
  rcases he with rfl | rfl
  · exact SeqAt.in_list_reads h2 h1 (SeqAt.canLay_of_shaped o2) (SeqAt.canLay_of_shaped o1) (room_in_shaped o1 (by have := S.un2; omega)) (ep_of k I m (Ev.refl _ _) (.bl _) rfl q)
  · exact SeqAt.in_tuple_reads h2 h1 (SeqAt.canLay_of_shaped o2) (SeqAt.canLay_of_shaped o1) (room_in_shaped o1 (by have := S.un2; omega)) (ep_of k I m (Ev.refl _ _) (.bl _) rfl q)
theorem op_notInS {X : Cx} (S : Std X) : OpR X (compareOp .NotIn) (liftR2 (gOf X) (rInS true)) := by
  intro pins s σ H x y v u Q I rx ry ⟨dx, dy, M, Qd, r1, r2, m, ⟨d, e, ds, n1, n2, he, o1, o2, q⟩, k⟩
  obtain ⟨as, h1⟩ := Dp.reads I _ _ _ (dp_of m n1 r1) rx
  obtain ⟨bs, h2⟩ := Dp.reads I _ _ _ (dp_of m n2 r2) ry
  rcases he with rfl | rfl
  · exact SeqAt.notIn_list_reads h2 h1 (SeqAt.canLay_of_shaped o2) (SeqAt.canLay_of_shaped o1) (room_in_shaped o1 (by have := S.un2; omega)) (ep_of k I m (Ev.refl _ _) (.bl _) rfl q)
  · exact SeqAt.notIn_tuple_reads h2 h1 (SeqAt.canLay_of_shaped o2) (SeqAt.canLay_of_shaped o1) (room_in_shaped o1 (by have := S.un2; omega)) (ep_of k I m (Ev.refl _ _) (.bl _) rfl q)
/-! ### is None -/
def isNonD : D → Bool
  | .non => true
  | _ => false
def rIsN (neg : Bool) : DR2 := fun x y M Q => y = .non ∧ Q (.bl (if neg then !isNonD x else isNonD x)) M
theorem isNon_of {K : PySem.W.Frag} {H : Hp} {d : D} {v : V} (r : Rp K H d v) : decide (v = .non) = isNonD d := by
  cases r <;> first | rfl | exact decide_eq_false (fun z => nomatch z)
theorem op_isN' {X : Cx} : OpR X (compareOp .Is) (liftR2 (gOf X) (rIsN false)) :=
  OpR.imp op_isN fun x y H Q ⟨d, e, M, Qd, r1, r2, m, ⟨e1, q⟩, k⟩ => by
    subst e1
    cases r2
    exact ⟨rfl, k _ _ H M m (by rw [isNon_of r1]; exact .bl _) (Ev.refl _ _) q⟩
theorem op_notN' {X : Cx} : OpR X (compareOp .IsNot) (liftR2 (gOf X) (rIsN true)) :=
  OpR.imp op_notN fun x y H Q ⟨d, e, M, Qd, r1, r2, m, ⟨e1, q⟩, k⟩ => by
    subst e1
    cases r2
    exact ⟨rfl, k _ _ H M m (by rw [isNon_of r1]; exact .bl _) (Ev.refl _ _) q⟩
def ruleCmp : CmpOp → DR2
  | .Eq => rEqv false
  | .NotEq => rEqv true
  | .Lt => fun x y M Q => r2I C1 (fun i j => .bl (decide (i < j))) x y M Q ∨ rLtD x y M Q
  | .LtE => r2I C1 fun i j => .bl (decide (i ≤ j))
  | .Gt => r2I C1 fun i j => .bl (decide (j < i))
  | .GtE => r2I C1 fun i j => .bl (decide (j ≤ i))
  | .Is => rIsN false
  | .IsNot => rIsN true
  | .In => fun x y M Q => rInS false x y M Q ∨ rInD false x y M Q
  | .NotIn => fun x y M Q => rInS true x y M Q ∨ rInD true x y M Q
theorem ruleCmp_ok {X : Cx} (S : Std X) (op : CmpOp) : OpR X (compareOp op) (liftR2 (gOf X) (ruleCmp op)) := by
  cases op with
  | Eq => exact op_eqv S
  | NotEq => exact op_nev S
  | Lt => exact op_or (op_r2I (OpR.imp op_lt fun _ _ _ _ => rI_of) fun _ _ _ => .bl _) (op_ltD S)
  | LtE => exact op_r2I (OpR.imp op_le fun _ _ _ _ => rI_of) fun _ _ _ => .bl _
  | Gt => exact op_r2I (OpR.imp op_gt fun _ _ _ _ => rI_of) fun _ _ _ => .bl _
  | GtE => exact op_r2I (OpR.imp op_ge fun _ _ _ _ => rI_of) fun _ _ _ => .bl _
  | Is => exact op_isN'
  | IsNot => exact op_notN'
  | In => exact op_or (op_inS S) (op_inD S)
  | NotIn => exact op_or (op_notInS S) (op_notInD S)
/-! ### subscripts -/
def rIxD : DR2 := fun x y M Q => ∃ ds i d, itemsOf M x = some ds ∧ y = .int i ∧ atI ds i = some d ∧ Q d M
theorem atI_rps {K : PySem.W.Frag} {H : Hp} {ds : List D} {vs : List V} {i : Int} {d : D} (r : Rps K H ds vs) (h : atI ds i = some d) : ∃ v, atI vs i = some v ∧ Rp K H d v := by
  unfold atI at h ⊢
  rw [← r.length]
  cases e : ixN ds.length i with
  | none => rw [e] at h; cases h
  | some j =>
    rw [e] at h
    exact r.get h
theorem ix_seqD {X : Cx} : IxR X (liftR2 (gOf X) rIxD) := by
  intro value slice pins s σ H x y v u Q I rx ry ⟨dx, dy, M, Qd, r1, r2, m, ⟨ds, i, d, h1, e2, h2, q⟩, k⟩ hs
  subst e2
  cases r2
  obtain ⟨kd, a, ev, src⟩ := src_of h1 r1 m
  subst ev
  obtain ⟨vs, hq, r⟩ := src H M m (Tups.refl _) (by cases dx <;> first | rfl | trivial)
  obtain ⟨w, hw, rw⟩ := atI_rps r h2
  have fin : Q w H := k _ _ H M m rw (Ev.refl _ _) q
  cases kd with
  | true => exact ix_list value slice pins s σ H _ _ v u Q I rx ry ⟨a, vs, i, w, rfl, rfl, hq, hw, fin⟩ hs
  | false => exact ix_tup value slice pins s σ H _ _ v u Q I rx ry ⟨a, vs, i, w, rfl, rfl, hq, hw, fin⟩ hs
def ruleIx : DR2 := fun x y M Q => rIxD x y M Q ∨ rGetD x y M Q
theorem ruleIx_ok {X : Cx} (S : Std X) : IxR X (liftR2 (gOf X) ruleIx) := by
  intro value slice pins s σ H x y v u Q I rx ry q hs
  rcases lift_or2 q with q | q
  · exact ix_seqD value slice pins s σ H x y v u Q I rx ry q hs
  · exact ix_dict S value slice pins s σ H x y v u Q I rx ry q hs
/-- o[i] = v of a list -/
def rSetLD : DTSet := fun o i v M Q => ∃ p ds k j, o = .ref p ∧ i = .int k ∧ M p = some (.lst ds) ∧ ixN ds.length k = some j ∧ Q (up M p (.lst (ds.set j v)))
def ruleSet : DTSet := fun o i v M Q => rSetLD o i v M Q ∨ rSetD o i v M Q
theorem ruleSet_ok {X : Cx} (S : Std X) : PSet X (liftSet (gOf X) ruleSet) := by
  intro pins s σ H o i v ov iv u Q I ro ri rv ⟨od, ix, vd, M, Qd, r1, r2, r3, m, q, k⟩
  rcases q with ⟨p, ds, kk, j, e1, e2, hM, hj, q⟩ | q
  · subst e1 e2
    cases r1
    cases r2
    obtain ⟨us, g1, rr⟩ := m.list hM
    obtain ⟨m', e'⟩ := m.putL hM (rr.set r3 j)
    exact set_list pins s σ H _ _ v ov iv u Q I ro ri rv ⟨p, us, kk, j, rfl, rfl, g1, by rw [← rr.length]; exact hj, k _ _ m' e' q⟩
  · exact set_dict S pins s σ H o i v ov iv u Q I ro ri rv ⟨od, ix, vd, M, Qd, r1, r2, r3, m, q, k⟩
/-! ### slices -/
def cutD (xs : List D) (lo hi : Option Int) : List D := (xs.drop (HT.sIx xs.length 0 lo)).take (HT.sIx xs.length xs.length hi - HT.sIx xs.length 0 lo)
theorem cut_rps {K : PySem.W.Frag} {H : Hp} {ds : List D} {vs : List V} (r : Rps K H ds vs) (lo hi : Option Int) : Rps K H (cutD ds lo hi) (cutV vs lo hi) := by
  unfold cutD cutV
  rw [← r.length]
  exact (r.drop _).take _
abbrev DRs := D → Option Int → Option Int → MH → DQ → Prop
def liftSl (g : G) (r : DRs) : V → Option Int → Option Int → Hp → VK → Prop := fun x lo hi H Q => ∃ d M Qd, Rp g.K H d x ∧ MR g H M ∧ r d lo hi M Qd ∧ Kt g H M Qd Q
/-- of a list: a new one; of a tuple -/
def ruleSl : DRs := fun x lo hi M Q => ∃ ds, itemsOf M x = some ds ∧ ((∃ es, x = .tup es) ∧ Q (.tup (cutD ds lo hi)) M ∨ (∀ es, x ≠ .tup es) ∧ ∀ p, M p = none → Q (.ref p) (up M p (.lst (cutD ds lo hi))))
theorem ruleSl_ok {X : Cx} : SlR X (liftSl (gOf X) ruleSl) := by
  intro pins s σ H x v vl vu lo hi sl Q I rx hs pl pu ⟨d, M, Qd, r1, m, ⟨ds, h1, q⟩, k⟩
  rcases q with ⟨⟨es, e⟩, q⟩ | ⟨hn, q⟩
  · subst e
    cases r1 with
    | @tup _ a us h2 r2 =>
      simp only [itemsOf, Option.some.injEq] at h1
      subst h1
      refine sl_tupA pins s σ H _ v vl vu lo hi sl Q I rx hs pl pu ⟨a, us, rfl, .of h2, fun ⟨z1, z2⟩ => ?_, fun _ p hp => ?_⟩
      · have e : cutD es lo hi = es := by
          unfold cutD
          rw [r2.length, z1, z2, Nat.sub_zero, List.drop_zero, ← r2.length, List.take_length]
        rw [e] at q
        exact k _ _ H M m (.tup h2 r2) (Ev.refl _ _) q
      · exact k _ _ _ M (m.newT hp) (.tup upd_same ((cut_rps r2 lo hi).mono (Tups.upd0 hp))) (Ev.upd hp) q
  · obtain ⟨kd, a, ev, src⟩ := src_of h1 r1 m
    subst ev
    obtain ⟨vs, hq, r⟩ := src H M m (Tups.refl _) (by cases d <;> first | rfl | trivial)
    have hl : SqL X.K H a vs := by
      cases r1 with
      | tup _ _ => exact absurd rfl (hn _)
      | cst h2 r2 => 
        simp only [itemsOf, Option.some.injEq] at h1
        subst h1
        cases kd with
        | true => exact hq
        | false =>
          obtain ⟨its, _, pt, _⟩ := I.tuple hq
          obtain ⟨its2, _, pl2, _⟩ := I.list h2.sq
          obtain ⟨o, e1, c1, _⟩ := pt
          obtain ⟨o2, n2, e2, c2, _⟩ := pl2
          rw [e1] at e2; cases e2; rw [c1] at c2; exact absurd c2 (by decide)
      | ref a =>
        cases kd with
        | true => exact hq
        | false =>
          unfold itemsOf at h1
          simp only at h1
          cases e : M a with
          | none => rw [e] at h1; cases h1
          | some o =>
            rw [e] at h1
            cases o with
            | lst xs =>
              obtain ⟨us, g1, _⟩ := m.list e
              obtain ⟨its, _, pt, _⟩ := I.tuple hq
              obtain ⟨its2, _, pl2, _⟩ := I.list (.of g1)
              obtain ⟨o, e1, c1, _⟩ := pt
              obtain ⟨o2, n2, e2, c2, _⟩ := pl2
              rw [e1] at e2; cases e2; rw [c1] at c2; exact absurd c2 (by decide)
            | dct _ => cases h1
            | rdc _ => cases h1
    exact sl_list pins s σ H _ v vl vu lo hi sl Q I rx hs pl pu ⟨a, vs, rfl, hl, fun p hp => k _ _ _ _ (m.newL hp (cut_rps r lo hi)) (.ref p) (Ev.up hp) (q p (m.free hp))⟩
end DL

set_option Elab.async false
set_option linter.all false
set_option maxRecDepth 20000
/-! DL8: built-in functions. -/
namespace DL
open PySem L2 PyProof.Rows
/-- the type of a value -/
def tyOf (M : MH) : D → Option TyN
  | .non => some .none
  | .bl _ => some .bool
  | .int _ => some .int
  | .str _ => some .str
  | .tup _ => some .tuple
  | .cst _ => some .list
  | .ty _ => none
  | .ref a => match M a with
    | some (.lst _) => some .list
    | some (.dct _) => some .dict
    | some (.rdc _) => some .dict
    | none => none
def isaT (t n : TyN) : Bool := decide (t = n) || (decide (t = .bool) && decide (n = .int))
theorem isaT_ok (t n : TyN) : kitB t.name n.name = some (isaT t n) := by
  cases t <;> cases n <;> decide +kernel
section
variable {X : Cx} {pins : List (Nat × Obj)} {σ : L2.St} {H : Hp} {s : Shared} {M : MH}
theorem kit_ofD (I : Inv X pins σ H s) (m : MR (gOf X) H M) {d : D} {v : V} {u : Value} {t : TyN} (r : Rp X.K H d v) (ru : RelV v u) (ht : tyOf M d = some t) :
    ∃ P : Heap → Prop, PySem.W.KitX X.K u (.type t.name) P ∧ P s.heap ∧ u ≠ .builtin "__main__.__loader__#opaque" := by
  cases r with
  | non => cases ht; cases ru; exact ⟨_, PySem.W.kitx_none, True.intro, fun z => nomatch z⟩
  | bl b => cases ht; cases ru; exact ⟨_, PySem.W.kitx_bool, True.intro, fun z => nomatch z⟩
  | int i => cases ht; obtain ⟨t, rfl⟩ := ru; exact ⟨_, PySem.W.kitx_int, True.intro, fun z => nomatch z⟩
  | str x => cases ht; obtain ⟨t, rfl⟩ := ru; exact ⟨_, PySem.W.kitx_str, True.intro, fun z => nomatch z⟩
  | ty n => cases ht
  | tup h r =>
    cases ht; cases ru
    obtain ⟨_, its, _, o, h1, h2, _⟩ := I.hok _ _ h
    exact ⟨_, PySem.W.kitx_tuple, ⟨o, h1, h2⟩, fun z => nomatch z⟩
  | cst h r =>
    cases ht; cases ru
    obtain ⟨its, _, ⟨o, n, h1, h2, _⟩, _⟩ := I.list h.sq
    exact ⟨_, PySem.W.kitx_list, ⟨o, h1, h2⟩, fun z => nomatch z⟩
  | ref a =>
    cases ru
    unfold tyOf at ht
    simp only at ht
    cases e : M a with
    | none => rw [e] at ht; cases ht
    | some o =>
      rw [e] at ht
      cases o with
      | lst ds =>
        cases ht
        obtain ⟨vs, h1, _⟩ := m.list e
        obtain ⟨_, its, n, _, h2⟩ := I.hok _ _ h1
        exact ⟨_, PySem.W.kitx_list, ⟨_, h2, rfl⟩, fun z => nomatch z⟩
      | dct kvs =>
        cases ht
        obtain ⟨_, _, o, xs, _, _, ⟨o2, _, _, h1, h2, _⟩, _⟩ := dict_at I m (.inl e)
        exact ⟨_, PySem.W.kitx_dict, ⟨o2, h1, h2.1⟩, fun z => nomatch z⟩
      | rdc kvs =>
        cases ht
        obtain ⟨_, _, o, xs, _, _, ⟨o2, _, _, h1, h2, _⟩, _⟩ := dict_at I m (.inr e)
        exact ⟨_, PySem.W.kitx_dict, ⟨o2, h1, h2.1⟩, fun z => nomatch z⟩
end
def rIsi1 : DRn := fun xs M Q => ∃ x n t, xs = [x, .ty n] ∧ tyOf M x = some t ∧ Q (.bl (isaT t n)) M
theorem ok_isi1 {X : Cx} : CallR X (.builtin "isinstance") (liftRn (gOf X) rIsi1) := by
  intro pins s σ H vs us Q I rx ⟨ds, M, Qd, r, m, ⟨x, n, t, e, ht, q⟩, k⟩
  subst e
  cases r with
  | cons r1 r2 =>
    cases r2 with
    | cons r2 r3 =>
      cases r3
      cases r2
      cases rx with
      | cons q1 q2 =>
        cases q2 with
        | cons q2 q3 =>
          cases q3
          cases q2
          obtain ⟨P, Z, p, hx⟩ := kit_ofD I m r1 q1 ht
          exact PySem.W.kia_one Z I.kIn p (kit_ty (isaT_ok t n)) hx fun tk => ep_of k (I.tok tk) m (Ev.refl _ _) (.bl _) rfl q
def tysOf : List D → Option (List TyN)
  | [] => some []
  | .ty n :: ds => (tysOf ds).map (n :: ·)
  | _ :: _ => none
theorem kitAnys {K : PySem.W.Frag} (t : TyN) : ∀ ns : List TyN, PySem.W.kitAny K (.type t.name) (ns.map fun n => .type n.name) = some (ns.any (isaT t))
  | [] => rfl
  | n :: ns => by
    rw [List.map_cons]
    refine kitAny_cons (kit_ty (isaT_ok t n)) (fun h => ?_) fun h => ?_
    · rw [kitAnys t ns, List.any_cons, h, Bool.false_or]
    · rw [List.any_cons, h, Bool.true_or]
theorem tys_vals {K : PySem.W.Frag} {H : Hp} : ∀ {ds : List D} {ns : List TyN} {vs : List V} {us : List Value}, tysOf ds = some ns → Rps K H ds vs → Vals vs us → us = ns.map fun n => .type n.name
  | [], ns, _, _, h, .nil, .nil => by
    simp only [tysOf, Option.some.injEq] at h
    subst h; rfl
  | d :: ds, ns, _, _, h, .cons r rs, .cons q qs => by
    cases d with
    | ty n =>
      simp only [tysOf, Option.map_eq_some_iff] at h
      obtain ⟨ns', h1, rfl⟩ := h
      cases r
      rw [tys_vals h1 rs qs]
      cases q
      rfl
    | _ => simp [tysOf] at h
def rIsi2 : DRn := fun xs M Q => ∃ x ds ns t, xs = [x, .tup ds] ∧ tysOf ds = some ns ∧ tyOf M x = some t ∧ Q (.bl (ns.any (isaT t))) M
theorem ok_isi2 {X : Cx} : CallR X (.builtin "isinstance") (liftRn (gOf X) rIsi2) := by
  intro pins s σ H vs us Q I rx ⟨ds, M, Qd, r, m, ⟨x, ts, ns, t, e, hn, ht, q⟩, k⟩
  subst e
  cases r with
  | cons r1 r2 =>
    cases r2 with
    | cons r2 r3 =>
      cases r3
      cases r2 with
      | @tup _ a ws h rw =>
        cases rx with
        | cons q1 q2 =>
          cases q2 with
          | cons q2 q3 =>
            cases q3
            cases q2
            obtain ⟨P, Z, p, hx⟩ := kit_ofD I m r1 q1 ht
            obtain ⟨_, its, rv, o, h1, h2, n, h3⟩ := I.hok _ _ h
            have e := tys_vals hn rw rv
            subst e
            obtain ⟨oc, od, odata, osl⟩ := o
            simp only at h2 h3
            subst h2 h3
            exact PySem.W.kia_tup Z I.kIn p h1 (kitAnys t ns) hx fun tk => ep_of k (I.tok tk) m (Ev.refl _ _) (.bl _) rfl q
/-! ### len -/
def lenOf (M : MH) : D → Option Nat
  | .tup ds => some ds.length
  | .cst ds => some ds.length
  | .ref a => match M a with
    | some (.lst ds) => some ds.length
    | some (.dct kvs) => some kvs.length
    | some (.rdc kvs) => some kvs.length
    | none => none
  | _ => none
def rLenD : DRn := fun xs M Q => ∃ x n, xs = [x] ∧ lenOf M x = some n ∧ Q (.int n) M
theorem ok_len {X : Cx} : CallR X (.builtin "len") (liftRn (gOf X) rLenD) := by
  intro pins s σ H vs us Q I rx ⟨ds, M, Qd, r, m, ⟨x, n, e, hn, q⟩, k⟩
  subst e
  cases r with
  | cons r1 r2 =>
    cases r2
    have fin : Q (.int n) H := k _ _ H M m (.int _) (Ev.refl _ _) q
    have seq : ∀ ys a, itemsOf M x = some ys → ys.length = n → EP X pins σ Q a s = EP X pins σ Q a s ∧ wpAny (model X.prog X.w) X.A (call (.builtin "len") us) (EP X pins σ Q) X.xe s := fun ys a hy hl => by
      obtain ⟨kd, a, ev, src⟩ := src_of hy r1 m
      subst ev
      obtain ⟨ws, hq, rr⟩ := src H M m (Tups.refl _) (by cases x <;> first | rfl | trivial)
      refine ⟨rfl, call_len_seq pins s σ H _ us Q I rx ⟨a, ws, rfl, ?_, by rw [← rr.length, hl]; exact fin⟩⟩
      cases kd with
      | true => exact .inl hq
      | false => exact .inr hq
    have dic : ∀ a kvs, x = .ref a → IsD M a kvs → kvs.length = n → wpAny (model X.prog X.w) X.A (call (.builtin "len") us) (EP X pins σ Q) X.xe s := fun a kvs ex hD hl => by
      subst ex
      cases r1
      cases rx with
      | cons q1 q2 =>
        cases q2
        cases q1
        obtain ⟨hz, _, o, xs, _, _, dd, rr⟩ := dict_at I m hD
        have hs := (dict_at I m hD).2.1
        have e := Paired.length rr
        refine call_len_dictH hs dd (by rw [← e]; rw [sizeLine_eq] at hz; omega) ?_
        rw [← e, hl]
        exact ⟨.int n, H, (I.tok _).tok _, ⟨_, rfl⟩, fin⟩
    cases x with
    | tup ys => exact (seq ys .none rfl (by simpa [lenOf] using hn)).2
    | cst ys => exact (seq ys .none rfl (by simpa [lenOf] using hn)).2
    | ref a =>
      cases e : M a with
      | none => simp [lenOf, e] at hn
      | some o =>
        cases o with
        | lst ys => exact (seq ys .none (by simp [itemsOf, e]) (by simpa [lenOf, e] using hn)).2
        | dct kvs => exact dic a kvs rfl (.inl e) (by simpa [lenOf, e] using hn)
        | rdc kvs => exact dic a kvs rfl (.inr e) (by simpa [lenOf, e] using hn)
    | _ => simp [lenOf] at hn
/-! ### all, abs, tuple(..), list(..) -/
def boolsOf : List D → Option (List Bool)
  | [] => some []
  | .bl b :: ds => (boolsOf ds).map (b :: ·)
  | _ :: _ => none
theorem bools_rps {K : PySem.W.Frag} {H : Hp} : ∀ {ds : List D} {bs : List Bool} {vs : List V}, boolsOf ds = some bs → Rps K H ds vs → vs = bs.map V.bl
  | [], bs, _, h, .nil => by
    simp only [boolsOf, Option.some.injEq] at h
    subst h; rfl
  | d :: ds, bs, _, h, .cons r rs => by
    cases d with
    | bl b =>
      simp only [boolsOf, Option.map_eq_some_iff] at h
      obtain ⟨bs', h1, rfl⟩ := h
      cases r
      rw [bools_rps h1 rs]; rfl
    | _ => simp [boolsOf] at h
def rAllD : DRn := fun xs M Q => ∃ a ds bs, xs = [.ref a] ∧ M a = some (.lst ds) ∧ boolsOf ds = some bs ∧ Q (.bl (bs.all id)) M
theorem ok_all {X : Cx} (S : Std X) : CallR X (.builtin "all") (liftRn (gOf X) rAllD) :=
  CallR.imp (cr_all S.calm) fun xs H Q ⟨ds, M, Qd, r, m, ⟨a, es, bs, e, hM, hb, q⟩, k⟩ => by
    subst e
    cases r with
    | cons r1 r2 =>
      cases r2
      cases r1
      obtain ⟨vs, h1, rr⟩ := m.list hM
      rw [bools_rps hb rr] at h1
      exact ⟨a, bs, rfl, .of h1, k _ _ H M m (.bl _) (Ev.refl _ _) q⟩
def rAbsD : DRn := fun xs M Q => ∃ i : Int, xs = [.int i] ∧ Q (.int (if i < 0 then -i else i)) M
theorem ok_abs {X : Cx} : CallR X (.builtin "abs") (liftRn (gOf X) rAbsD) :=
  CallR.imp call_abs fun xs H Q ⟨ds, M, Qd, r, m, ⟨i, e, q⟩, k⟩ => by
    subst e
    cases r with
    | cons r1 r2 =>
      cases r2
      cases r1
      exact ⟨i, rfl, k _ _ H M m (.int _) (Ev.refl _ _) q⟩
def rTupD : DRn := fun xs M Q => ∃ x ds, xs = [x] ∧ itemsOf M x = some ds ∧ Q (.tup ds) M
theorem ok_tup {X : Cx} : CallR X (.type "tuple") (liftRn (gOf X) rTupD) := by
  intro pins s σ H vs us Q I rx ⟨ds, M, Qd, r, m, ⟨x, ys, e, hy, q⟩, k⟩
  subst e
  cases r with
  | cons r1 r2 =>
    cases r2
    obtain ⟨kd, a, ev, src⟩ := src_of hy r1 m
    subst ev
    obtain ⟨ws, hq, rr⟩ := src H M m (Tups.refl _) (by cases x <;> first | rfl | trivial)
    refine call_tuple_of pins s σ H _ us Q I rx ⟨a, ws, rfl, ?_⟩
    cases kd with
    | true =>
      refine .inl ⟨hq, fun p hp => k _ _ _ M (m.newT hp) (.tup upd_same (rr.mono (Tups.upd0 hp))) (Ev.upd hp) q⟩
    | false =>
      refine .inr ⟨hq, ?_⟩
      cases r1 with
      | tup h1 r1 =>
        simp only [itemsOf, Option.some.injEq] at hy
        subst hy
        exact k _ _ H M m (.tup h1 r1) (Ev.refl _ _) q
      | cst h1 r1 =>
        obtain ⟨_, _, ⟨o1, e1, c1, _⟩, _⟩ := I.tuple hq
        obtain ⟨_, _, ⟨o2, _, e2, c2, _⟩, _⟩ := I.list h1.sq
        rw [e1] at e2; cases e2; rw [c1] at c2; exact absurd c2 (by decide)
      | ref a =>
        unfold itemsOf at hy
        simp only at hy
        cases e : M a with
        | none => rw [e] at hy; cases hy
        | some o =>
          rw [e] at hy
          cases o with
          | lst xs =>
            obtain ⟨zs, g1, _⟩ := m.list e
            obtain ⟨_, _, ⟨o1, e1, c1, _⟩, _⟩ := I.tuple hq
            obtain ⟨_, _, ⟨o2, _, e2, c2, _⟩, _⟩ := I.list (.of g1)
            rw [e1] at e2; cases e2; rw [c1] at c2; exact absurd c2 (by decide)
          | dct _ => cases hy
          | rdc _ => cases hy
def rListD : DRn := fun xs M Q => ∃ x ds, xs = [x] ∧ itemsOf M x = some ds ∧ ∀ p, M p = none → Q (.ref p) (up M p (.lst ds))
theorem ok_list {X : Cx} : CallR X (.type "list") (liftRn (gOf X) rListD) := by
  intro pins s σ H vs us Q I rx ⟨ds, M, Qd, r, m, ⟨x, ys, e, hy, q⟩, k⟩
  subst e
  cases r with
  | cons r1 r2 =>
    cases r2
    obtain ⟨kd, a, ev, src⟩ := src_of hy r1 m
    subst ev
    obtain ⟨ws, hq, rr⟩ := src H M m (Tups.refl _) (by cases x <;> first | rfl | trivial)
    refine call_list_of pins s σ H _ us Q I rx ⟨a, ws, rfl, ?_, fun p hp => k _ _ _ _ (m.newL hp rr) (.ref p) (Ev.up hp) (q p (m.free hp))⟩
    cases kd with
    | true => exact .inl hq
    | false => exact .inr hq
/-! ### sorted -/
/-- the one stable order -/
def sortD (ds : List D) : List D := ds.mergeSort (PySem.W.dataLe false toP)
def sortable (ds : List D) : Bool := flatDs ds && ds.all okP && ds.all (fun d => ds.all fun e => alikeD d e) && (ds.all (fun d => match d with | .tup (_ :: _) => true | _ => false) || ds.all (fun d => match d with | .tup _ => false | .non => false | _ => true))
def rSortD : DRn := fun xs M Q => ∃ a ds, xs = [.ref a] ∧ M a = some (.lst ds) ∧ sortable ds = true ∧ ∀ p, M p = none → Q (.ref p) (up M p (.lst (sortD ds)))
theorem flat_mem : ∀ {ds : List D}, flatDs ds = true → ∀ d ∈ ds, flatD d = true
  | [], _, d, h => by cases h
  | e :: ds, h, d, hd => by
    rw [flatDs, Bool.and_eq_true] at h
    rcases List.mem_cons.mp hd with z | z
    · rw [z]; exact h.1
    · exact flat_mem h.2 d z
theorem each_rps {K : PySem.W.Frag} {H : Hp} : ∀ {ds : List D} {vs : List V} {us : List Value}, Rps K H ds vs → Vals vs us → PySem.W.EachIs (fun u d => ∃ v, RelV v u ∧ Rp K H d v) us ds
  | _, _, _, .nil, .nil => .nil
  | _, _, _, .cons r rs, .cons q qs => .cons ⟨_, q, r⟩ (each_rps rs qs)
theorem rps_each {K : PySem.W.Frag} {H : Hp} : ∀ {ds : List D} {us : List Value}, PySem.W.EachIs (fun u d => ∃ v, RelV v u ∧ Rp K H d v) us ds → ∃ vs, Rps K H ds vs ∧ Vals vs us
  | _, _, .nil => ⟨[], .nil, .nil⟩
  | _, _, .cons ⟨v, q, r⟩ t => by
    obtain ⟨vs, rs, qs⟩ := rps_each t
    exact ⟨v :: vs, .cons r rs, .cons q qs⟩
theorem each_in {α β : Type} {R R' : α → β → Prop} : ∀ {as : List α} {bs : List β}, PySem.W.EachIs R as bs → (∀ a b, b ∈ bs → R a b → R' a b) → PySem.W.EachIs R' as bs
  | _, _, .nil, _ => .nil
  | _, _, .cons r t, f => .cons (f _ _ List.mem_cons_self r) (each_in t fun a b hb => f a b (List.mem_cons_of_mem _ hb))
theorem okP_depth {d : D} (h : okP d = true) : (toP d).depth ≤ 64 := SeqAt.depth_of_shaped h
theorem ok_sorted {X : Cx} (S : Std X) : CallR X (.builtin "sorted") (liftRn (gOf X) rSortD) := by
  intro pins s σ H vs us Q I rx ⟨ds0, M, Qd, r, m, ⟨a, ds, e, hM, so, q⟩, k⟩
  subst e
  cases r with
  | cons r1 r2 =>
    cases r2
    cases r1
    cases rx with
    | cons q1 q2 =>
      cases q2
      cases q1
      obtain ⟨ws, h1, rr⟩ := m.list hM
      obtain ⟨its, rv, pl, hz⟩ := I.list (.of h1)
      unfold sortable at so
      rw [Bool.and_eq_true, Bool.and_eq_true, Bool.and_eq_true] at so
      obtain ⟨⟨⟨hf, ho⟩, ha⟩, hk⟩ := so
      have fl := flat_mem hf
      have ho := List.all_eq_true.mp ho
      have ha := List.all_eq_true.mp ha
      refine PySem.W.sorted_data (β := D) (enc := toP) (bs := ds) (R := fun u d => ∃ v, RelV v u ∧ Rp X.K H d v) pl.isList (each_rps rr rv) (each_in (each_rps rr rv) fun u d hd ⟨v, q, rp⟩ => Dp.reads I _ _ _ (dp_of m (Dn.flat d (fl d hd)) rp) q) ?_ ?_
        (by rw [rr.length]; exact hz) (fun d hd => ?_) fun out hl he => ?_
      · intro x hx y hy
        obtain ⟨d, hd, rfl⟩ := List.mem_map.mp hx
        obtain ⟨d', hd', rfl⟩ := List.mem_map.mp hy
        exact List.all_eq_true.mp (ha d hd) d' hd'
      · rcases Bool.or_eq_true_iff.mp hk with hk | hk
        · refine .inl fun x hx => ?_
          obtain ⟨d, hd, rfl⟩ := List.mem_map.mp hx
          have z := List.all_eq_true.mp hk d hd
          cases d with
          | tup es =>
            cases es with
            | nil => cases z
            | cons x es => exact ⟨_, _, by rw [toP, toPs]⟩
          | _ => cases z
        · refine .inr fun x hx => ?_
          obtain ⟨d, hd, rfl⟩ := List.mem_map.mp hx
          have z := List.all_eq_true.mp hk d hd
          cases d <;> simp_all [toP]
      · have z := okP_depth (ho d hd)
        have z2 := S.un2
        omega
      · obtain ⟨vs2, r2, v2⟩ := rps_each he
        obtain ⟨ep, hat⟩ := PyProof.Rows.sortedAll_at s.heap its out.toArray
        have hp : s.heap.objs.size ≤ s.heap.objs.size + 1 := Nat.le_succ _
        have hn : H (s.heap.objs.size + 1) = none := I.hok.fresh hp
        have hl2 : vs2.length ≤ sizeLine := by rw [← r2.length, List.length_mergeSort, rr.length]; exact hz
        have I2 : Inv X pins σ (upd H (s.heap.objs.size + 1) (.lst vs2)) { s with heap := PyProof.Rows.sortedAll s.heap its out.toArray } :=
          I.laid (t' := s.toks) (fun _ _ => PyProof.Rows.sortedAll_old) hp ⟨hl2, out, ep, v2, hat⟩
        exact ep_of k I2 (m.newL hn r2) (Ev.up hn) (.ref _) rfl (q _ (m.free hn))
end DL

set_option Elab.async false
set_option linter.all false
set_option maxRecDepth 20000
/-! DL9: methods of lists; min, max, sum; dict(..). -/
namespace DL
open PySem L2 PyProof.Rows
/-! ### methods -/
abbrev DRm := D → List D → MH → DQ → Prop
def liftRm (g : G) (r : DRm) : V → List V → Hp → VK → Prop := fun x xs H Q => ∃ d ds M Qd, Rp g.K H d x ∧ Rps g.K H ds xs ∧ MR g H M ∧ r d ds M Qd ∧ Kt g H M Qd Q
def MtD (X : Cx) (id : String) (r : DRm) : Prop := MtR X id (liftRm (gOf X) r)
/-- what the receiver is -/
def TyRc (X : Cx) (T : String) (ty : D → MH → Prop) : Prop := ∀ (pins : List (Nat × Obj)) (s : Shared) (σ : L2.St) (H : Hp) (M : MH) (d : D) (x : V) (v : Value), Inv X pins σ H s → MR (gOf X) H M → Rp X.K H d x → RelV x v → ty d M →
  s.TypeIs v T ∧ ∀ a, v = .ref a → ∃ ob, s.heap.get? a = some ob ∧ ob.dict = none
def dMt0 (ty : D → MH → Prop) (r : DRm) (to_ : DTE) : DTE := fun W δ M Q => to_ W δ M fun x M1 => ty x M1 ∧ r x [] M1 Q
def dMt (ty : D → MH → Prop) (r : DRm) (to_ : DTE) (t : DTA) : DTE := fun W δ M Q => to_ W δ M fun x M1 => ty x M1 ∧ t W δ M1 fun xs M2 => r x xs M2 Q
section
variable {X : Cx} {W : XK} {o e : Expr} {es : List Expr} {to_ : DTE} {t : DTA} {name : Str} {apos cpos : Pos} {T id : String} {r : DRm} {ty : D → MH → Prop}
theorem de_mt0 (pa : PlainAttrs T) (slot : Slot T name id) (hty : typeOf (.builtin id) = pure (.type "method_descriptor")) (hT : TyRc X T ty) (hm : MtD X id r) (ho : PE X o (liftE (gOf X) W to_))
    (hbase : attributeBase o name X.env (eval o X.env) = eval o X.env) (hline : (apos.endLine == cpos.line) = true) : PE X (.Call (.Attribute o name apos) [] [] cpos) (liftE (gOf X) W (dMt0 ty r to_)) :=
  ⟨fun pins s σ H Q I ⟨δ, M, Wd, Qd, at_, q, k⟩ => wpAny_Call_method0_late hbase hline
    (thn (ho.run pins s σ H (fun v H1 => ∃ d M1, MR (gOf X) H1 M1 ∧ Rp X.K H1 d v ∧ Ev H M H1 M1 ∧ ty d M1 ∧ r d [] M1 Qd) I ⟨δ, M, Wd, _, at_, q, fun d v H1 M1 m1 r1 e1 q1 => ⟨d, M1, m1, r1, e1, q1⟩⟩)
      fun v s1 ⟨x, H1, I1, rx, d, M1, m1, r1, e1, t1, q1⟩ => let ⟨h1, h2⟩ := hT pins s1 σ H1 M1 d x v I1 m1 r1 rx t1
        ⟨T, id, pa, slot, hty, h1, h2, Calls.callWith_builtin rfl (PySem.evalArgs_none (hm pins s1 σ H1 x [] v [] Q I1 rx .nil ⟨d, [], M1, Qd, r1, .nil, m1, q1, k.fwd e1⟩))⟩)⟩
theorem de_mt (pa : PlainAttrs T) (slot : Slot T name id) (hty : typeOf (.builtin id) = pure (.type "method_descriptor")) (hT : TyRc X T ty) (hm : MtD X id r) (ho : PE X o (liftE (gOf X) W to_)) (ha : PA X (e :: es) (liftA (gOf X) W t))
    (hbase : attributeBase o name X.env (eval o X.env) = eval o X.env)
    (hfew : ((backTo cpos (starEach (e :: es) X.env)).all (fun x => !x.1) && (backToKw cpos (keywordEach [] X.env)).all (fun x => x.1.isSome) && decide ((e :: es).length + ([] : List Keyword).length + (if ([] : List Keyword).isEmpty then 0 else 1) < 30)) = true)
    (hline : (apos.endLine == cpos.line) = true) (hs : starEach (e :: es) X.env = (false, eval e X.env) :: starEach es X.env) (hplain : (backTo cpos (starEach es X.env)).any (·.1) = false) : PE X (.Call (.Attribute o name apos) (e :: es) [] cpos) (liftE (gOf X) W (dMt ty r to_ t)) := by
  refine ⟨fun pins s σ H Q I ⟨δ, M, Wd, Qd, at_, q, k⟩ => wpAny_Call_method_late hbase hfew hline rfl (thn (ho.run pins s σ H (fun v H1 => ∃ d M1, MR (gOf X) H1 M1 ∧ Rp X.K H1 d v ∧ Ev H M H1 M1 ∧ ty d M1 ∧ t Wd δ M1 fun xs M2 => r d xs M2 Qd) I
    ⟨δ, M, Wd, _, at_, q, fun d v H1 M1 m1 r1 e1 q1 => ⟨d, M1, m1, r1, e1, q1⟩⟩) fun v s1 ⟨x, H1, I1, rx, d, M1, m1, r1, e1, t1, q1⟩ => ?_)⟩
  obtain ⟨h1, h2⟩ := hT pins s1 σ H1 M1 d x v I1 m1 r1 rx t1
  refine ⟨T, id, pa, slot, hty, h1, h2, ?_⟩
  have hA := ha.run cpos pins s1 σ H1 (fun xs H2 => liftRm (gOf X) r x xs H2 Q) I1 ⟨δ, M1, Wd, _, at_.fwd m1 e1, q1, fun ds vs H2 M2 m2 r2 e2 q2 => ⟨d, ds, M2, Qd, r1.mono e2.tup, r2, m2, q2, k.fwd (e1.trans e2)⟩⟩
  rw [hs] at hA ⊢
  refine Calls.callWith_builtin (show (false || (backTo cpos (starEach es X.env)).any (·.1)) = false by rw [hplain] <;> rfl) (Calls.evalArgs_plain (thn hA fun us s2 ⟨vs, H2, I2, r2, q2⟩ => ?_))
  exact hm pins s2 σ H2 x vs v us Q I2 rx r2 q2
end
def tyLst : D → MH → Prop := fun d M => ∃ a ds, d = .ref a ∧ M a = some (.lst ds)
def tyDct : D → MH → Prop := fun d M => ∃ a kvs, d = .ref a ∧ IsD M a kvs
section
variable {X : Cx}
theorem rc_lst : TyRc X "list" tyLst := fun pins s σ H M d x v I m r rx ⟨a, ds, e, h⟩ => by
  subst e
  cases r
  cases rx
  obtain ⟨vs, h1, _⟩ := m.list h
  obtain ⟨_, its, n, _, _, e⟩ := I.lstM h1
  exact ⟨⟨_, e, rfl⟩, fun b eb => by cases eb; exact ⟨_, e, rfl⟩⟩
theorem rc_dct : TyRc X "dict" tyDct := fun pins s σ H M d x v I m r rx ⟨a, kvs, e, h⟩ => by
  subst e
  cases r
  cases rx
  obtain ⟨_, _, o, xs, _, h2, ⟨o', _, _, h3, ex, _⟩, _⟩ := dict_at I m h
  exact ⟨⟨o', h3, ex.1⟩, fun b eb => by cases eb; exact ⟨o', h3, ex.2.1⟩⟩
def rAppD : DRm := fun x ys M Q => ∃ a ds y, x = .ref a ∧ ys = [y] ∧ M a = some (.lst ds) ∧ ds.length < sizeLine ∧ Q .non (up M a (.lst (ds ++ [y])))
theorem mt_appD : MtD X "list.append" rAppD := fun pins s σ H x xs v us Q I rx rxs ⟨d, ds, M, Qd, r1, r2, m, ⟨a, es, y, e1, e2, hM, hl, q⟩, k⟩ => by
  subst e1 e2
  cases r1
  cases r2 with
  | cons ry rr =>
    cases rr
    obtain ⟨vs, h1, rs⟩ := m.list hM
    obtain ⟨m', e'⟩ := m.putL hM (rs.append (.cons ry .nil))
    exact mt_append pins s σ H _ _ v us Q I rx rxs ⟨a, vs, _, rfl, rfl, h1, by rw [← rs.length]; exact hl, k _ _ _ _ m' .non e' q⟩
def rExtD : DRm := fun x ys M Q => ∃ a b ds es, x = .ref a ∧ ys = [.ref b] ∧ M a = some (.lst ds) ∧ M b = some (.lst es) ∧ ds.length + es.length ≤ sizeLine ∧ Q .non (up M a (.lst (ds ++ es)))
theorem mt_extD : MtD X "list.extend" rExtD := fun pins s σ H x xs v us Q I rx rxs ⟨d, ds, M, Qd, r1, r2, m, ⟨a, b, es, fs, e1, e2, hM, hB, hl, q⟩, k⟩ => by
  subst e1 e2
  cases r1
  cases r2 with
  | cons ry rr =>
    cases rr
    cases ry
    obtain ⟨vs, h1, rs⟩ := m.list hM
    obtain ⟨ws, h2, rs2⟩ := m.list hB
    obtain ⟨m', e'⟩ := m.putL hM (rs.append rs2)
    exact mt_extend pins s σ H _ _ v us Q I rx rxs ⟨a, b, vs, ws, rfl, rfl, h1, h2, by rw [← rs.length, ← rs2.length]; exact hl, k _ _ _ _ m' .non e' q⟩
theorem Rps.dropLast {K : PySem.W.Frag} {H : Hp} {xs : List D} {us : List V} (h : Rps K H xs us) : Rps K H xs.dropLast us.dropLast := by
  have z := h.take (xs.length - 1)
  rw [← List.dropLast_eq_take, h.length, ← List.dropLast_eq_take] at z
  exact z
def rPopD : DRm := fun x ys M Q => ∃ a ds y, x = .ref a ∧ ys = [] ∧ M a = some (.lst ds) ∧ ds.getLast? = some y ∧ Q y (up M a (.lst ds.dropLast))
theorem mt_popD : MtD X "list.pop" rPopD := fun pins s σ H x xs v us Q I rx rxs ⟨d, ds, M, Qd, r1, r2, m, ⟨a, es, y, e1, e2, hM, hy, q⟩, k⟩ => by
  subst e1 e2
  cases r1
  cases r2
  obtain ⟨vs, h1, rs⟩ := m.list hM
  obtain ⟨m', e'⟩ := m.putL hM rs.dropLast
  rw [List.getLast?_eq_getElem?] at hy
  obtain ⟨w, hw, rw_⟩ := rs.get hy
  rw [rs.length] at hw
  exact mt_pop pins s σ H _ _ v us Q I rx rxs ⟨a, vs, w, rfl, rfl, h1, hw, k _ _ _ _ m' (rw_.mono e'.tup) e' q⟩
def rPopAtD : DRm := fun x ys M Q => ∃ a ds i n y, x = .ref a ∧ ys = [.int i] ∧ M a = some (.lst ds) ∧ -(2 ^ 63) ≤ i ∧ i < 2 ^ 63 ∧ seqIndex? i ds.length = some n ∧ ds[n]? = some y ∧ Q y (up M a (.lst (ds.eraseIdx n)))
theorem mt_popAtD : MtD X "list.pop" rPopAtD := fun pins s σ H x xs v us Q I rx rxs ⟨d, ds, M, Qd, r1, r2, m, ⟨a, es, i, n, y, e1, e2, hM, b1, b2, hn, hy, q⟩, k⟩ => by
  subst e1 e2
  cases r1
  cases r2 with
  | cons ry rr =>
    cases rr
    cases ry
    obtain ⟨vs, h1, rs⟩ := m.list hM
    obtain ⟨m', e'⟩ := m.putL hM (rs.eraseIdx n)
    obtain ⟨w, hw, rw_⟩ := rs.get hy
    exact mt_popAt pins s σ H _ _ v us Q I rx rxs ⟨a, vs, i, n, w, rfl, rfl, h1, b1, b2, by rw [← rs.length]; exact hn, hw, k _ _ _ _ m' (rw_.mono e'.tup) e' q⟩
/-- l.index(x): the first equal one -/
def rIdxD : DRm := fun x ys M Q => ∃ y d ds j z, ys = [y] ∧ Dn M x (.cst ds) ∧ (∃ a, x = .ref a) ∧ Dn M y d ∧ okP (.cst ds) = true ∧ okP d = true ∧ ds[j]? = some z ∧ eqD z d = true ∧ (∀ m z', m < j → ds[m]? = some z' → eqD z' d = false) ∧ Q (.int (j : Nat)) M
theorem toPs_get : ∀ {ds : List D} {j : Nat}, (toPs ds)[j]? = (ds[j]?).map toP
  | [], j => by simp [toPs]
  | d :: ds, 0 => by simp [toPs]
  | d :: ds, j + 1 => by rw [toPs, List.getElem?_cons_succ, List.getElem?_cons_succ]; exact toPs_get
theorem mt_idxD (S : Std X) : MtD X "list.index" rIdxD := fun pins s σ H x xs v us Q I rx rxs ⟨d, ds, M, Qd, r1, r2, m, ⟨y, e, es, j, z, e2, n1, ⟨a, ea⟩, n2, o1, o2, hz, hzj, hno, q⟩, k⟩ => by
  subst e2 ea
  cases r2 with
  | cons ry rr =>
    cases rr
    have d1 := dp_of m n1 r1
    cases r1
    have hu : X.A.units + 65 < cLine := by have := S.un2; omega
    refine L2.mt_indexD hu pins s σ H _ _ v us Q I rx rxs ⟨a, _, toP e, toPs es, j, toP z, rfl, rfl, d1, dp_of m n2 ry, o1, o2, by rw [toPs_get, hz] <;> rfl, hzj, fun i z' hi hz' => ?_, k _ _ H M m (.int _) (Ev.refl _ _) q⟩
    rw [toPs_get] at hz'
    obtain ⟨w, hw, rfl⟩ := Option.map_eq_some_iff.mp hz'
    exact hno i w hi hw
end
end DL

set_option Elab.async false
set_option linter.all false
set_option maxRecDepth 20000
/-! DL10: list.remove; min, max, sum. -/
namespace PySem
open Sem (wp)
section
variable {prog : Program} {w : World} {A : Around} {E : Value → Shared → Prop} {s : Shared}
/-- min(a, b), compared where s.heap stands -/
theorem least_two {a b : Value} {Q : Value → Shared → Prop} (h : wpAny (model prog w) A.in1 (pyIter (.ref s.heap.objs.size)) (fun it s₂ => ∃ I fp wr G n P St H bt, it = .ref I ∧ WalksS prog w A.in1 I fp wr G n P St ∧ St 0 s₂ ∧ (∀ b ∈ fp, b < s₂.heap.objs.size) ∧ 0 < n ∧
      (∀ b o, H.get? b = some o → b ∉ wr) ∧ (∀ b o, H.get? b = some o → s₂.heap.get? b = some o) ∧ PySem.CmpIn prog w A.in1 .Lt H P bt ∧ ∀ v s', P (argBest bt (n - 1)) v → Moved wr G s₂ s' → Q v s') E { s with heap := s.heap.push { cls := .type "tuple", data := .seq #[a, b] } }) :
    wpAny (model prog w) A (call (.builtin "min") [a, b]) Q E s := by
  have nm : (toString "min" ++ toString ".loop" : String) = "min.loop" := by decide
  refine call_function_tree F.kind_min F.plain_min F.entry_min (F.args_min2 _ _) (show wpAny _ A.in1 (Builtin.Builtins.bindParams "min" ["key", "default"] 0 ⟨[], []⟩ >>= _) _ _ s from wpAny_bind (wpAny_of_eq (show Builtin.Builtins.bindParams "min" ["key", "default"] 0 ⟨[], []⟩ = pure [none, none] from rfl) ?_))
  refine (show wpAny _ A.in1 (newTuple [a, b] >>= _) _ _ s from wpAny_bind (wpAny_newObj_type (wpAny_bind (wpAny_mono h (fun it s2 h2 => ?_) fun _ _ e => e))))
  obtain ⟨I, fp, wr, G, n, P, St, H, bt, rfl, W, hst, hfp, hn, hw, hkeep, hcmp, hQ⟩ := h2
  have off : s2.heap.objs.size ∉ fp := fun hm => Nat.lt_irrefl _ (hfp _ hm)
  refine wpAny_bind (wpAny_newObj_type (by
    rw [nm]
    exact wpAny_pure ⟨plainId_quiet F.plain_min_loop _, PySem.codeAny_min_loop_firstH W H hw bt hcmp s2.heap.objs.size off (PySem.fresh_in hkeep) _ hn (fun b o e => Heap.get?_push_of_some _ (hkeep b o e)) (W.frame 0 s2 _ s2.toks hst (Nat.le_refl _) fun b _ o e => Heap.get?_push_of_some _ e) (Heap.get?_push_size _ rfl) fun v s' hP hm => hQ v s' hP (Moved.drop_new (tk := s2.toks) hm (Nat.le_refl _))⟩))
theorem most_two {a b : Value} {Q : Value → Shared → Prop} (h : wpAny (model prog w) A.in1 (pyIter (.ref s.heap.objs.size)) (fun it s₂ => ∃ I fp wr G n P St H bt, it = .ref I ∧ WalksS prog w A.in1 I fp wr G n P St ∧ St 0 s₂ ∧ (∀ b ∈ fp, b < s₂.heap.objs.size) ∧ 0 < n ∧
      (∀ b o, H.get? b = some o → b ∉ wr) ∧ (∀ b o, H.get? b = some o → s₂.heap.get? b = some o) ∧ PySem.CmpIn prog w A.in1 .Gt H P bt ∧ ∀ v s', P (argBest bt (n - 1)) v → Moved wr G s₂ s' → Q v s') E { s with heap := s.heap.push { cls := .type "tuple", data := .seq #[a, b] } }) :
    wpAny (model prog w) A (call (.builtin "max") [a, b]) Q E s := by
  have nm : (toString "max" ++ toString ".loop" : String) = "max.loop" := by decide
  refine call_function_tree F.kind_max F.plain_max F.entry_max (F.args_max2 _ _) (show wpAny _ A.in1 (Builtin.Builtins.bindParams "max" ["key", "default"] 0 ⟨[], []⟩ >>= _) _ _ s from wpAny_bind (wpAny_of_eq (show Builtin.Builtins.bindParams "max" ["key", "default"] 0 ⟨[], []⟩ = pure [none, none] from rfl) ?_))
  refine (show wpAny _ A.in1 (newTuple [a, b] >>= _) _ _ s from wpAny_bind (wpAny_newObj_type (wpAny_bind (wpAny_mono h (fun it s2 h2 => ?_) fun _ _ e => e))))
  obtain ⟨I, fp, wr, G, n, P, St, H, bt, rfl, W, hst, hfp, hn, hw, hkeep, hcmp, hQ⟩ := h2
  have off : s2.heap.objs.size ∉ fp := fun hm => Nat.lt_irrefl _ (hfp _ hm)
  refine wpAny_bind (wpAny_newObj_type (by
    rw [nm]
    exact wpAny_pure ⟨plainId_quiet F.plain_max_loop _, PySem.codeAny_max_loop_firstH W H hw bt hcmp s2.heap.objs.size off (PySem.fresh_in hkeep) _ hn (fun b o e => Heap.get?_push_of_some _ (hkeep b o e)) (W.frame 0 s2 _ s2.toks hst (Nat.le_refl _) fun b _ o e => Heap.get?_push_of_some _ e) (Heap.get?_push_size _ rfl) fun v s' hP hm => hQ v s' hP (Moved.drop_new (tk := s2.toks) hm (Nat.le_refl _))⟩))
end
end PySem
namespace DL
open PySem L2 PyProof.Rows
/-- the iterator of a list or tuple, as min, max and sum ask it -/
theorem iterB {prog : Program} {w : World} {A : Around} {E : Value → Shared → Prop} {s : Shared} {k : Bool} {a : Nat} {vs : Array Value} {Q : Value → Shared → Prop} (hh : A.handled = none) (hl : srcB k s.heap a vs)
    (h : ∀ s₂ : Shared, s₂ = { s with heap := s.heap.push (oB k a) } → WalksS prog w A s.heap.objs.size [s.heap.objs.size, a] [s.heap.objs.size] (fun a b => b = a) vs.size (fun i v => vs[i]? = some v) (fun i s' => itB k s'.heap s.heap.objs.size a i ∧ srcB k s'.heap a vs) →
      (itB k s₂.heap s.heap.objs.size a 0 ∧ srcB k s₂.heap a vs) → (∀ b ∈ [s.heap.objs.size, a], b < s₂.heap.objs.size) → (∀ b o, s.heap.get? b = some o → b ∉ [s.heap.objs.size]) → (∀ b o, s.heap.get? b = some o → s₂.heap.get? b = some o) → Q (.ref s.heap.objs.size) s₂) :
    wpAny (model prog w) A (pyIter (.ref a)) Q E s := by
  cases k with
  | true => exact PySem.W.iter_listW hh hl h
  | false => exact PySem.W.iter_tupleW hh hl h
/-- the place of the first least, the first greatest -/
def leastD (ds : List D) : D := ds.getD (argBest (fun i j => ltD (ds.getD i .non) (ds.getD j .non)) (ds.length - 1)) .non
def mostD (ds : List D) : D := ds.getD (argBest (fun i j => ltD (ds.getD j .non) (ds.getD i .non)) (ds.length - 1)) .non
def comparable (ds : List D) : Bool := flatDs ds && ds.all okP && ds.all (fun d => ds.all fun e => alikeD d e) && ds.all fun d => decide (d ≠ .non)
theorem toPs_map : ∀ ds : List D, toPs ds = ds.map toP
  | [] => rfl
  | d :: ds => by rw [toPs, toPs_map ds]; rfl
theorem toPs_getD {ds : List D} {i : Nat} : (toPs ds).getD i .none = toP (ds.getD i .non) := by
  rw [List.getD_eq_getElem?_getD, List.getD_eq_getElem?_getD, toPs_get]
  cases ds[i]? <;> rfl
theorem depth_toPs : ∀ {ds : List D}, (∀ d ∈ ds, okP d = true) → PyData.depthAll (toPs ds) ≤ 64
  | [], _ => by simp [toPs, PyData.depthAll]
  | d :: ds, h => by
    have h1 := okP_depth (h d List.mem_cons_self)
    have h2 := depth_toPs fun e he => h e (List.mem_cons_of_mem _ he)
    rw [toPs]
    simp only [PyData.depthAll]
    omega
theorem comparable_of {ds : List D} (h : comparable ds = true) : flatDs ds = true ∧ PySem.W.AlikeAll (toPs ds) ∧ PyData.depthAll (toPs ds) ≤ 64 := by
  unfold comparable at h
  rw [Bool.and_eq_true, Bool.and_eq_true, Bool.and_eq_true] at h
  obtain ⟨⟨⟨h1, h2⟩, h3⟩, h4⟩ := h
  have h2 := List.all_eq_true.mp h2
  have h3 := List.all_eq_true.mp h3
  have h4 := List.all_eq_true.mp h4
  refine ⟨h1, ⟨fun x hx y hy => ?_, fun x hx e => ?_⟩, depth_toPs h2⟩
  · rw [toPs_map] at hx hy
    obtain ⟨d, hd, rfl⟩ := List.mem_map.mp hx
    obtain ⟨d', hd', rfl⟩ := List.mem_map.mp hy
    exact List.all_eq_true.mp (h3 d hd) d' hd'
  · rw [toPs_map] at hx
    obtain ⟨d, hd, rfl⟩ := List.mem_map.mp hx
    have z := of_decide_eq_true (h4 d hd)
    cases d <;> simp_all [toP]
section
variable {X : Cx}
theorem ep_got {pins : List (Nat × Obj)} {σ : L2.St} {H : Hp} {M : MH} {s s₂ s' : Shared} {o : Obj} {a : Nat} {Qd : DQ} {Q : VK} {ds : List D} {vs : List V} {its : List Value} {i : Nat} {u : Value} (I : Inv X pins σ H s) (m : MR (gOf X) H M) (k : Kt (gOf X) H M Qd Q) (r : Rps X.K H ds vs) (rv : Vals vs its) (e : s₂ = { s with heap := s.heap.push o }) (ha : a = s.heap.objs.size)
    (mv : Moved [a] (fun a b => b = a) s₂ s') (hu : its.toArray[i]? = some u) (q : Qd (ds.getD i .non) M) : EP X pins σ Q u s' := by
  obtain ⟨h', tk, rfl, hk⟩ := PySem.W.moved_old e ha mv
  have hu' : its[i]? = some u := by simpa using hu
  have hi := (List.getElem?_eq_some_iff.mp hu').1
  have hl := rv.length
  obtain ⟨v, hv⟩ : ∃ v, vs[i]? = some v := ⟨vs[i]'(by omega), List.getElem?_eq_getElem (by omega)⟩
  obtain ⟨u', hu2, ru⟩ := rv.get hv
  rw [hu'] at hu2
  cases hu2
  obtain ⟨d, hd, rd⟩ := r.getV hv
  have ed : ds.getD i .non = d := by rw [List.getD_eq_getElem?_getD, hd]; rfl
  rw [ed] at q
  exact ep_of k (I.kept (t' := tk) hk) m (Ev.refl _ _) rd ru q
def rMinD : DRn := fun xs M Q => ∃ x ds, xs = [x] ∧ itemsOf M x = some ds ∧ ds ≠ [] ∧ comparable ds = true ∧ Q (leastD ds) M
def rMaxD : DRn := fun xs M Q => ∃ x ds, xs = [x] ∧ itemsOf M x = some ds ∧ ds ≠ [] ∧ comparable ds = true ∧ Q (mostD ds) M
theorem len_pos {α : Type} {l : List α} (h : l ≠ []) : 0 < l.length := List.length_pos_iff.mpr h
theorem ok_min {X : Cx} (S : Std X) : CallR X (.builtin "min") (liftRn (gOf X) rMinD) := by
  intro pins s σ H vs us Q I rx ⟨ds0, M, Qd, r, m, ⟨x, ds, e, hi, hne, hc, q⟩, k⟩
  subst e
  cases r with
  | cons r1 r2 =>
    cases r2
    cases rx with
    | cons q1 q2 =>
      cases q2
      obtain ⟨kd, a, ev, src⟩ := src_of hi r1 m
      subst ev
      cases q1
      obtain ⟨ws, hq, rr⟩ := src H M m (Tups.refl _) (by cases x <;> first | rfl | trivial)
      obtain ⟨its, rv, hs⟩ := seqB I hq
      obtain ⟨f, al, dp⟩ := comparable_of hc
      obtain ⟨as, ra⟩ := Dp.readsAll I _ _ _ (dps_of m (Dn.flats ds f) rr) rv
      have hl : its.toArray.size = ds.length := by rw [List.size_toArray, rr.length, rv.length]
      have hu := S.un2
      refine PySem.call_min_walkH (iterB (A := X.A.in1) (I.ok.hd S.calm) hs fun s2 e W st hfp hw hk => ?_)
      refine ⟨_, _, _, _, _, _, _, s.heap, _, rfl, W, st, hfp, by rw [hl]; exact len_pos hne, hw, hk, PySem.W.cmpIn_lt (A := X.A.in1) ra al (by show X.A.units + 1 + _ < _; omega), fun v s' hP mv => ?_⟩
      refine ep_got I m k rr rv e rfl mv hP ?_
      rw [hl]
      simp only [toPs_getD]
      exact q
theorem ok_max {X : Cx} (S : Std X) : CallR X (.builtin "max") (liftRn (gOf X) rMaxD) := by
  intro pins s σ H vs us Q I rx ⟨ds0, M, Qd, r, m, ⟨x, ds, e, hi, hne, hc, q⟩, k⟩
  subst e
  cases r with
  | cons r1 r2 =>
    cases r2
    cases rx with
    | cons q1 q2 =>
      cases q2
      obtain ⟨kd, a, ev, src⟩ := src_of hi r1 m
      subst ev
      cases q1
      obtain ⟨ws, hq, rr⟩ := src H M m (Tups.refl _) (by cases x <;> first | rfl | trivial)
      obtain ⟨its, rv, hs⟩ := seqB I hq
      obtain ⟨f, al, dp⟩ := comparable_of hc
      obtain ⟨as, ra⟩ := Dp.readsAll I _ _ _ (dps_of m (Dn.flats ds f) rr) rv
      have hl : its.toArray.size = ds.length := by rw [List.size_toArray, rr.length, rv.length]
      have hu := S.un2
      refine PySem.call_max_walkH (iterB (A := X.A.in1) (I.ok.hd S.calm) hs fun s2 e W st hfp hw hk => ?_)
      refine ⟨_, _, _, _, _, _, _, s.heap, _, rfl, W, st, hfp, by rw [hl]; exact len_pos hne, hw, hk, PySem.W.cmpIn_gt (A := X.A.in1) ra al (by show X.A.units + 1 + _ < _; omega), fun v s' hP mv => ?_⟩
      refine ep_got I m k rr rv e rfl mv hP ?_
      rw [hl]
      simp only [toPs_getD]
      exact q
def rMin2D : DRn := fun xs M Q => ∃ x y, xs = [x, y] ∧ comparable [x, y] = true ∧ Q (leastD [x, y]) M
def rMax2D : DRn := fun xs M Q => ∃ x y, xs = [x, y] ∧ comparable [x, y] = true ∧ Q (mostD [x, y]) M
theorem reads_new {s : Shared} {o : Obj} {vs : List Value} {ds : List PyData} {as : List Nat} (r : ReadsAll s.heap vs ds as) : ReadsAll (s.heap.push o) vs ds as := ReadsAll.keeps (fun b u e => Heap.get?_push_of_some _ e) r
theorem moved_old2 {s s₁ s₂ s' : Shared} {a : Nat} {o p : Obj} (e1 : s₁ = { s with heap := s.heap.push p }) (e : s₂ = { s₁ with heap := s₁.heap.push o }) (ha : a = s₁.heap.objs.size) (m : Moved [a] (fun a b => b = a) s₂ s') : ∃ h' tk, s' = { s with heap := h', toks := tk } ∧ ∀ b o, s.heap.get? b = some o → h'.get? b = some o := by
  obtain ⟨h', tk, rfl, hk⟩ := PySem.W.moved_old e ha m
  subst e1
  exact ⟨h', tk, rfl, fun b o q => hk b o (Heap.get?_push_of_some _ q)⟩
theorem ep_got2 {pins : List (Nat × Obj)} {σ : L2.St} {H : Hp} {M : MH} {s s₁ s₂ s' : Shared} {o p : Obj} {a : Nat} {Qd : DQ} {Q : VK} {ds : List D} {vs : List V} {its : List Value} {i : Nat} {u : Value} (I : Inv X pins σ H s) (m : MR (gOf X) H M) (k : Kt (gOf X) H M Qd Q) (r : Rps X.K H ds vs) (rv : Vals vs its) (e1 : s₁ = { s with heap := s.heap.push p }) (e : s₂ = { s₁ with heap := s₁.heap.push o }) (ha : a = s₁.heap.objs.size)
    (mv : Moved [a] (fun a b => b = a) s₂ s') (hu : its.toArray[i]? = some u) (q : Qd (ds.getD i .non) M) : EP X pins σ Q u s' := by
  obtain ⟨h', tk, rfl, hk⟩ := moved_old2 e1 e ha mv
  have hu' : its[i]? = some u := by simpa using hu
  have hi := (List.getElem?_eq_some_iff.mp hu').1
  have hl := rv.length
  obtain ⟨v, hv⟩ : ∃ v, vs[i]? = some v := ⟨vs[i]'(by omega), List.getElem?_eq_getElem (by omega)⟩
  obtain ⟨u', hu2, ru⟩ := rv.get hv
  rw [hu'] at hu2
  cases hu2
  obtain ⟨d, hd, rd⟩ := r.getV hv
  have ed : ds.getD i .non = d := by rw [List.getD_eq_getElem?_getD, hd]; rfl
  rw [ed] at q
  exact ep_of k (I.kept (t' := tk) hk) m (Ev.refl _ _) rd ru q
theorem ok_min2 {X : Cx} (S : Std X) : CallR X (.builtin "min") (liftRn (gOf X) rMin2D) := by
  intro pins s σ H vs us Q I rx ⟨ds0, M, Qd, r, m, ⟨x, y, e, hc, q⟩, k⟩
  subst e
  obtain ⟨f, al, dp⟩ := comparable_of hc
  obtain ⟨as, ra⟩ := Dp.readsAll I _ _ _ (dps_of m (Dn.flats _ f) r) rx
  have hu := S.un2
  have hl : us.length = 2 := by rw [← rx.length, ← r.length]; rfl
  match us, hl, rx, ra with
  | [u1, u2], _, rx, ra =>
    refine PySem.least_two (iterB (A := X.A.in1) (k := false) (vs := #[u1, u2]) (I.ok.hd S.calm) ⟨_, Heap.get?_push_size _ rfl, rfl, _, rfl⟩ fun s2 e W st hfp hw hk => ?_)
    refine ⟨_, _, _, _, _, _, _, _, _, rfl, W, st, hfp, Nat.zero_lt_succ 1, hw, hk, PySem.W.cmpIn_lt (A := X.A.in1) (vs := #[u1, u2]) (s := { s with heap := s.heap.push { cls := .type "tuple", data := .seq #[u1, u2] } }) (reads_new ra) al (by show X.A.units + 1 + _ < _; omega), fun v s' hP mv => ?_⟩
    refine ep_got2 I m k r rx rfl e rfl mv hP ?_
    simp only [toPs_getD]
    exact q
theorem ok_max2 {X : Cx} (S : Std X) : CallR X (.builtin "max") (liftRn (gOf X) rMax2D) := by
  intro pins s σ H vs us Q I rx ⟨ds0, M, Qd, r, m, ⟨x, y, e, hc, q⟩, k⟩
  subst e
  obtain ⟨f, al, dp⟩ := comparable_of hc
  obtain ⟨as, ra⟩ := Dp.readsAll I _ _ _ (dps_of m (Dn.flats _ f) r) rx
  have hu := S.un2
  have hl : us.length = 2 := by rw [← rx.length, ← r.length]; rfl
  match us, hl, rx, ra with
  | [u1, u2], _, rx, ra =>
    refine PySem.most_two (iterB (A := X.A.in1) (k := false) (vs := #[u1, u2]) (I.ok.hd S.calm) ⟨_, Heap.get?_push_size _ rfl, rfl, _, rfl⟩ fun s2 e W st hfp hw hk => ?_)
    refine ⟨_, _, _, _, _, _, _, _, _, rfl, W, st, hfp, Nat.zero_lt_succ 1, hw, hk, PySem.W.cmpIn_gt (A := X.A.in1) (vs := #[u1, u2]) (s := { s with heap := s.heap.push { cls := .type "tuple", data := .seq #[u1, u2] } }) (reads_new ra) al (by show X.A.units + 1 + _ < _; omega), fun v s' hP mv => ?_⟩
    refine ep_got2 I m k r rx rfl e rfl mv hP ?_
    simp only [toPs_getD]
    exact q
/-! ### sum -/
def intsOf : List D → Option (List Int)
  | [] => some []
  | .int i :: ds => (intsOf ds).map (i :: ·)
  | _ :: _ => none
theorem ints_get : ∀ {ds : List D} {is : List Int} {i : Nat} {d : D}, intsOf ds = some is → ds[i]? = some d → ∃ j, is[i]? = some j ∧ d = .int j
  | [], _, _, _, _, h => by simp at h
  | d :: ds, is, i, e, h, hd => by
    cases d with
    | int j =>
      simp only [intsOf, Option.map_eq_some_iff] at h
      obtain ⟨js, h1, rfl⟩ := h
      cases i with
      | zero => simp at hd; exact ⟨j, rfl, hd.symm⟩
      | succ i => exact ints_get (i := i) h1 (by simpa using hd)
    | _ => simp [intsOf] at h
theorem ints_len : ∀ {ds : List D} {is : List Int}, intsOf ds = some is → is.length = ds.length
  | [], is, h => by
    simp only [intsOf, Option.some.injEq] at h
    subst h; rfl
  | d :: ds, is, h => by
    cases d with
    | int j =>
      simp only [intsOf, Option.map_eq_some_iff] at h
      obtain ⟨js, h1, rfl⟩ := h
      rw [List.length_cons, List.length_cons, ints_len h1]
    | _ => simp [intsOf] at h
theorem pre_sum : ∀ (is : List Int) (n : Nat), n ≤ is.length → preSum (fun i => is.getD i 0) n = (is.take n).sum
  | is, 0, _ => by simp [preSum]
  | is, n + 1, h => by
    rw [preSum, pre_sum is n (by omega), List.take_add_one, List.sum_append]
    have z : is[n]? = some (is[n]'(by omega)) := List.getElem?_eq_getElem (by omega)
    rw [z, List.getD_eq_getElem?_getD, z]
    simp
def rSumD : DRn := fun xs M Q => ∃ x ds is, xs = [x] ∧ itemsOf M x = some ds ∧ intsOf ds = some is ∧ Q (.int is.sum) M
theorem ok_sum {X : Cx} (S : Std X) : CallR X (.builtin "sum") (liftRn (gOf X) rSumD) := by
  intro pins s σ H vs us Q I rx ⟨ds0, M, Qd, r, m, ⟨x, ds, is, e, hi, hs0, q⟩, k⟩
  subst e
  cases r with
  | cons r1 r2 =>
    cases r2
    cases rx with
    | cons q1 q2 =>
      cases q2
      obtain ⟨kd, a, ev, src⟩ := src_of hi r1 m
      subst ev
      cases q1
      obtain ⟨ws, hq, rr⟩ := src H M m (Tups.refl _) (by cases x <;> first | rfl | trivial)
      obtain ⟨its, rv, hs⟩ := seqB I hq
      have hl : its.toArray.size = ds.length := by rw [List.size_toArray, rr.length, rv.length]
      refine call_sum_walkAnyS (iterB (A := X.A.in1) (I.ok.hd S.calm) hs fun s2 e W st hfp hw hk => ?_)
      refine ⟨_, _, _, _, _, _, _, fun i => is.getD i 0, rfl, W, st, hfp, fun i v hv => ?_, fun s' t' mv => ?_⟩
      · have hv' : its[i]? = some v := by simpa using hv
        have hlt := (List.getElem?_eq_some_iff.mp hv').1
        have hll := rv.length
        obtain ⟨w, hw⟩ : ∃ w, ws[i]? = some w := ⟨ws[i]'(by omega), List.getElem?_eq_getElem (by omega)⟩
        obtain ⟨u, hu, ru⟩ := rv.get hw
        rw [hv'] at hu
        cases hu
        obtain ⟨d, hd, rd⟩ := rr.getV hw
        obtain ⟨j, hj, rfl⟩ := ints_get hs0 hd
        cases rd
        obtain ⟨t, rfl⟩ := ru
        refine ⟨t, ?_⟩
        show Value.int j t = Value.int (is.getD i 0) t
        rw [List.getD_eq_getElem?_getD, hj]
        rfl
      · obtain ⟨h', tk, rfl, hk'⟩ := PySem.W.moved_old e rfl mv
        rw [hl, pre_sum is ds.length (by rw [ints_len hs0]; exact Nat.le_refl _), ← ints_len hs0, List.take_length]
        exact ep_of k (I.kept (t' := tk) hk') m (Ev.refl _ _) (.int _) ⟨_, rfl⟩ q
end
end DL

set_option Elab.async false
set_option linter.all false
set_option maxRecDepth 20000
/-! DL11: list.remove; dict(..) of pairs. -/
namespace DL
open PySem L2 PyProof.Rows
section
variable {X : Cx}
/-- l.remove(x): the first equal one goes -/
def rRemD : DRm := fun x ys M Q => ∃ a y d es ds j z, x = .ref a ∧ ys = [y] ∧ M a = some (.lst es) ∧ Dn M (.ref a) (.cst ds) ∧ Dn M y d ∧ okP (.cst ds) = true ∧ okP d = true ∧ ds[j]? = some z ∧ eqD z d = true ∧ (∀ m z', m < j → ds[m]? = some z' → eqD z' d = false) ∧ Q .non (up M a (.lst (es.eraseIdx j)))
theorem mt_remD (S : Std X) : MtD X "list.remove" rRemD := fun pins s σ H x xs v us Q I rx rxs ⟨d, ds, M, Qd, r1, r2, m, ⟨a, y, e, fs, es, j, z, ea, e2, hM, n1, n2, o1, o2, hz, hzj, hno, q⟩, k⟩ => by
  subst e2 ea
  cases r2 with
  | cons ry rr =>
    cases rr
    have d1 := dp_of m n1 r1
    have d2 := dp_of m n2 ry
    cases r1
    cases rx
    obtain ⟨ws, h1, rs⟩ := m.list hM
    obtain ⟨uy, rfl, ru⟩ := rxs.one
    obtain ⟨bs, b1⟩ := Dp.reads I _ _ _ d2 ru
    obtain ⟨zz, its, n, rv, hl, ho⟩ := I.lstM h1
    have hu : X.A.units + 65 < cLine := by have := S.un2; omega
    have hxs : PyData.canLayAll0 (toPs es) = true := SeqAt.canLay_of_shaped o1
    have hroom : X.A.units + 1 + min (PyData.depthAll (toPs es)) (toP e).depth < cLine := room_in_shaped o2 hu
    have da : DpAll X.K H ws (toPs es) := by
      cases n1 with
      | lst h t =>
        rw [hM] at h
        cases h
        exact dps_of m t rs
    obtain ⟨as, h4⟩ := Dp.readsAll I (toPs es) _ its da rv
    have hn : its.length = (toPs es).length := SeqAt.ReadsAll.length (toPs es) its as h4
    have hmap : its.map (SeqAt.readOf s.heap) = toPs es := SeqAt.readsAll_map (toPs es) its as hxs h4
    have toLen : (toPs es).length = es.length := by rw [toPs_map, List.length_map]
    have hjd := (List.getElem?_eq_some_iff.mp hz).1
    have hjl : j < its.length := by omega
    have at_ : ∀ (m : Nat) (hm : m < its.toArray.size) (z' : D), es[m]? = some z' → SeqAt.readOf s.heap its.toArray[m] = toP z' := by
      intro m hm z' hz'
      have hml : m < its.length := by simpa using hm
      have q1 : (its.map (SeqAt.readOf s.heap))[m]? = some (toP z') := by rw [hmap, toPs_get, hz'] <;> rfl
      rw [List.getElem?_map, List.getElem?_eq_getElem hml] at q1
      have e1 : SeqAt.readOf s.heap its[m] = toP z' := Option.some.inj q1
      simpa using e1
    refine call_meets PySem.F.slot_list_remove ⟨_, ho, rfl⟩ PySem.F.entry_list_remove (PySem.F.args_list_remove_2 _ _)
      (SeqAt.list_removeAt a its.toArray n none #[] uy (fun u => PyData.eqv (SeqAt.readOf s.heap u) (toP e)) j (by simpa using hjl) ?_ ?_ (by rw [List.size_toArray, ← hl]; exact zz)) ⟨ho, SeqAt.items_eqAt (vs := its.toArray) (show ReadsAll s.heap its.toArray.toList _ as from h4) b1 hxs (SeqAt.canLay_of_shaped o2) hroom, ?_⟩
    · show PyData.eqv (SeqAt.readOf s.heap its.toArray[j]) (toP e) = true
      rw [at_ j (by simpa using hjl) z hz]
      exact hzj
    · intro i hi hij
      have hid : i < es.length := by omega
      have hz' : es[i]? = some es[i] := List.getElem?_eq_getElem hid
      show PyData.eqv (SeqAt.readOf s.heap its.toArray[i]) (toP e) = false
      rw [at_ i hi _ hz']
      exact hno i _ hij hz'
    · obtain ⟨m', e'⟩ := m.putL hM (rs.eraseIdx j)
      refine ⟨.non, _, I.lset (its' := its.eraseIdx j) (t' := s.toks) h1 ho ?_ (rv.eraseIdx j) (Nat.le_trans (len_erase ws j) zz), rfl, k _ _ _ _ m' .non e' q⟩
      show its.toArray.eraseIdxIfInBounds j = (its.eraseIdx j).toArray
      rw [List.eraseIdxIfInBounds_toArray]
end
/-! ### dict of pairs -/
def prsOf : List D → Option (List (D × D))
  | [] => some []
  | .tup [k, v] :: ds => if okKey k = true then (prsOf ds).map ((k, v) :: ·) else none
  | _ :: _ => none
theorem prs_eq : ∀ {ds : List D} {ps : List (D × D)}, prsOf ds = some ps → ds = ps.map (fun p => .tup [p.1, p.2]) ∧ ∀ p ∈ ps, okKey p.1 = true
  | [], ps, h => by
    simp only [prsOf, Option.some.injEq] at h
    subst h
    exact ⟨rfl, fun p hp => by cases hp⟩
  | d :: ds, ps, h => by
    unfold prsOf at h
    split at h
    · rename_i e; cases e
    · rename_i k v ds' e
      cases e
      split at h
      · rename_i hk
        obtain ⟨ps', h1, rfl⟩ := Option.map_eq_some_iff.mp h
        obtain ⟨h2, h3⟩ := prs_eq h1
        refine ⟨by rw [h2]; rfl, fun p hp => ?_⟩
        rcases List.mem_cons.mp hp with z | z
        · subst z; exact hk
        · exact h3 p z
      · cases h
    · cases h
def aputs (kvs : List (D × D)) (ps : List (D × D)) : List (D × D) := ps.foldl (fun acc p => aput acc p.1 p.2) kvs
theorem aputs_len : ∀ (ps kvs : List (D × D)), (aputs kvs ps).length ≤ kvs.length + ps.length
  | [], kvs => Nat.le_refl _
  | p :: ps, kvs => by
    have h1 := aputs_len ps (aput kvs p.1 p.2)
    have h2 := aput_len kvs p.1 p.2
    show (aputs (aput kvs p.1 p.2) ps).length ≤ _
    rw [List.length_cons]
    omega
theorem stored_nodup {xs : List KRow} {k : NestedKey} {a : Nat} {u : Value} (h : (xs.map (·.1)).Nodup) : ((storedH xs k a u).map (·.1)).Nodup := by
  cases e : atKey xs k with
  | some p =>
    rw [storedH_old e]
    have z : (xs.map (fun x => putAt k u x)).map (·.1) = xs.map (·.1) := by
      rw [List.map_map]
      refine List.map_congr_left fun x _ => ?_
      show (putAt k u x).1 = x.1
      unfold putAt
      split <;> rfl
    first | (rw [z]; exact h) | (simp only [List.map_map] at z ⊢; rw [z]; exact h)
  | none =>
    rw [storedH_new e, List.map_append, List.nodup_append]
    refine ⟨h, by simp, fun x hx y hy => ?_⟩
    intro z
    subst z
    simp only [List.map_cons, List.map_nil, List.mem_singleton] at hy
    subst hy
    obtain ⟨q, hq, he⟩ := List.mem_map.mp hx
    clear hx h
    induction xs with
    | nil => cases hq
    | cons w xs ih =>
      rw [atKey_cons] at e
      split at e
      · cases e
      · rename_i hne
        rcases List.mem_cons.mp hq with z | z
        · subst z; exact hne he
        · exact ih e z
theorem puts_paired {K : PySem.W.Frag} {H : Hp} {ps : List (D × D)} {rows : List KRow} (hp : Paired (ERp K H) ps rows) : ∀ {kvs : List (D × D)} {xs : List KRow}, Paired (ERp K H) kvs xs → (xs.map (·.1)).Nodup →
    Paired (ERp K H) (aputs kvs ps) (storedAllH xs rows) ∧ ((storedAllH xs rows).map (·.1)).Nodup := by
  induction hp with
  | nil => intro kvs xs r nd; exact ⟨r, nd⟩
  | cons h t ih =>
    intro kvs xs r nd
    obtain ⟨h1, h2, h3, v, h4, h5⟩ := h
    exact ih (put_paired h1 h2 h3 h4 h5 r nd) (stored_nodup nd)
theorem depth_okKey {d : D} {k : NestedKey} (h : okKey d = true) (hk : kyOf d = some k) : k.depth ≤ 8 := by
  obtain ⟨ds, ks, rfl, h1, h2⟩ := okKey_of h
  rw [hk] at h1
  cases h1
  exact h2
section
variable {X : Cx} {pins : List (Nat × Obj)} {σ : L2.St} {H : Hp} {s : Shared} {M : MH}
/-- the pairs of a list, as they lie -/
theorem rows_of (I : Inv X pins σ H s) : ∀ {ps : List (D × D)} {vs : List V} {us : List Value}, (∀ p ∈ ps, okKey p.1 = true) → Rps X.K H (ps.map fun p => .tup [p.1, p.2]) vs → Vals vs us →
    ∃ (Ts : List Nat) (rows : List KRow), us = Ts.map Value.ref ∧ Ts.length = ps.length ∧ rows.length = ps.length ∧ Paired (ERp X.K H) ps rows ∧ (∀ x ∈ rows, (nestedKind X.prog X.w).is s.heap x.1 x.2.1) ∧
      ∀ (i T : Nat) (q : KRow), Ts[i]? = some T → rows[i]? = some q → s.heap.IsTuple T #[.ref q.2.1, q.2.2]
  | [], _, _, _, .nil, .nil => ⟨[], [], rfl, rfl, rfl, .nil, (fun x hx => by cases hx), fun i T q h => by simp at h⟩
  | p :: ps, _, _, ok, .cons r rs, .cons q qs => by
    obtain ⟨Ts, rows, e1, e2, e3, pr, is, at_⟩ := rows_of I (ps := ps) (fun p hp => ok p (List.mem_cons_of_mem _ hp)) rs qs
    cases r with
    | tup h rt =>
      cases q
      rename_i a ws
      cases rt with
      | cons rk rt =>
        cases rt with
        | cons rv rt =>
          cases rt
          obtain ⟨_, its, rits, o, h1, h2, n, h3⟩ := I.hok _ _ h
          cases rits with
          | cons q1 q2 =>
            cases q2 with
            | cons q2 q3 =>
              cases q3
              rename_i uk uv
              obtain ⟨ky, b, hk, hd, hv, hu, his⟩ := key_at I (ok p List.mem_cons_self) rk q1
              subst hv hu
              refine ⟨a :: Ts, (ky, b, uv) :: rows, by rw [e1]; rfl, by simp [e2], by simp [e3], .cons ⟨hk, hd, rk, _, q2, rv⟩ pr, fun x hx => ?_, fun i T w hT hw => ?_⟩
              · rcases List.mem_cons.mp hx with z | z
                · rw [z]; exact his
                · exact is x z
              · cases i with
                | zero =>
                  simp at hT hw
                  subst hT hw
                  exact ⟨o, h1, h2, n, h3⟩
                | succ i => exact at_ i T w (by simpa using hT) (by simpa using hw)
/-- dict(l), l a list of pairs -/
def rDictD : DRn := fun xs M Q => ∃ a ds ps, xs = [.ref a] ∧ M a = some (.lst ds) ∧ prsOf ds = some ps ∧ ∀ p, M p = none → Q (.ref p) (up M p (.dct (aputs [] ps)))
theorem nested_stay {h h' : Heap} {P : Program} {w : World} (k : ∀ b o, h.get? b = some o → h'.get? b = some o) {x : NestedKey} {b : Nat} (i : (nestedKind P w).is h x b) : (nestedKind P w).is h' x b :=
  nestedKind_stays.stays (fun b o vs n e _ => k b o e) i
theorem ok_dict (S : Std X) : CallR X (.type "dict") (liftRn (gOf X) rDictD) := by
  intro pins s σ H vs us Q I rx ⟨ds0, M, Qd, r, m, ⟨a, ds, ps, e, hM, hp, q⟩, k⟩
  subst e
  cases r with
  | cons r1 r2 =>
    cases r2
    cases r1
    cases rx with
    | cons q1 q2 =>
      cases q2
      cases q1
      obtain ⟨ws, h1, rs⟩ := m.list hM
      obtain ⟨hds, hok⟩ := prs_eq hp
      subst hds
      obtain ⟨its, rv, ⟨o, n, ho, hcl, hdt, hda⟩, hz⟩ := I.list (.of h1)
      obtain ⟨Ts, rows, e1, e2, e3, pr, is, at_⟩ := rows_of I hok rs rv
      subst e1
      have hl : ws.length = ps.length := by rw [← rs.length, List.length_map]
      have hlr : (rows.map fun q => ((Value.ref q.2.1, q.2.2) : Value × Value)).length = rows.length := List.length_map ..
      have getT : ∀ j, j < rows.length → Ts[j]? = some (Ts.getD j 0) := fun j hj => by
        rw [List.getD_eq_getElem?_getD, List.getElem?_eq_getElem (by omega)] <;> rfl
      refine call_dict_pairsH (knd := nestedKind X.prog X.w) (ps := rows) (PairArg.list a (Ts.map Value.ref).toArray (fun j => Ts.getD j 0) (rows.map fun q => (Value.ref q.2.1, q.2.2))) (I.ok.hd S.calm) (show X.A.units + 1 + 1 + 8 < cLine by have := S.un; omega) ⟨⟨o, n, ho, hcl, hdt, hda⟩, ?_, fun j u v hj => ?_⟩ ⟨hlr.symm, fun i u v hi => ?_⟩ (fun h' hk x hx => ?_) (by rw [hlr, e3, ← hl]; exact hz) fun h' tk hd' hk => ?_
      · rw [List.size_toArray, List.length_map, hlr, e2, e3]
      · rw [List.getElem?_map, Option.map_eq_some_iff] at hj
        obtain ⟨q, hq, eq⟩ := hj
        cases eq
        have hjl := (List.getElem?_eq_some_iff.mp hq).1
        refine ⟨?_, .inl (at_ j _ q (getT j hjl) hq)⟩
        rw [List.getElem?_toArray, List.getElem?_map, getT j hjl]
        rfl
      · unfold PairRel at hi
        rw [List.getElem?_map, Option.map_eq_some_iff] at hi
        obtain ⟨q, hq, eq⟩ := hi
        cases eq
        exact ⟨q.1, q.2.1, hq, rfl⟩
      · exact nested_stay (fun b o e => hk b o (Nat.ne_of_lt (Heap.lt_size e)) (fun z => by cases z) e) (is x hx)
      · obtain ⟨p2, n2⟩ := puts_paired pr (.nil (F := ERp X.K H)) List.nodup_nil
        obtain ⟨H', I', m', e', hn⟩ := dict_new (kvs := aputs [] ps) (t' := tk) I m (Nat.le_refl _) (fun b u e => hk b u (fun z => by cases z) e) hd' (Nat.le_trans (aputs_len ps []) (by rw [List.length_nil, Nat.zero_add, ← hl]; exact hz)) p2
        exact ep_of k I' m' e' (.ref _) rfl (q _ hn)
end
end DL

set_option Elab.async false
set_option linter.all false
set_option maxRecDepth 20000
/-! DL12: the loop of a comprehension's clause, whatever is done with an item; dict comprehensions. -/
namespace DL
open PySem L2 PyProof.Rows
abbrev NoE : Value → Shared → Prop := fun _ _ => False
/-- a clause's tests -/
abbrev ifsRun (ifs : List Expr) (env : Env) : Sem Bool := forIn ifs true fun c r => if r = true then do let ok ← isTrue c env (eval c env); pure (ForInStep.yield ok) else pure (ForInStep.yield r)
/-- a turn of a clause: body is what is done with an item that passes the tests -/
structure TurnIs (e : Expr) (k : Nat) (it acc : Value) (env : Env) (tg : Expr) (ifs : List Expr) (p : Pos) (body : Sem Unit) : Prop where
  qu : (Code.compLoop e k it acc env).quiet = true
  und : ∀ A : Around, A.under (.compLoop e k it acc env) = A
  den : ∀ (prog : Program) (w : World), (model prog w).den (.compLoop e k it acc env) = (compTurn e k it acc env).onRaise (fun x => do noteFrame x env; theTreesLotGoes x)
  turn : compTurn e k it acc env = (do
    standAt p
    match ← pyNext it with
    | none => pure (.done .next)
    | some v =>
      letOwnedTupleGo tg it v
      assign tg env v
      let mut ok := true
      for c in ifs do
        if ok then ok ← isTrue c env (eval c env)
      if ok then body
      again (.compLoop e k it acc env))
theorem loopG {prog : Program} {w : World} {A : Around} {R : Result → Shared → Prop} {s : Shared} {e tg : Expr} {k : Nat} {ifs : List Expr} {it acc : Value} {env : Env} {p : Pos} {body : Sem Unit} (ht : TurnIs e k it acc env tg ifs p body) (I : Nat → Shared → Prop)
    (turn : ∀ n s, I n s → wpAny (model prog w) A (pyNext it) (fun r s1 => match r with
      | none => R (.ok .next) s1
      | some v => wpAny (model prog w) A (letOwnedTupleGo tg it v) (fun _ s2 => wpAny (model prog w) A (assign tg env v) (fun _ s3 => wpAny (model prog w) A (ifsRun ifs env) (fun ok s4 => if ok = true then wpAny (model prog w) A body (fun _ s5 => ∃ m, m < n ∧ I m s5) NoE s4 else ∃ m, m < n ∧ I m s4) NoE s3) NoE s2) NoE s1) NoE s)
    (n : Nat) (h : I n s) : codeAny (model prog w) A (.compLoop e k it acc env) R s := by
  refine codeAny_loop ht.qu I (fun n s hI => ?_) n h
  rw [ht.und, ht.den]
  refine wpAny_noted ?_
  rw [ht.turn]
  refine wpAny_bind (wpAny_standAt (wpAny_bind (thnF (turn n s hI) fun r s1 h1 => ?_)))
  match r, h1 with
  | none, h1 => exact wpAny_pure h1
  | some v, h1 =>
    refine wpAny_bind (thnF h1 fun _ s2 h2 => wpAny_bind (thnF h2 fun _ s3 h3 => wpAny_bind (thnF h3 fun ok s4 h4 => ?_)))
    match ok, h4 with
    | false, h4 => exact wpAny_pure ⟨rfl, h4⟩
    | true, h4 => exact wpAny_bind (thnF h4 fun _ s5 h5 => wpAny_pure ⟨rfl, h5⟩)
theorem wipe_wipe {vs ws : List Nat} (σ : L2.St) (h : ∀ i ∈ ws, i ∈ vs) : wipe (wipe σ ws) vs = wipe σ vs := by
  apply List.ext_getElem?
  intro j
  by_cases hj : j ∈ vs
  · have no : ∀ (τ : L2.St), (wipe τ vs)[j]? = if j < τ.length then some none else none := fun τ => by
      by_cases hl : j < τ.length
      · rw [if_pos hl]
        cases e : (wipe τ vs)[j]? with
        | none => rw [List.getElem?_eq_none_iff, wipe_length] at e; omega
        | some o =>
          cases o with
          | none => rfl
          | some x => exact absurd hj (wipe_some e).2
      · rw [if_neg hl, List.getElem?_eq_none (by rw [wipe_length]; omega)]
    rw [no, no, wipe_length]
  · rw [wipe_out hj, wipe_out hj, wipe_out fun z => hj (h j z)]
theorem thnX {α : Type} {t : Sem α} {Q Q' : α → Shared → Prop} {M : Model} {A : Around} {E E' : Value → Shared → Prop} {s : Shared} (hE : ∀ e s, E e s → False) (h : wpAny M A t Q E s) (hQ : ∀ a s, Q a s → Q' a s) : wpAny M A t Q' E' s := wpAny_mono h hQ fun e s z => (hE e s z).elim
/-- one clause: P i stands ahead of the i-th turn, B i ahead of what is done with the i-th item -/
theorem level {Xb : Cx} {e tg : Expr} {k N : Nat} {ifs : List Expr} {acc : Value} {p : Pos} {body : Sem Unit} {it : Nat} {fp : List Nat} {tn : Nat → Heap → Prop} {J : It} {g : TG} {tt : TT} {vs : List Nat} {pins : List (Nat × Obj)} {σ : L2.St} {H : Hp} {s : Shared} {Fin : Hp → Prop}
    (ht : TurnIs e k (.ref it) acc Xb.env tg ifs p body) (hc : Xb.calm = true) (hx : ∀ e s, Xb.xe e s → False) (T : Turn Xb.prog Xb.w Xb.K tg J fp it tn) (pg : PG Xb tg g) (pt : PTs Xb ifs tt) (P : Nat → Hp → Prop) (B : Nat → L2.St → Hp → Prop)
    (hb : ∀ (i : Nat) (pins' : List (Nat × Obj)) (σ2 : L2.St) (H2 : Hp) (s2 : Shared), Inv Xb pins' σ2 H2 s2 → wipe σ2 vs = wipe σ vs → B i σ2 H2 → wpAny (model Xb.prog Xb.w) Xb.A body (fun _ s3 => ∃ σ3 H3, Inv Xb pins' σ3 H3 s3 ∧ wipe σ3 vs = wipe σ vs ∧ P (i + 1) H3) NoE s2)
    (turn : ∀ i H, P i H → (J.stop i H ∧ Fin H) ∨ (J.go i H ∧ i < N ∧ ∀ x H', J.yld i H x H' → g x (wipe σ vs) H' fun σ2 H2 => wipe σ2 vs = wipe σ vs ∧ tt σ2 H2 fun b H3 => if b = true then B i σ2 H3 else P (i + 1) H3))
    (I : Inv Xb pins (wipe σ vs) H s) (st : tn 0 s.heap) (hf : ∀ b ∈ fp, FpOk Xb pins H b) (p0 : P 0 H) :
    codeAny (model Xb.prog Xb.w) Xb.A (.compLoop e k (.ref it) acc Xb.env) (fun r s' => r = .ok .next ∧ ∃ H', Inv Xb pins (wipe σ vs) H' s' ∧ Fin H') s := by
  have sta : ∀ {H' : Hp}, (∀ b ∈ fp, H' b = none) → ∀ b ∈ fp, FpOk Xb pins H' b := fun hn b hb => ⟨hn b hb, (hf b hb).2⟩
  refine loopG ht (fun n s' => ∃ i H', n = N - i ∧ Inv Xb pins (wipe σ vs) H' s' ∧ tn i s'.heap ∧ (∀ b ∈ fp, H' b = none) ∧ P i H') ?_ N ⟨0, H, rfl, I, st, fun b hb => (hf b hb).1, p0⟩
  rintro n s1 ⟨i, H1, rfl, I1, st1, n1, p1⟩
  rcases turn i H1 p1 with ⟨stop, q⟩ | ⟨go, hi, step⟩
  · refine thnF (T.done Xb rfl rfl rfl hc i pins s1 _ H1 NoE I1 (sta n1) st1 stop) fun r s2 ⟨hr, I2⟩ => ?_
    subst hr
    exact ⟨rfl, H1, I2, q⟩
  · refine thnF (T.item Xb rfl rfl rfl hc i pins s1 _ H1 NoE I1 (sta n1) st1 go) fun r s2 ⟨u, hr, h2⟩ => ?_
    subst hr
    refine thnF h2 fun _ s3 ⟨x, H3, I3, r3, y3, st3, n3⟩ => ?_
    have I3' := I3.pinned (sta n3) (T.obj _ _ st3)
    refine thnX hx (pg.run _ s3 _ H3 x u _ I3' r3 (step x H3 y3)) fun _ s4 ⟨σ4, H4, I4, w4, q4⟩ => ?_
    have fin : ∀ {σ' : L2.St} {s' : Shared} {H' : Hp}, Inv Xb (pins ++ pinsAt fp s3.heap) σ' H' s' → wipe σ' vs = wipe σ vs → P (i + 1) H' → ∃ m, m < N - i ∧ ∃ i H', m = N - i ∧ Inv Xb pins (wipe σ vs) H' s' ∧ tn i s'.heap ∧ (∀ b ∈ fp, H' b = none) ∧ P i H' := fun {σ' s' H'} I' w' p' => by
      have pin : ∀ b ∈ fp, ∀ o, s3.heap.get? b = some o → s'.heap.get? b = some o ∧ H' b = none := fun b hb o eo =>
        let z := I'.pin (b, o) (List.mem_append_right _ (List.mem_append_right _ (mem_pinsAt hb eo)))
        ⟨z.1, z.2.1⟩
      refine ⟨N - (i + 1), by omega, i + 1, H', rfl, I'.unpinned.weak (by rw [← w', wipe_length]) (fun j v ej => by rw [← w'] at ej; exact (wipe_some ej).1), T.keep _ _ _ st3 fun b hb o eo => (pin b hb o eo).1, fun b hb => ?_, p'⟩
      obtain ⟨o, eo, _⟩ := T.obj _ _ st3 b hb
      exact (pin b hb o eo).2
    refine thnX hx (pt.run _ s4 σ4 H4 _ I4 q4) fun b s5 ⟨H5, I5, q5⟩ => ?_
    match b, q5 with
    | false, q5 => exact fin I5 w4 (show P (i + 1) H5 from q5)
    | true, q5 => exact thnF (hb i _ σ4 H5 s5 I5 w4 (show B i σ4 H5 from q5)) fun _ s6 ⟨σ6, H6, I6, w6, q6⟩ => fin I6 w6 q6
/-! ### what is gathered -/
/-- M is led on while an object at D is filled that is not looked at -/
structure Lcg (g : G) (H1 : Hp) (M1 : MH) (D : Nat) (at_ : Hp → Prop) (H : Hp) (M : MH) : Prop where
  mr : MR g H M
  ev : Ev H1 M1 H M
  fr : M D = none
  at_ : at_ H
def accG {α : Type} (al : MH → Prop) (g : Tg) (δ : DS) (bd : DS → α → MH → (α → MH → Prop) → Prop) : List D → α → MH → (α → MH → Prop) → Prop
  | [], acc, M, R => al M ∧ R acc M
  | x :: xs, acc, M, R => al M ∧ ∃ δ', tset g x δ = some δ' ∧ bd δ' acc M fun acc' M' => accG al g δ bd xs acc' M' R
/-- the tests, then bd -/
def thenB {α : Type} (tt : DTT) (bd : DS → α → MH → (α → MH → Prop) → Prop) : DS → α → MH → (α → MH → Prop) → Prop := fun δ acc M R => tt W0 δ M fun b M1 => if b = true then bd δ acc M1 R else R acc M1
/-- what is done with an item does as bd says -/
def BodyOk {α : Type} (g : G) (Xb : Cx) (H1 : Hp) (M1 : MH) (D : Nat) (AT : α → Hp → Prop) (vs : List Nat) (body : Sem Unit) (bd : DS → α → MH → (α → MH → Prop) → Prop) : Prop :=
  ∀ (pins : List (Nat × Obj)) (σ : L2.St) (H : Hp) (s : Shared) (δ : DS) (M : MH) (acc : α) (R : α → MH → Prop), Inv Xb pins σ H s → Er g.K H δ σ → Lcg g H1 M1 D (AT acc) H M → bd δ acc M R →
    wpAny (model Xb.prog Xb.w) Xb.A body (fun _ s' => ∃ σ' H' M' acc', Inv Xb pins σ' H' s' ∧ wipe σ' vs = wipe σ vs ∧ Lcg g H1 M1 D (AT acc') H' M' ∧ Tz H H' ∧ R acc' M') NoE s
/-- the object filled stays while it is not looked at -/
def Stays {α : Type} (D : Nat) (AT : α → Hp → Prop) : Prop := ∀ acc (H H' : Hp), AT acc H → Tups H H' → (∀ o, H D = some o → H' D = some o) → H D ≠ none → AT acc H'
theorem Lcg.fwd {α : Type} {g : G} {H1 H H' : Hp} {M1 M M' : MH} {D : Nat} {AT : α → Hp → Prop} {acc : α} (S : Stays D AT) (l : Lcg g H1 M1 D (AT acc) H M) (hd : H D ≠ none) (m : MR g H' M') (e : Ev H M H' M') : Lcg g H1 M1 D (AT acc) H' M' :=
  ⟨m, l.ev.trans e, e.new D hd l.fr, S acc H H' l.at_ e.tup (fun o ho => e.keep D o ho l.fr) hd⟩
theorem wipeD_set {δ : DS} : ∀ {vs : List Nat}, (wipeD δ vs).length = δ.length
  | [] => rfl
  | v :: vs => by unfold wipeD; rw [List.length_set, wipeD_set]
theorem levelD {α : Type} {g : G} {Xb : Cx} {e tg : Expr} {k : Nat} {ifs : List Expr} {acv : Value} {p : Pos} {body : Sem Unit} {it : Nat} {fp : List Nat} {tn : Nat → Heap → Prop} {J : It} {gt : Tg} {tt : DTT} {vs : List Nat} {pins : List (Nat × Obj)} {σ : L2.St} {H H0 H1 : Hp} {M M0 M1 : MH} {s : Shared} {D : Nat} {AT : α → Hp → Prop} {bd : DS → α → MH → (α → MH → Prop) → Prop} {items : List DL.D} {al : MH → Prop} {δ : DS} {acc : α} {R : α → MH → Prop}
    (eg : gOf Xb = g) (ht : TurnIs e k (.ref it) acv Xb.env tg ifs p body) (hc : Xb.calm = true) (hx : ∀ e s, Xb.xe e s → False) (T : Turn Xb.prog Xb.w Xb.K tg J fp it tn) (pg : PG Xb tg (gt.h g.K)) (pt : PTs Xb ifs (liftT g X0 tt)) (wk : Wk g H0 M0 J items al) (hv : ∀ i ∈ gt.slots, i ∈ vs)
    (S : Stays D AT) (hAT : ∀ a H, AT a H → H D ≠ none) (hb : BodyOk g Xb H1 M1 D AT vs body bd) (I : Inv Xb pins (wipe σ vs) H s) (st : tn 0 s.heap) (hf : ∀ b ∈ fp, FpOk Xb pins H b) (er : Er g.K H (wipeD δ vs) (wipe σ vs)) (l : Lcg g H1 M1 D (AT acc) H M) (e0 : Tz H0 H)
    (q : accG al gt (wipeD δ vs) (thenB tt bd) items acc M R) :
    codeAny (model Xb.prog Xb.w) Xb.A (.compLoop e k (.ref it) acv Xb.env) (fun r s' => r = .ok .next ∧ ∃ H', Inv Xb pins (wipe σ vs) H' s' ∧ ∃ M' acc', Lcg g H1 M1 D (AT acc') H' M' ∧ Tz H H' ∧ R acc' M') s := by
  subst eg
  refine level (N := items.length) (g := gt.h Xb.K) (tt := liftT (gOf Xb) X0 tt) ht hc hx T pg pt (fun i H' => i ≤ items.length ∧ ∃ M' acc', Er Xb.K H' (wipeD δ vs) (wipe σ vs) ∧ Lcg (gOf Xb) H1 M1 D (AT acc') H' M' ∧ Tz H0 H' ∧ Tz H H' ∧ accG al gt (wipeD δ vs) (thenB tt bd) (items.drop i) acc' M' R)
    (fun i σ2 H2 => i < items.length ∧ ∃ δ2 M2 acc2, Er Xb.K H2 δ2 σ2 ∧ Er Xb.K H2 (wipeD δ vs) (wipe σ vs) ∧ Lcg (gOf Xb) H1 M1 D (AT acc2) H2 M2 ∧ Tz H0 H2 ∧ Tz H H2 ∧ bd δ2 acc2 M2 fun acc' M' => accG al gt (wipeD δ vs) (thenB tt bd) (items.drop (i + 1)) acc' M' R)
    (fun i pins' σ2 H2 s2 I2 w2 ⟨hi, δ2, M2, acc2, er2, erw, l2, e2, eM, q2⟩ => ?_) (fun i H' ⟨hi, M', acc', er', l', e', eM, q'⟩ => ?_) I st hf ⟨Nat.zero_le _, M, acc, er, l, e0, Tz.refl _, q⟩
  · refine thnF (hb pins' σ2 H2 s2 δ2 M2 acc2 _ I2 er2 l2 q2) fun _ s3 ⟨σ3, H3, M3, acc3, I3, w3, l3, e3, q3⟩ => ?_
    exact ⟨σ3, H3, I3, w3.trans w2, hi, M3, acc3, erw.mono e3.w, l3, e2.trans e3, eM.trans e3, q3⟩
  · by_cases hlt : i < items.length
    · have ed : items.drop i = items[i] :: items.drop (i + 1) := List.drop_eq_getElem_cons hlt
      rw [ed] at q'
      obtain ⟨al2, δ3, et, q3⟩ := q'
      refine .inr ⟨wk.go i H' M' l'.mr e' al2 hlt, hlt, fun x H2 y => ?_⟩
      obtain ⟨m3, e3, r3⟩ := wk.yld i H' M' x H2 items[i] l'.mr e' al2 y (by simp [hlt])
      have l3 := l'.fwd S (hAT _ _ l'.at_) m3 e3
      refine Tg.ok gt vs et r3 (er'.mono e3.tup) hv fun σ3 er3 w3 => ⟨w3.trans (wipe_wipe σ fun i h => h), ?_⟩
      refine ⟨δ3, M', W0, _, ⟨er3, m3, Kw.none _ _ _⟩, q3, fun b H4 M4 m4 e4 q4 => ?_⟩
      have l4 := l3.fwd S (hAT _ _ l3.at_) m4 e4
      have e04 := (e'.trans e3.tz).trans e4.tz
      have eM4 := (eM.trans e3.tz).trans e4.tz
      cases b with
      | false => exact iteF ⟨hlt, M4, acc', er'.mono (e3.trans e4).tup, l4, e04, eM4, q4⟩
      | true => exact iteT ⟨hlt, δ3, M4, acc', er3.mono e4.tup, er'.mono (e3.trans e4).tup, l4, e04, eM4, q4⟩
    · have e : i = items.length := by omega
      subst e
      rw [List.drop_length] at q'
      exact .inl ⟨wk.stop H' M' l'.mr e' q'.1, M', acc', l', eM, q'.2⟩
end DL

set_option Elab.async false
set_option linter.all false
set_option maxRecDepth 20000
/-! DL13: a comprehension from its start; what is done with an item. -/
namespace DL
open PySem L2 PyProof.Rows
section
variable {X : Cx} {W : XK}
theorem coreG {α : Type} {pins : List (Nat × Obj)} {s : Shared} {σ : L2.St} {H : Hp} {e tg iter : Expr} {ifs : List Expr} {gs : List Comprehension} {scope : Scope} {own : List (Str × Nat)} {pos' p : Pos} {newAcc : Sem Value} {use : Option (Value → Sem Unit)} {Qf : Value → Shared → Prop} {it : DTI} {gt : Tg} {tt : DTT}
    {bd : DS → α → MH → (α → MH → Prop) → Prop} {acc0 : α} {AT : Nat → α → Hp → Prop} {u0 : Nat → HO} {o0 : Obj} {body : Nat → Env → Sem Unit} {δ : DS} {M : MH} {Wd : DW} {Rf : α → MH → Prop}
    (hc : X.calm = true) (hN : X.N.Nodup) (I : Inv X pins σ H s) (hcl : clausesOf e = ⟨tg, iter, ifs, 0⟩ :: gs) (hi : PI X tg iter (liftI (gOf X) W it)) (ok : BlkOk X.N X.env.scope scope own) (hv : ∀ i ∈ gt.slots, i ∈ own.map (·.2))
    (hg : ∀ s H C cl fp, PG (blkOf X scope s H C cl fp) tg (gt.h X.K)) (ht : ∀ s H C cl fp, PTs (blkOf X scope s H C cl fp) ifs (liftT (gOf X) X0 tt)) (hs : ∀ x, foldedSetIterable iter X.env x = pure x)
    (hstart : ∀ {A : Around} {R : Result → Shared → Prop} {s : Shared} {itv acc : Value} {env : Env}, codeAny (model X.prog X.w) A (.compLoop e 0 itv acc env) R s →
      wpAny (model X.prog X.w) A (pyIter itv) (fun it' s' => codeAny (model X.prog X.w) A (.compLoop e 0 it' acc env) R s') (notedBy (model X.prog X.w) A env fun x s' => R (.error x) s') s → codeAny (model X.prog X.w) A (.compStart e 0 itv acc env) R s)
    (hturn : ∀ (it D : Nat) (env : Env), TurnIs e 0 (.ref it) (.ref D) env tg ifs p (body D env))
    (hnew : ∀ {A : Around} {E : Value → Shared → Prop} {s : Shared} {Q : Value → Shared → Prop}, Q (.ref s.heap.objs.size) { s with heap := s.heap.push o0 } → wpAny (model X.prog X.w) A newAcc Q E s)
    (hobj : ∀ {σ : L2.St} {H : Hp} {s : Shared}, Inv X pins σ H s → Inv X pins σ (upd H s.heap.objs.size (u0 s.heap.objs.size)) { s with heap := s.heap.push o0 } ∧ AT s.heap.objs.size acc0 (upd H s.heap.objs.size (u0 s.heap.objs.size)))
    (S : ∀ D, Stays D (AT D)) (hAT : ∀ D a H, AT D a H → H D ≠ none)
    (hb : ∀ s H C cl fp D H1 M1, H1 D = none → BodyOk (gOf X) (blkOf X scope s H C cl fp) H1 M1 D (AT D) (own.map (·.2)) (body D (blkOf X scope s H C cl fp).env) bd)
    (at_ : At (gOf X) W σ H δ M Wd) (q : it Wd δ M fun items al M1 => accG al gt (wipeD δ (own.map (·.2))) (thenB tt bd) items acc0 M1 Rf)
    (hR : ∀ D C s' m H' H1 M1 M' acc, Inv X pins σ H' s' → Ev H M H1 M1 → H1 D = none → Lcg (gOf X) H1 M1 D (AT D acc) H' M' → Rf acc M' → s'.heap.Ns C m → FpOk X pins H' C → compPost (model X.prog X.w) X.A X.xe use Qf (.ref D) C (.ok .next) s') :
    wpAny (model X.prog X.w) X.A (comprehension e scope X.env pos' newAcc false (eval iter X.env) use) Qf X.xe s := by
  have hfree : ∀ y ∈ scope.names, y.2 = .free → ∃ c, X.env.cells.lookup y.1 = some c := fun y hy ey => (ok.free y hy ey).elim (fun k => I.ok.has _ (.inl k)) fun k => I.ok.has _ (.inr k)
  refine wpAny_comprehension_free (use := use) hcl hs (closure_ok hfree) ok.kind (fun y hy ey => by rw [ok.uniq y hy, ey]) (thn (hi.run pins s σ H
    (fun J H1 => ∃ items al M1, MR (gOf X) H1 M1 ∧ Ev H M H1 M1 ∧ Wk (gOf X) H1 M1 J items al ∧ accG al gt (wipeD δ (own.map (·.2))) (thenB tt bd) items acc0 M1 Rf) I
    ⟨δ, M, Wd, _, at_, q, fun J items al H1 M1 m1 e1 wk q1 => ⟨items, al, M1, m1, e1, wk, q1⟩⟩) fun xv s1 hx => thn hx fun itv s2 h2 => ?_)
  obtain ⟨itr, fp, tn, J, H2, ei, I2, T, st2, f2, items, al, M2, m2, e2, wk, q2⟩ := h2
  subst ei
  have hDn : H2 s2.heap.objs.size = none := I2.hok.fresh (Nat.le_refl _)
  refine hnew (newEnv_comp ?_)
  obtain ⟨I3, at3⟩ := hobj I2
  have ev3 : Ev H2 M2 (upd H2 s2.heap.objs.size (u0 s2.heap.objs.size)) M2 := Ev.upd hDn
  have m3 : MR (gOf X) (upd H2 s2.heap.objs.size (u0 s2.heap.objs.size)) M2 := m2.ext (Tups.upd0 hDn) (m2.free hDn)
  have sz : ∀ b ∈ fp, b < s2.heap.objs.size := fun b hb' => let ⟨o, eo, _⟩ := T.obj _ _ st2 b hb'; Heap.lt_size eo
  generalize hH3 : upd H2 s2.heap.objs.size (u0 s2.heap.objs.size) = H3 at I3 at3 ev3 m3
  generalize hs3 : ({ s2 with heap := s2.heap.push o0 } : Shared) = s3 at I3
  have z3 : s3.heap.objs.size = s2.heap.objs.size + 1 := by rw [← hs3]; exact Heap.size_push ..
  have k3 : ∀ b o, s2.heap.get? b = some o → s3.heap.get? b = some o := fun b o eo => by rw [← hs3]; exact Heap.get?_push_of_some _ eo
  have f3 : ∀ b ∈ fp, FpOk X pins H3 b ∧ b < s3.heap.objs.size := fun b hb' => by
    have hlt := sz b hb'
    refine ⟨⟨?_, (f2 b hb').2⟩, Nat.lt_of_lt_of_eq (Nat.lt_succ_of_lt hlt) z3.symm⟩
    rw [← hH3, upd_ne (Nat.ne_of_lt hlt)]
    exact (f2 b hb').1
  have st3 : tn 0 s3.heap := T.keep _ _ _ st2 fun b _ o eo => k3 b o eo
  have I4 := block_start I3 ok hN f3
  show codeAny _ _ (.compStart e 0 (.ref itr) (.ref s2.heap.objs.size) (compEnvC scope (cellsFrom (s3.heap.objs.size + 1) scope.names (cloFrom X.env.cells scope.names [])) s3.heap.objs.size X.env)) (compPost (model X.prog X.w) X.A X.xe use Qf (.ref s2.heap.objs.size) s3.heap.objs.size) { s3 with heap := pushCells (s3.heap.push { cls := .type "dict", data := .dict #[] }) scope.names }
  generalize hcl' : cellsFrom (s3.heap.objs.size + 1) scope.names (cloFrom X.env.cells scope.names []) = cl at I4
  have st4 : tn 0 (pushCells (s3.heap.push { cls := .type "dict", data := .dict #[] }) scope.names) := T.keep _ _ _ st3 fun b _ o eo => pushCells_keeps _ _ _ _ (Heap.get?_push_of_some _ eo)
  generalize hs4 : ({ s3 with heap := pushCells (s3.heap.push { cls := .type "dict", data := .dict #[] }) scope.names } : Shared) = s4 at I4
  have st4 : tn 0 s4.heap := by rw [← hs4]; exact st4
  have stat : ∀ b ∈ fp, FpOk (blkOf X scope s3 H3 s3.heap.objs.size cl fp) [] H3 b := fun b hb' =>
    ⟨(f3 b hb').1.1, (I4.ok.exf b hb').1, I4.ok.exfs b hb', .inl hb', fun x c ec => (I4.ok.exf b hb').2 x c ec, fun p hp => absurd (show p ∈ ([] : List (Nat × Obj)) ++ [] from hp) (by simp)⟩
  have loop : codeAny (model X.prog X.w) X.A (.compLoop e 0 (.ref itr) (.ref s2.heap.objs.size) (compEnvC scope cl s3.heap.objs.size X.env)) (compPost (model X.prog X.w) X.A X.xe use Qf (.ref s2.heap.objs.size) s3.heap.objs.size) s4 := by
    have run := levelD (g := gOf X) (Xb := blkOf X scope s3 H3 s3.heap.objs.size cl fp) (H0 := H2) (M0 := M2) (H1 := H2) (M1 := M2) (σ := σ) (vs := own.map (·.2)) (R := Rf) rfl (hturn itr s2.heap.objs.size _) hc (fun _ _ z => z) T (hg s3 H3 s3.heap.objs.size cl fp) (ht s3 H3 s3.heap.objs.size cl fp) wk hv (S s2.heap.objs.size) (hAT s2.heap.objs.size) (hb s3 H3 s3.heap.objs.size cl fp s2.heap.objs.size H2 M2 hDn) I4 st4 stat
      ((at_.er.mono (e2.trans ev3).tup).wipe _) ⟨m3, ev3, m2.free hDn, at3⟩ ev3.tz q2
    refine codeAny_mono run fun r s5 ⟨hr, H5, I5, M5, acc5, l5, _, q5⟩ => ?_
    subst hr
    have I7 : Inv X pins σ H5 s5 := I3.call' (ch := fp) I5.os I5.base I5.hok I5.bare fun b hb' => ⟨(f3 b hb').1.2.2.2.1, (f3 b hb').1.2.1, (f3 b hb').1.2.2.2.2.1, (f3 b hb').1.2.2.2.2.2⟩
    have nC : H5 s3.heap.objs.size = none := I5.free
    obtain ⟨m, hn, _⟩ := I5.loc
    exact hR s2.heap.objs.size s3.heap.objs.size s5 m H5 H2 M2 M5 acc5 I7 e2 hDn l5 q5 hn (I3.fpOk (Nat.le_refl _) nC)
  exact hstart loop (T.self X.A 0 _ _ _ st4 loop)
end
end DL

set_option Elab.async false
set_option linter.all false
set_option maxRecDepth 20000
/-! DL14: what is done with an item: a pair stored, an item appended, a second clause. -/
namespace DL
open PySem L2 PyProof.Rows
theorem Lcg.put {g : G} {H1 H : Hp} {M1 M : MH} {D : Nat} {a1 a2 : Hp → Prop} {u : HO} (l : Lcg g H1 M1 D a1 H M) (h1 : H1 D = none) (t : Tz H (upd H D u)) (a : a2 (upd H D u)) : Lcg g H1 M1 D a2 (upd H D u) M := by
  refine ⟨l.mr.ext t.w l.fr, ⟨l.ev.tz.trans t, fun b hb => ?_, l.ev.new, fun b o hb hm => ?_⟩, l.fr, a⟩
  · by_cases z : b = D
    · rw [z, upd_same]; exact (fun z => nomatch z)
    · rw [upd_ne z]; exact l.ev.dom b hb
  · rw [upd_ne (ne_of_none hb h1)]; exact l.ev.keep b o hb hm
def ATd (g : G) (D : Nat) (acc : List (DL.D × DL.D)) (H : Hp) : Prop := ∃ o, H D = some (isO D o) ∧ DOk g H o acc ∧ (D == sysModules) = false
def ATl (g : G) (D : Nat) (acc : List DL.D) (H : Hp) : Prop := ∃ vs, H D = some (.lst vs) ∧ Rps g.K H acc vs
theorem stays_d {g : G} (D : Nat) : Stays D (ATd g D) := fun acc H H' ⟨o, h, d, s⟩ t k _ => ⟨o, k _ h, d.mono t, s⟩
theorem stays_l {g : G} (D : Nat) : Stays D (ATl g D) := fun acc H H' ⟨vs, h, r⟩ t k _ => ⟨vs, k _ h, r.mono t⟩
theorem at_d {g : G} (D : Nat) (acc : List (DL.D × DL.D)) (H : Hp) : ATd g D acc H → H D ≠ none := fun ⟨o, h, _⟩ z => by rw [h] at z; cases z
theorem at_l {g : G} (D : Nat) (acc : List DL.D) (H : Hp) : ATl g D acc H → H D ≠ none := fun ⟨o, h, _⟩ z => by rw [h] at z; cases z
abbrev BD (α : Type) := DS → α → MH → (α → MH → Prop) → Prop
def bdPut (tk tv : DTE) : BD (List (D × D)) := fun δ acc M R => tk W0 δ M fun k M1 => tv W0 δ M1 fun v M2 => okKey k = true ∧ acc.length < sizeLine ∧ R (aput acc k v) M2
def bodyD (kx vx : Expr) (D : Nat) (env : Env) : Sem Unit := do
  let kv ← eval kx env
  let vv ← holding [kv] (eval vx env)
  standAt { kx.pos with endLine := vx.pos.endLine, endCol := vx.pos.endCol }
  holding [kv, vv] (dictSet D kv vv)
def bdApp (te : DTE) : BD (List D) := fun δ acc M R => te W0 δ M fun y M1 => acc.length < sizeLine ∧ R (acc ++ [y]) M1
def bodyL (elt : Expr) (D : Nat) (env : Env) : Sem Unit := do let _ ← call (.builtin "list.append") [.ref D, ← eval elt env]
def bdIn {α : Type} (it : DTI) (gt : Tg) (tt : DTT) (vs1 : List Nat) (bd : BD α) : BD α := fun δ acc M R => it W0 δ M fun items al M1 => accG al gt (wipeD δ vs1) (thenB tt bd) items acc M1 R
def bodyIn (e i1 : Expr) (D : Nat) (env : Env) : Sem Unit := do
  let x ← eval i1 env
  standAt i1.pos
  let x ← foldedSetIterable i1 env x
  let _ ← runOwn (.compStart e 1 (← holding [x] (pyIter x)) (.ref D) env) env
section
variable {Xb : Cx} {H1 : Hp} {M1 : MH} {D : Nat} {vs : List Nat}
theorem body_put {kx vx : Expr} {tk tv : DTE} (hx : ∀ e s, Xb.xe e s → False) (hu : Xb.A.units + 64 < cLine) (hk : PE Xb kx (liftE (gOf Xb) X0 tk)) (hv : PE Xb vx (liftE (gOf Xb) X0 tv)) (h1 : H1 D = none) : BodyOk (gOf Xb) Xb H1 M1 D (ATd (gOf Xb) D) vs (bodyD kx vx D Xb.env) (bdPut tk tv) := by
  intro pins σ H s δ M acc R I er l q
  refine wpAny_bind (thnX hx (hk.run pins s σ H (fun v H' => ∃ d M', MR (gOf Xb) H' M' ∧ Rp Xb.K H' d v ∧ Ev H M H' M' ∧ tv W0 δ M' fun v M2 => okKey d = true ∧ acc.length < sizeLine ∧ R (aput acc d v) M2) I ⟨δ, M, W0, _, ⟨er, l.mr, Kw.none _ _ _⟩, q, fun d v H' M' m r e q => ⟨d, M', m, r, e, q⟩⟩)
    fun kv s2 ⟨kV, H2, I2, rk, d, M2, m2, r2, e2, q2⟩ => wpAny_bind (wpAny_holding (thnX hx (hv.run pins s2 σ H2 (fun v H' => ∃ y M', MR (gOf Xb) H' M' ∧ Rp Xb.K H' y v ∧ Ev H2 M2 H' M' ∧ okKey d = true ∧ acc.length < sizeLine ∧ R (aput acc d y) M') I2 ⟨δ, M2, W0, _, ⟨er.mono e2.tup, m2, Kw.none _ _ _⟩, q2, fun d v H' M' m r e q => ⟨d, M', m, r, e, q⟩⟩)
    fun vv s3 ⟨vV, H3, I3, rv, y, M3, m3, r3, e3, ok, hl, q3⟩ => ?_)))
  refine wpAny_bind (wpAny_standAt (wpAny_holding ?_))
  have l3 := l.fwd (stays_d D) (at_d _ _ _ l.at_) m3 (e2.trans e3)
  obtain ⟨o, hD, ⟨hz, xs, es, ep, ex, hd, he, nd, pr⟩, hsm⟩ := l3.at_
  have rk3 := r2.mono e3.tup
  obtain ⟨ky, b, hky, hdp, eb, eu, his⟩ := key_at I3 ok rk3 rk
  subst eb eu
  have ho : s3.heap.get? D = some o := (I3.hok _ _ hD).1
  have dd : s3.heap.DictOfH (nestedKind Xb.prog Xb.w) D xs := by
    have z : ∀ {kvs : List (DL.D × DL.D)} {xs : List KRow}, Paired (ERp Xb.K H3) kvs xs → ∀ x ∈ xs, (nestedKind Xb.prog Xb.w).is s3.heap x.1 x.2.1 := fun {kvs xs} r => by
      induction r with
      | nil => intro x hx; cases hx
      | cons r t ih =>
        intro x hx
        rcases List.mem_cons.mp hx with e | e
        · subst e; exact ⟨nest_of I3.hok _ _ _ _ r.1 r.2.2.1 rfl, r.2.1⟩
        · exact ih x e
    exact ⟨o, es, ep, ho, ex, hd, he, z pr, nd⟩
  refine wpAny_dictSet_heap (knd := nestedKind Xb.prog Xb.w) (hsz := by rw [← Paired.length pr]; exact Nat.le_of_lt hl) (show Xb.A.units + 8 < cLine by omega) his dd fun h' nw sb => ?_
  obtain ⟨o', es', ep', ho', ex', hd', he', _, nd'⟩ := nw
  have t : Tz H3 (upd H3 D (isO D o')) := Tz.upd (fun xs e => by rw [hD] at e; cases e) (fun u xs e => by rw [hD] at e; cases e)
  have ob : ObjOk Xb.prog Xb.w (upd H3 D (isO D o')) h' D (isO D o') := ⟨ho', ⟨o', ho'⟩, fun h1 h2 p q => q o' p⟩
  have I4 : Inv Xb pins σ (upd H3 D (isO D o')) { s3 with heap := h', toks := s3.toks + (nestedKind Xb.prog Xb.w).draws ky } := I3.write (x := D) (e := D) (by rw [hD]; trivial) (.inl rfl) (fun b q hb z => (sb.2 b hb).trans z) ⟨o', ho'⟩ ob
  have pr' := put_paired hky hdp rk3 rv r3 pr nd
  exact ⟨σ, _, M3, aput acc d y, I4, rfl, l3.put h1 t ⟨o', upd_same, ⟨Nat.le_trans (aput_len _ _ _) hl, _, es', ep', ex', hd', he', nd', Paired.mapP pr' fun _ _ z => z.mono t.w⟩, hsm⟩, ((e2.trans e3).tz).trans t, q3⟩
theorem body_app {elt : Expr} {te : DTE} (hx : ∀ e s, Xb.xe e s → False) (he : PE Xb elt (liftE (gOf Xb) X0 te)) (h1 : H1 D = none) : BodyOk (gOf Xb) Xb H1 M1 D (ATl (gOf Xb) D) vs (bodyL elt D Xb.env) (bdApp te) := by
  intro pins σ H s δ M acc R I er l q
  refine wpAny_bind (thnX hx (he.run pins s σ H (fun v H' => ∃ d M', MR (gOf Xb) H' M' ∧ Rp Xb.K H' d v ∧ Ev H M H' M' ∧ acc.length < sizeLine ∧ R (acc ++ [d]) M') I ⟨δ, M, W0, _, ⟨er, l.mr, Kw.none _ _ _⟩, q, fun d v H' M' m r e q => ⟨d, M', m, r, e, q⟩⟩)
    fun xv s2 ⟨xV, H2, I2, rx, d, M2, m2, r2, e2, hl, q2⟩ => ?_)
  have l2 := l.fwd (stays_l D) (at_l _ _ _ l.at_) m2 e2
  obtain ⟨us, hD, rs⟩ := l2.at_
  have t : Tz H2 (upd H2 D (.lst (us ++ [xV]))) := Tz.upd (fun xs e => by rw [hD] at e; cases e) (fun u xs e => by rw [hD] at e; cases e)
  refine wpAny_bind (app_ok I2 hD (by rw [← rs.length]; exact hl) rx fun s3 I3 => wpAny_pure ⟨σ, _, M2, acc ++ [d], I3, rfl, l2.put h1 t ⟨_, upd_same, (rs.append (.cons r2 .nil)).mono t.w⟩, e2.tz.trans t, q2⟩)
theorem body_in {α : Type} {AT : α → Hp → Prop} {bd : BD α} {e i1 tg1 : Expr} {ifs1 : List Expr} {p1 : Pos} {it : DTI} {gt : Tg} {tt : DTT} {vs1 : List Nat} {body1 : Sem Unit} (hx : ∀ e s, Xb.xe e s → False) (hc : Xb.calm = true) (hi : PI Xb tg1 i1 (liftI (gOf Xb) X0 it)) (pg : PG Xb tg1 (gt.h Xb.K)) (pt : PTs Xb ifs1 (liftT (gOf Xb) X0 tt))
    (hs : ∀ x, foldedSetIterable i1 Xb.env x = pure x) (hv : ∀ i ∈ gt.slots, i ∈ vs1) (hvs : ∀ i ∈ vs1, i ∈ vs) (S : Stays D AT) (hAT : ∀ a H, AT a H → H D ≠ none)
    (hstart : ∀ {R : Result → Shared → Prop} {s : Shared} {itv : Value}, codeAny (model Xb.prog Xb.w) Xb.A (.compLoop e 1 itv (.ref D) Xb.env) R s →
      wpAny (model Xb.prog Xb.w) Xb.A (pyIter itv) (fun it' s' => codeAny (model Xb.prog Xb.w) Xb.A (.compLoop e 1 it' (.ref D) Xb.env) R s') (notedBy (model Xb.prog Xb.w) Xb.A Xb.env fun x s' => R (.error x) s') s → codeAny (model Xb.prog Xb.w) Xb.A (.compStart e 1 itv (.ref D) Xb.env) R s)
    (hturn : ∀ it : Nat, TurnIs e 1 (.ref it) (.ref D) Xb.env tg1 ifs1 p1 body1) (hb : BodyOk (gOf Xb) Xb H1 M1 D AT vs1 body1 bd) : BodyOk (gOf Xb) Xb H1 M1 D AT vs (bodyIn e i1 D Xb.env) (bdIn it gt tt vs1 bd) := by
  intro pins σ H s δ M acc R I er l q
  refine wpAny_bind (thnX hx (hi.run pins s σ H (fun J H' => ∃ items al M', MR (gOf Xb) H' M' ∧ Ev H M H' M' ∧ Wk (gOf Xb) H' M' J items al ∧ accG al gt (wipeD δ vs1) (thenB tt bd) items acc M' R) I ⟨δ, M, W0, _, ⟨er, l.mr, Kw.none _ _ _⟩, q, fun J items al H' M' m e wk q => ⟨items, al, M', m, e, wk, q⟩⟩)
    fun xv s1 h1 => wpAny_bind (wpAny_standAt (wpAny_bind (wpAny_of_eq (hs xv) (wpAny_bind (wpAny_holding (thnX hx h1 fun itv s2 h2 => ?_)))))))
  obtain ⟨itr, fp, tn, J, H2, ei, I2, T, st2, f2, items, al, M2, m2, e2, wk, q2⟩ := h2
  subst ei
  refine wpAny_bind (wpAny_runOwn ?_)
  rw [Around.mark_none]
  have l2 := l.fwd S (hAT _ _ l.at_) m2 e2
  have loop := levelD (σ := σ) (vs := vs1) rfl (hturn itr) hc hx T pg pt wk hv S hAT hb (I2.weak (wipe_length _ _) fun j v ej => (wipe_some ej).1) st2 f2 ((er.mono e2.tup).wipe vs1) l2 (Tz.refl _) q2
  refine codeAny_mono (hstart loop (T.self Xb.A 0 _ _ _ st2 loop)) fun r s3 ⟨hr, H3, I3, M3, acc3, l3, t3, q3⟩ => ?_
  subst hr
  have fin : ∃ σ' H' M' acc', Inv Xb pins σ' H' s3 ∧ wipe σ' vs = wipe σ vs ∧ Lcg (gOf Xb) H1 M1 D (AT acc') H' M' ∧ Tz H H' ∧ R acc' M' := ⟨_, H3, M3, acc3, I3, wipe_wipe σ hvs, l3, e2.tz.trans t3, q3⟩
  first
    | exact wpAny_pure fin
    | exact wpAny_bind (wpAny_pure (wpAny_pure fin))
end
end DL

set_option Elab.async false
set_option linter.all false
set_option maxRecDepth 20000
/-! DL15: dict comprehensions of one and two clauses, list comprehensions of two. -/
namespace DL
open PySem L2 PyProof.Rows
def dCg {α : Type} (it : DTI) (gt : Tg) (tt : DTT) (bd : BD α) (acc0 : α) (mo : α → MO) (vs : List Nat) : DTE := fun W δ M Q => it W δ M fun items al M1 => accG al gt (wipeD δ vs) (thenB tt bd) items acc0 M1 fun acc M2 => ∀ p, M2 p = none → Q (.ref p) (up M2 p (mo acc))
/-- all that a comprehension's core asks -/
structure CgOk {α : Type} (X : Cx) (W : XK) (e tg iter : Expr) (ifs : List Expr) (scope : Scope) (own : List (Str × Nat)) (newAcc : Sem Value) (it : DTI) (gt : Tg) (tt : DTT) (bd : BD α) (acc0 : α) (mo : α → MO) (AT : Nat → α → Hp → Prop) (u0 : Nat → HO) (o0 : Obj) (body : Nat → Env → Sem Unit) : Prop where
  cm : X.calm = true
  nd : X.N.Nodup
  cl : ∃ gs, clausesOf e = ⟨tg, iter, ifs, 0⟩ :: gs
  it : PI X tg iter (liftI (gOf X) W it)
  ok : BlkOk X.N X.env.scope scope own
  hv : ∀ i ∈ gt.slots, i ∈ own.map (·.2)
  hg : ∀ s H C cl fp, PG (blkOf X scope s H C cl fp) tg (gt.h X.K)
  ht : ∀ s H C cl fp, PTs (blkOf X scope s H C cl fp) ifs (liftT (gOf X) X0 tt)
  hs : ∀ x, foldedSetIterable iter X.env x = pure x
  start : ∀ {A : Around} {R : Result → Shared → Prop} {s : Shared} {itv acc : Value} {env : Env}, codeAny (model X.prog X.w) A (.compLoop e 0 itv acc env) R s →
      wpAny (model X.prog X.w) A (pyIter itv) (fun it' s' => codeAny (model X.prog X.w) A (.compLoop e 0 it' acc env) R s') (notedBy (model X.prog X.w) A env fun x s' => R (.error x) s') s → codeAny (model X.prog X.w) A (.compStart e 0 itv acc env) R s
  turn : ∃ p, ∀ (it D : Nat) (env : Env), TurnIs e 0 (.ref it) (.ref D) env tg ifs p (body D env)
  new : ∀ {A : Around} {E : Value → Shared → Prop} {s : Shared} {Q : Value → Shared → Prop}, Q (.ref s.heap.objs.size) { s with heap := s.heap.push o0 } → wpAny (model X.prog X.w) A newAcc Q E s
  obj : ∀ {pins : List (Nat × Obj)} {σ : L2.St} {H : Hp} {s : Shared}, Inv X pins σ H s → Inv X pins σ (upd H s.heap.objs.size (u0 s.heap.objs.size)) { s with heap := s.heap.push o0 } ∧ AT s.heap.objs.size acc0 (upd H s.heap.objs.size (u0 s.heap.objs.size))
  st : ∀ D, Stays D (AT D)
  ne : ∀ D a H, AT D a H → H D ≠ none
  or : ∀ D a H, AT D a H → ORp (gOf X) H D (mo a)
  bd : ∀ s H C cl fp D H1 M1, H1 D = none → BodyOk (gOf X) (blkOf X scope s H C cl fp) H1 M1 D (AT D) (own.map (·.2)) (body D (blkOf X scope s H C cl fp).env) bd
section
variable {X : Cx} {W : XK} {α : Type} {e tg iter : Expr} {ifs : List Expr} {scope : Scope} {own : List (Str × Nat)} {newAcc : Sem Value} {it : DTI} {gt : Tg} {tt : DTT} {bd : BD α} {acc0 : α} {mo : α → MO} {AT : Nat → α → Hp → Prop} {u0 : Nat → HO} {o0 : Obj} {body : Nat → Env → Sem Unit} {pos' : Pos}
theorem ev_gath {H H1 H' : Hp} {M M1 M' : MH} {D : Nat} {u : MO} (e1 : Ev H M H1 M1) (e2 : Ev H1 M1 H' M') (hD : H1 D = none) : Ev H M H' (DL.up M' D u) := by
  have ev := e1.trans e2
  refine ⟨ev.tz, ev.dom, fun a ha hm => ?_, ev.keep⟩
  rw [up_ne (by intro z; rw [z] at ha; exact absurd hD (e1.dom D ha))]
  exact ev.new a ha hm
theorem de_cg (c : CgOk X W e tg iter ifs scope own newAcc it gt tt bd acc0 mo AT u0 o0 body) (hev : eval e X.env = comprehension e scope X.env pos' newAcc false (eval iter X.env) none) : PE X e (liftE (gOf X) W (dCg it gt tt bd acc0 mo (own.map (·.2)))) := by
  obtain ⟨gs, cl⟩ := c.cl
  obtain ⟨p, turn⟩ := c.turn
  refine ⟨fun pins s σ H Q I ⟨δ, M, Wd, Qd, at_, q, k⟩ => ?_⟩
  rw [hev]
  refine coreG c.cm c.nd I cl c.it c.ok c.hv c.hg c.ht c.hs c.start turn c.new c.obj c.st c.ne c.bd at_ q fun D C s' m H' H1 M1 M' acc I' e1 hD l qq hn f => ⟨m, hn, fun h'' sb => ?_⟩
  obtain ⟨f0, f1, f2, f3, f4, f5⟩ := f
  exact ⟨.ref D, H', I'.turned (t' := s'.toks) (fun b o hb eo => (sb.2 b hb).trans eo) f0 f1 f3 f4 f5, rfl, k (.ref D) (.ref D) H' _ (l.mr.track (c.or D acc H' l.at_)) (.ref D) (ev_gath e1 l.ev hD) (qq D l.fr)⟩
theorem ds_setCg {i : Nat} {y : Str} {py spos : Pos} (c : CgOk X W e tg iter ifs scope own newAcc it gt tt bd acc0 mo AT u0 o0 body) (hy : X.N[i]? = some y) (hyl : X.env.scope.names.lookup y = some .local)
    (hex : exec (.Assign [.Name y py] e spos) X.env = (do standAt spos; (do let _ ← comprehension e scope X.env pos' newAcc false (eval iter X.env) (some (assign (.Name y py) X.env))); return .next)) : PS X (.Assign [.Name y py] e spos) (liftS (gOf X) W (dAsg (dCg it gt tt bd acc0 mo (own.map (·.2))) (.name i))) := by
  obtain ⟨gs, cl⟩ := c.cl
  obtain ⟨p, turn⟩ := c.turn
  refine ⟨fun pins s σ H Dn I ⟨δ, M, Wd, Dd, at_, q, k⟩ => ?_⟩
  rw [hex]
  refine wpAny_bind (wpAny_standAt (wpAny_bind (wpAny_bind (thn (coreG (Qf := fun _ s' => SP X pins Dn .next s') c.cm c.nd I cl c.it c.ok c.hv c.hg c.ht c.hs c.start turn c.new c.obj c.st c.ne c.bd at_ q fun D C s' m H' H1 M1 M' acc I' e1 hD l qq hn f => ?_) fun _ s' hq => wpAny_pure (wpAny_pure hq)))))
  show wpAny _ _ (assign (.Name y py) X.env (.ref D)) _ _ _
  have ev := ev_gath (u := mo acc) e1 l.ev hD
  obtain ⟨f0, f1, f2, f3, f4, f5⟩ := f
  refine wpAny_assign_Name (store_ok2 (v := V.ref D) I' c.nd hy (.inl hyl) rfl (fun s2 I2 ⟨a, sb, ha⟩ => ⟨m, hn.sameBut sb (show C ≠ a from ha.elim (fun z => by rw [z]; exact f1) fun z eq => f4 y a z eq.symm), fun h3 sb3 => ?_⟩) (.inr hyl))
  obtain ⟨δ', eδ, q1⟩ := qq D l.fr
  simp only [tset, Option.some.injEq] at eδ
  subst eδ
  exact ⟨_, H', I2.turned (t' := s2.toks) (fun b o hb eo => (sb3.2 b hb).trans eo) f0 f1 f3 f4 f5, k.nx _ _ H' _ (l.mr.track (c.or D acc H' l.at_)) ((at_.er.mono ev.tup).set i (.ref D)) ev q1⟩
end
abbrev dEmp : Obj := { cls := .type "dict", data := .dict #[] }
abbrev lEmp : Obj := { cls := .type "list", data := .seq ([] : List Value).toArray }
theorem obj_d {X : Cx} {pins : List (Nat × Obj)} {σ : L2.St} {H : Hp} {s : Shared} (I : Inv X pins σ H s) : Inv X pins σ (upd H s.heap.objs.size (isO s.heap.objs.size dEmp)) { s with heap := s.heap.push dEmp } ∧ ATd (gOf X) s.heap.objs.size [] (upd H s.heap.objs.size (isO s.heap.objs.size dEmp)) := by
  have hn : H s.heap.objs.size = none := I.hok.fresh (Nat.le_refl _)
  have g : (s.heap.push dEmp).get? s.heap.objs.size = some dEmp := Heap.get?_push_size _ rfl
  have ob : ObjOk X.prog X.w (upd H s.heap.objs.size (isO s.heap.objs.size dEmp)) (s.heap.push dEmp) s.heap.objs.size (isO s.heap.objs.size dEmp) := ⟨g, ⟨_, g⟩, fun h1 h2 p q => q _ p⟩
  have hs : (s.heap.objs.size == sysModules) = false := beq_eq_false_iff_ne.mpr (Ne.symm (Nat.ne_of_lt I.big))
  obtain ⟨o, es, ep, ho, ex, hd, he, _, nd⟩ := Heap.DictOfH.new (knd := nestedKind X.prog X.w) s.heap
  rw [g] at ho
  cases ho
  exact ⟨I.laid (t' := s.toks) (fun b o e => Heap.get?_push_of_some _ e) (Nat.le_refl _) ob, _, upd_same, ⟨Nat.zero_le _, [], es, ep, ex, hd, he, nd, .nil⟩, hs⟩
theorem obj_l {X : Cx} {pins : List (Nat × Obj)} {σ : L2.St} {H : Hp} {s : Shared} (I : Inv X pins σ H s) : Inv X pins σ (upd H s.heap.objs.size (.lst [])) { s with heap := s.heap.push lEmp } ∧ ATl (gOf X) s.heap.objs.size [] (upd H s.heap.objs.size (.lst [])) :=
  ⟨I.laid (t' := s.toks) (fun b o e => Heap.get?_push_of_some _ e) (Nat.le_refl _) ⟨Nat.zero_le _, [], 0, .nil, Heap.get?_push_size _ rfl⟩, [], upd_same, .nil⟩
/-- the start of the second clause of a dict comprehension -/
theorem start1_d {prog : Program} {w : World} {A : Around} {R : Result → Shared → Prop} {s : Shared} {kx vx t0 i0 t1 i1 : Expr} {ifs0 ifs1 : List Expr} {scope : Scope} {pos : Pos} {itv acc : Value} {env : Env} (h0 : codeAny (model prog w) A (.compLoop (.DictComp kx vx [⟨t0, i0, ifs0, 0⟩, ⟨t1, i1, ifs1, 0⟩] scope pos) 1 itv acc env) R s)
    (h : wpAny (model prog w) A (pyIter itv) (fun it' s' => codeAny (model prog w) A (.compLoop (.DictComp kx vx [⟨t0, i0, ifs0, 0⟩, ⟨t1, i1, ifs1, 0⟩] scope pos) 1 it' acc env) R s') (notedBy (model prog w) A env fun x s' => R (.error x) s') s) :
    codeAny (model prog w) A (.compStart (.DictComp kx vx [⟨t0, i0, ifs0, 0⟩, ⟨t1, i1, ifs1, 0⟩] scope pos) 1 itv acc env) R s := by
  refine codeAny_of_tree (show wpAny _ _ ((compStart (.DictComp kx vx [⟨t0, i0, ifs0, 0⟩, ⟨t1, i1, ifs1, 0⟩] scope pos) 1 itv acc env).onRaise (fun x => do noteFrame x env; standAt theWindowsPlace)) _ _ s from wpAny_notedAt ?_)
  unfold compStart
  refine wpAny_bind (wpAny_askSetting (wpAny_ite ?_))
  split
  · first | exact wpAny_bind (wpAny_pure (wpAny_pure (And.intro rfl h0))) | exact wpAny_pure (And.intro rfl h0)
  · first
      | exact wpAny_bind (wpAny_rule (wpAny_bind (wpAny_standAt (wpAny_bind (thn h fun it' s' h' => wpAny_pure (And.intro rfl h'))))))
      | (refine wpAny_bind (wpAny_rule (show wpAny _ _ (standAt i1.pos >>= _) _ _ s from wpAny_bind (wpAny_standAt (wpAny_bind (thn h fun it' s' h' => wpAny_pure (And.intro rfl h')))))))
/-- the outer clause's turn, its inner clause as one step -/
theorem turn2_d (kx vx t0 i0 t1 i1 : Expr) (ifs0 ifs1 : List Expr) (scope : Scope) (pos : Pos) (it : Value) (D : Nat) (env : Env) : compTurn (.DictComp kx vx [⟨t0, i0, ifs0, 0⟩, ⟨t1, i1, ifs1, 0⟩] scope pos) 0 it (.ref D) env = (do
    standAt i0.pos
    match ← pyNext it with
    | none => pure (.done .next)
    | some v =>
      letOwnedTupleGo t0 it v
      assign t0 env v
      let mut ok := true
      for c in ifs0 do
        if ok then ok ← isTrue c env (eval c env)
      if ok then bodyIn (.DictComp kx vx [⟨t0, i0, ifs0, 0⟩, ⟨t1, i1, ifs1, 0⟩] scope pos) i1 D env
      again (.compLoop (.DictComp kx vx [⟨t0, i0, ifs0, 0⟩, ⟨t1, i1, ifs1, 0⟩] scope pos) 0 it (.ref D) env)) := by
  have e : compTurn (.DictComp kx vx [⟨t0, i0, ifs0, 0⟩, ⟨t1, i1, ifs1, 0⟩] scope pos) 0 it (.ref D) env = (do
    standAt i0.pos
    match ← pyNext it with
    | none => pure (.done .next)
    | some v =>
      letOwnedTupleGo t0 it v
      assign t0 env v
      let mut ok := true
      for c in ifs0 do
        if ok then ok ← isTrue c env (eval c env)
      if ok then
        let x ← eval i1 env
        standAt i1.pos
        let x ← foldedSetIterable i1 env x
        let _ ← runOwn (.compStart (.DictComp kx vx [⟨t0, i0, ifs0, 0⟩, ⟨t1, i1, ifs1, 0⟩] scope pos) 1 (← holding [x] (pyIter x)) (.ref D) env) env
      again (.compLoop (.DictComp kx vx [⟨t0, i0, ifs0, 0⟩, ⟨t1, i1, ifs1, 0⟩] scope pos) 0 it (.ref D) env)) := by rfl
  rw [e]
  simp only [bodyIn, bind_assoc, pure_bind]
theorem turn2_l (elt t0 i0 t1 i1 : Expr) (ifs0 ifs1 : List Expr) (scope : Scope) (pos : Pos) (it : Value) (D : Nat) (env : Env) : compTurn (.ListComp elt [⟨t0, i0, ifs0, 0⟩, ⟨t1, i1, ifs1, 0⟩] scope pos) 0 it (.ref D) env = (do
    standAt i0.pos
    match ← pyNext it with
    | none => pure (.done .next)
    | some v =>
      letOwnedTupleGo t0 it v
      assign t0 env v
      let mut ok := true
      for c in ifs0 do
        if ok then ok ← isTrue c env (eval c env)
      if ok then bodyIn (.ListComp elt [⟨t0, i0, ifs0, 0⟩, ⟨t1, i1, ifs1, 0⟩] scope pos) i1 D env
      again (.compLoop (.ListComp elt [⟨t0, i0, ifs0, 0⟩, ⟨t1, i1, ifs1, 0⟩] scope pos) 0 it (.ref D) env)) := by
  have e : compTurn (.ListComp elt [⟨t0, i0, ifs0, 0⟩, ⟨t1, i1, ifs1, 0⟩] scope pos) 0 it (.ref D) env = (do
    standAt i0.pos
    match ← pyNext it with
    | none => pure (.done .next)
    | some v =>
      letOwnedTupleGo t0 it v
      assign t0 env v
      let mut ok := true
      for c in ifs0 do
        if ok then ok ← isTrue c env (eval c env)
      if ok then
        let x ← eval i1 env
        standAt i1.pos
        let x ← foldedSetIterable i1 env x
        let _ ← runOwn (.compStart (.ListComp elt [⟨t0, i0, ifs0, 0⟩, ⟨t1, i1, ifs1, 0⟩] scope pos) 1 (← holding [x] (pyIter x)) (.ref D) env) env
      again (.compLoop (.ListComp elt [⟨t0, i0, ifs0, 0⟩, ⟨t1, i1, ifs1, 0⟩] scope pos) 0 it (.ref D) env)) := by rfl
  rw [e]
  simp only [bodyIn, bind_assoc, pure_bind]
section
variable {X : Cx} {W : XK} {kx vx elt tg iter tg1 i1 : Expr} {ifs ifs1 : List Expr} {scope : Scope} {own : List (Str × Nat)} {it it1 : DTI} {gt g1 : Tg} {tt tt1 : DTT} {tk tv te : DTE} {pos : Pos} {vs1 : List Nat}
abbrev dDc (it : DTI) (gt : Tg) (tt : DTT) (tk tv : DTE) (vs : List Nat) : DTE := dCg it gt tt (bdPut tk tv) [] .dct vs
abbrev dDc2 (it : DTI) (gt : Tg) (tt : DTT) (it1 : DTI) (g1 : Tg) (tt1 : DTT) (vs1 : List Nat) (tk tv : DTE) (vs : List Nat) : DTE := dCg it gt tt (bdIn it1 g1 tt1 vs1 (bdPut tk tv)) [] .dct vs
abbrev dLc2 (it : DTI) (gt : Tg) (tt : DTT) (it1 : DTI) (g1 : Tg) (tt1 : DTT) (vs1 : List Nat) (te : DTE) (vs : List Nat) : DTE := dCg it gt tt (bdIn it1 g1 tt1 vs1 (bdApp te)) [] .lst vs
theorem cg_dc (S : Std X) (nd : X.N.Nodup) (hi : PI X tg iter (liftI (gOf X) W it)) (ok : BlkOk X.N X.env.scope scope own) (hv : ∀ i ∈ gt.slots, i ∈ own.map (·.2)) (hg : ∀ s H C cl fp, PG (blkOf X scope s H C cl fp) tg (gt.h X.K)) (ht : ∀ s H C cl fp, PTs (blkOf X scope s H C cl fp) ifs (liftT (gOf X) X0 tt))
    (hs : ∀ x, foldedSetIterable iter X.env x = pure x) (hk : ∀ s H C cl fp, PE (blkOf X scope s H C cl fp) kx (liftE (gOf X) X0 tk)) (hvx : ∀ s H C cl fp, PE (blkOf X scope s H C cl fp) vx (liftE (gOf X) X0 tv)) :
    CgOk X W (.DictComp kx vx [⟨tg, iter, ifs, 0⟩] scope pos) tg iter ifs scope own newDict it gt tt (bdPut tk tv) [] .dct (fun D => ATd (gOf X) D) (fun D => isO D dEmp) dEmp (bodyD kx vx) where
  cm := S.calm
  nd := nd
  cl := ⟨[], rfl⟩
  it := hi
  ok := ok
  hv := hv
  hg := hg
  ht := ht
  hs := hs
  start := fun h0 h => codeAny_compStart_dict h0 h
  turn := ⟨_, fun it D env => ⟨rfl, fun _ => rfl, fun _ _ => rfl, compTurn_dict kx vx tg iter ifs scope pos (.ref it) D env⟩⟩
  new := fun h => wpAny_newObj_type h
  obj := obj_d
  st := fun D => stays_d D
  ne := fun D a H => at_d D a H
  or := fun D a H h => h
  bd := fun s H C cl fp D H1 M1 h1 => body_put (fun _ _ z => z) S.un (hk s H C cl fp) (hvx s H C cl fp) h1
theorem cg_dc2 (S : Std X) (nd : X.N.Nodup) (hi : PI X tg iter (liftI (gOf X) W it)) (ok : BlkOk X.N X.env.scope scope own) (hv : ∀ i ∈ gt.slots, i ∈ own.map (·.2)) (hg : ∀ s H C cl fp, PG (blkOf X scope s H C cl fp) tg (gt.h X.K)) (ht : ∀ s H C cl fp, PTs (blkOf X scope s H C cl fp) ifs (liftT (gOf X) X0 tt))
    (hs : ∀ x, foldedSetIterable iter X.env x = pure x) (hi1 : ∀ s H C cl fp, PI (blkOf X scope s H C cl fp) tg1 i1 (liftI (gOf X) X0 it1)) (hg1 : ∀ s H C cl fp, PG (blkOf X scope s H C cl fp) tg1 (g1.h X.K)) (ht1 : ∀ s H C cl fp, PTs (blkOf X scope s H C cl fp) ifs1 (liftT (gOf X) X0 tt1))
    (hs1 : ∀ env x, foldedSetIterable i1 env x = pure x) (hv1 : ∀ i ∈ g1.slots, i ∈ vs1) (hvs : ∀ i ∈ vs1, i ∈ own.map (·.2)) (hk : ∀ s H C cl fp, PE (blkOf X scope s H C cl fp) kx (liftE (gOf X) X0 tk)) (hvx : ∀ s H C cl fp, PE (blkOf X scope s H C cl fp) vx (liftE (gOf X) X0 tv)) :
    CgOk X W (.DictComp kx vx [⟨tg, iter, ifs, 0⟩, ⟨tg1, i1, ifs1, 0⟩] scope pos) tg iter ifs scope own newDict it gt tt (bdIn it1 g1 tt1 vs1 (bdPut tk tv)) [] .dct (fun D => ATd (gOf X) D) (fun D => isO D dEmp) dEmp (bodyIn (.DictComp kx vx [⟨tg, iter, ifs, 0⟩, ⟨tg1, i1, ifs1, 0⟩] scope pos) i1) where
  cm := S.calm
  nd := nd
  cl := ⟨_, rfl⟩
  it := hi
  ok := ok
  hv := hv
  hg := hg
  ht := ht
  hs := hs
  start := fun h0 h => codeAny_compStart_dict h0 h
  turn := ⟨_, fun it D env => ⟨rfl, fun _ => rfl, fun _ _ => rfl, turn2_d kx vx tg iter tg1 i1 ifs ifs1 scope pos (.ref it) D env⟩⟩
  new := fun h => wpAny_newObj_type h
  obj := obj_d
  st := fun D => stays_d D
  ne := fun D a H => at_d D a H
  or := fun D a H h => h
  bd := fun s H C cl fp D H1 M1 h1 => body_in (body1 := bodyD kx vx D (blkOf X scope s H C cl fp).env) (fun _ _ z => z) S.calm (hi1 s H C cl fp) (hg1 s H C cl fp) (ht1 s H C cl fp) (hs1 _) hv1 hvs (stays_d D) (at_d D) start1_d (fun it => ⟨rfl, fun _ => rfl, fun _ _ => rfl, rfl⟩)
    (body_put (fun _ _ z => z) S.un (hk s H C cl fp) (hvx s H C cl fp) h1)
theorem cg_lc2 (S : Std X) (nd : X.N.Nodup) (hi : PI X tg iter (liftI (gOf X) W it)) (ok : BlkOk X.N X.env.scope scope own) (hv : ∀ i ∈ gt.slots, i ∈ own.map (·.2)) (hg : ∀ s H C cl fp, PG (blkOf X scope s H C cl fp) tg (gt.h X.K)) (ht : ∀ s H C cl fp, PTs (blkOf X scope s H C cl fp) ifs (liftT (gOf X) X0 tt))
    (hs : ∀ x, foldedSetIterable iter X.env x = pure x) (hi1 : ∀ s H C cl fp, PI (blkOf X scope s H C cl fp) tg1 i1 (liftI (gOf X) X0 it1)) (hg1 : ∀ s H C cl fp, PG (blkOf X scope s H C cl fp) tg1 (g1.h X.K)) (ht1 : ∀ s H C cl fp, PTs (blkOf X scope s H C cl fp) ifs1 (liftT (gOf X) X0 tt1))
    (hs1 : ∀ env x, foldedSetIterable i1 env x = pure x) (hv1 : ∀ i ∈ g1.slots, i ∈ vs1) (hvs : ∀ i ∈ vs1, i ∈ own.map (·.2)) (he : ∀ s H C cl fp, PE (blkOf X scope s H C cl fp) elt (liftE (gOf X) X0 te)) :
    CgOk X W (.ListComp elt [⟨tg, iter, ifs, 0⟩, ⟨tg1, i1, ifs1, 0⟩] scope pos) tg iter ifs scope own (newList []) it gt tt (bdIn it1 g1 tt1 vs1 (bdApp te)) [] .lst (fun D => ATl (gOf X) D) (fun _ => .lst []) lEmp (bodyIn (.ListComp elt [⟨tg, iter, ifs, 0⟩, ⟨tg1, i1, ifs1, 0⟩] scope pos) i1) where
  cm := S.calm
  nd := nd
  cl := ⟨_, rfl⟩
  it := hi
  ok := ok
  hv := hv
  hg := hg
  ht := ht
  hs := hs
  start := fun h0 h => codeAny_compStart_list h0 h
  turn := ⟨_, fun it D env => ⟨rfl, fun _ => rfl, fun _ _ => rfl, turn2_l elt tg iter tg1 i1 ifs ifs1 scope pos (.ref it) D env⟩⟩
  new := fun h => wpAny_newObj_type h (by show 0 ≤ sizeLine; decide)
  obj := obj_l
  st := fun D => stays_l D
  ne := fun D a H => at_l D a H
  or := fun D a H h => h
  bd := fun s H C cl fp D H1 M1 h1 => body_in (body1 := bodyL elt D (blkOf X scope s H C cl fp).env) (fun _ _ z => z) S.calm (hi1 s H C cl fp) (hg1 s H C cl fp) (ht1 s H C cl fp) (hs1 _) hv1 hvs (stays_l D) (at_l D) compStart1_ok (fun it => ⟨rfl, fun _ => rfl, fun _ _ => rfl, compTurn2_in elt tg iter tg1 i1 ifs ifs1 scope pos (.ref it) (.ref D) _⟩)
    (body_app (fun _ _ z => z) (he s H C cl fp) h1)
end
end DL

set_option Elab.async false
set_option linter.all false
set_option maxRecDepth 20000
/-! DL16: a dict gone through (locked meanwhile); reversed. -/
namespace DL
open PySem L2 PyProof.Rows
/-- the keys of the locked dict o at a -/
def ItD (a : Nat) (o : Obj) (es : Array DictEntry) : It :=
  ⟨fun i H => i < es.size ∧ ∃ u, H a = some (.frz u (isO a o)), fun i H x H' => H' = H ∧ ∃ e, es[i]? = some e ∧ RelV x e.key, fun i H => es.size ≤ i ∧ ∃ u, H a = some (.frz u (isO a o))⟩
theorem frz_get {P : Program} {w : World} {H : Hp} {h : Heap} {a : Nat} {o u : Obj} (ok : HOk P w H h) (e : H a = some (.frz u (isO a o))) : h.get? a = some o := by
  obtain ⟨_, q⟩ := ok _ _ e
  exact q.1
theorem turnD {P : Program} {w : World} {K : PySem.W.Frag} {tg : Expr} (a it : Nat) (o : Obj) (es : Array DictEntry) (ep : Nat) (hd : o.data = .dict es ep) (hk : ∀ e ∈ es.toList, ∃ b, e.key = .ref b) : Turn P w K tg (ItD a o es) [it] it (fun i h => h.IsKeyIter it a i es.size ep) where
  mem := List.mem_singleton.mpr rfl
  obj := fun i h st b hb => by
    obtain ⟨ob, e, c, d⟩ := st
    rw [List.mem_singleton.mp hb]
    exact ⟨ob, e, fun v z => by rw [d] at z; cases z⟩
  keep := fun i h h' st k => let ⟨ob, e, r⟩ := st; ⟨ob, k it (List.mem_singleton.mpr rfl) ob e, r⟩
  item := fun X hP hw hK hc i pins s σ H E I hf st ⟨hi, u, hH⟩ => by
    subst hP hw hK
    obtain ⟨f0, f1, f2, f3, f4, f5⟩ := hf it (List.mem_singleton.mpr rfl)
    have he : es[i]? = some es[i] := Array.getElem?_eq_getElem hi
    refine next_key_item st (frz_get I.hok hH) hd rfl he fun h' st' sb => ?_
    obtain ⟨b, hb⟩ := hk es[i] (by simp)
    have I1 : Inv X pins σ H { s with heap := h' } := I.turned (t' := s.toks) (fun b o hb e => (sb.2 b hb).trans e) f0 f1 f3 f4 f5
    obtain ⟨ob, e, c, d⟩ := id st'
    exact ⟨_, rfl, go_of (s := { s with heap := h' }) e c d (by decide) ⟨.ref b, H, I1, hb, ⟨rfl, _, he, hb⟩, st', fun b hb => (hf b hb).1⟩⟩
  done := fun X hP hw hK hc i pins s σ H E I hf st ⟨hi, u, hH⟩ => by
    subst hP hw hK
    obtain ⟨f0, f1, f2, f3, f4, f5⟩ := hf it (List.mem_singleton.mpr rfl)
    exact next_key_end (I.ok.hd hc) st (frz_get I.hok hH) hd rfl hi fun h' eb => ⟨rfl, I.turned (t' := s.toks) (fun b o hb e => eb b o hb e) f0 f1 f3 f4 f5⟩
  self := fun A i s Q E st h => wpAny_pyIter_keyiter st h
/-- a dict that is locked -/
def diDict (t : DTE) : DTI := fun W δ M R => t W δ M fun x M1 => ∃ a kvs, x = .ref a ∧ M1 a = some (.rdc kvs) ∧ R (akeys kvs) (fun M' => M' a = some (.rdc kvs)) M1
theorem Paired.getL {α β : Type} {F : α → β → Prop} : ∀ {l : List α} {m : List β} {i : Nat} {a : α}, Paired F l m → l[i]? = some a → ∃ b, m[i]? = some b ∧ F a b
  | _, _, _, _, .nil, h => by simp at h
  | _, _, 0, _, .cons r _, h => by simp at h; subst h; exact ⟨_, rfl, r⟩
  | _, _, i + 1, a, .cons _ t, h => by
    obtain ⟨b, h1, h2⟩ := Paired.getL (i := i) (a := a) t (by simpa using h)
    exact ⟨b, by simpa using h1, h2⟩
theorem wk_dict {g : G} {H : Hp} {M : MH} {a : Nat} {kvs : List (D × D)} {o u : Obj} {xs : List KRow} {es : Array DictEntry} (hH : H a = some (.frz u (isO a o))) (he : es.toList = xs.map (entryOfKey (nestedKind g.P g.w))) (r : Paired (ERp g.K H) kvs xs) :
    Wk g H M (ItD a o es) (akeys kvs) (fun M' => M' a = some (.rdc kvs)) := by
  have hl : es.size = kvs.length := by rw [← Array.length_toList, he, List.length_map, Paired.length r]
  have ha : (akeys kvs).length = es.size := by rw [akeys, List.length_map, hl]
  refine ⟨fun i H' M' m e al hi => ⟨by rw [← ha]; exact hi, u, e.z a u _ hH⟩, fun H' M' m e al => ⟨Nat.le_of_eq ha.symm, u, e.z a u _ hH⟩, fun i H' M' x H2 d m e al y hd => ?_⟩
  obtain ⟨e2, en, hen, rx⟩ := y
  subst e2
  unfold akeys at hd
  rw [List.getElem?_map, Option.map_eq_some_iff] at hd
  obtain ⟨p, hp, rfl⟩ := hd
  obtain ⟨q, hq, f⟩ := Paired.getL r hp
  have z : es.toList[i]? = some (entryOfKey (nestedKind g.P g.w) q) := by rw [he, List.getElem?_map, hq]; rfl
  rw [Array.getElem?_toList, hen] at z
  cases z
  have ex : x = .ref q.2.1 := by
    have rx : RelV x (.ref q.2.1) := rx
    cases x with
    | ref b => cases rx; rfl
    | int i => obtain ⟨t, h⟩ := rx; cases h
    | str i => obtain ⟨t, h⟩ := rx; cases h
    | _ => first | (obtain ⟨t, h⟩ := rx; cases h; done) | (cases rx; done)
  subst ex
  exact ⟨m, Ev.refl _ _, f.2.2.1.mono e.w⟩
section
variable {X : Cx} {W : XK}
theorem di_dict {tg e : Expr} {t : DTE} (he : PE X e (liftE (gOf X) W t)) : PI X tg e (liftI (gOf X) W (diDict t)) := by
  refine ⟨fun pins s σ H R I ⟨δ, M, Wd, Rd, at_, q, k⟩ => ?_⟩
  refine thn (he.run pins s σ H (fun v H1 => ∃ d M1, MR (gOf X) H1 M1 ∧ Rp X.K H1 d v ∧ Ev H M H1 M1 ∧ ∃ a kvs, d = .ref a ∧ M1 a = some (.rdc kvs) ∧ Rd (akeys kvs) (fun M' => M' a = some (.rdc kvs)) M1) I
    ⟨δ, M, Wd, _, at_, q, fun d v H1 M1 m1 r1 e1 q1 => ⟨d, M1, m1, r1, e1, q1⟩⟩) fun u s1 ⟨v, H1, I1, ru, d, M1, m1, r1, e1, a, kvs, ed, hM, q1⟩ => ?_
  subst ed
  cases r1
  cases ru
  obtain ⟨o, u0, hH, ⟨hl, xs, es, ep, ex, hd, hes, nd, pr⟩, hs⟩ := m1 a _ hM
  have hk : ∀ e ∈ es.toList, ∃ b, e.key = .ref b := fun e he => by
    rw [hes] at he
    obtain ⟨q, _, rfl⟩ := List.mem_map.mp he
    exact ⟨q.2.1, rfl⟩
  exact iter_keys hs (frz_get I1.hok hH) ex hd (pi_one (tk := s1.toks) I1 _ (turnD a _ o es ep hd hk) ⟨_, Heap.get?_push_size _ rfl, rfl, rfl⟩ (k _ _ _ H1 M1 m1 e1 (wk_dict hH hes pr) q1))
/-! ### the lock -/
def dLockE (t : DTE) : DTE := fun W δ M Q => ∃ a kvs, M a = some (.dct kvs) ∧ t W δ (up M a (.rdc kvs)) fun d M' => M' a = some (.rdc kvs) ∧ Q d (up M' a (.dct kvs))
def dLockS (t : DTS) : DTS := fun W D δ M => ∃ a kvs, M a = some (.dct kvs) ∧ t W { nx := fun δ' M' => M' a = some (.rdc kvs) ∧ D.nx δ' (up M' a (.dct kvs)), rt := fun d M' => M' a = some (.rdc kvs) ∧ D.rt d (up M' a (.dct kvs)), bk := fun δ' M' => M' a = some (.rdc kvs) ∧ D.bk δ' (up M' a (.dct kvs)), ct := fun δ' M' => M' a = some (.rdc kvs) ∧ D.ct δ' (up M' a (.dct kvs)) } δ (up M a (.rdc kvs))
/-- behind the lock -/
theorem unlocked {g : G} {H H' : Hp} {M M' : MH} {a : Nat} {kvs : List (D × D)} {o od : Obj} (hM : M a = some (.dct kvs)) (h1 : H a = some (isO a o)) (dok : DOk g H o kvs) (hs : (a == sysModules) = false) (m' : MR g H' M') (e' : Ev (upd H a (.frz od (isO a o))) (up M a (.rdc kvs)) H' M') (hM' : M' a = some (.rdc kvs)) :
    H' a = some (.frz od (isO a o)) ∧ MR g (upd H' a (isO a o)) (up M' a (.dct kvs)) ∧ Ev H M (upd H' a (isO a o)) (up M' a (.dct kvs)) ∧ Tups H' (upd H' a (isO a o)) := by
  have hf := e'.tz.z a od _ upd_same
  have t1 : Tz H (upd H a (.frz od (isO a o))) := Tz.upd (fun xs e => by rw [h1] at e; cases e) (fun u xs e => by rw [h1] at e; cases e)
  have tw : Tups H' (upd H' a (isO a o)) := Tups.upd (fun xs e => by rw [hf] at e; cases e) (fun u xs e => by rw [hf] at e; cases e)
  refine ⟨hf, m'.at tw ⟨o, upd_same, dok.mono (t1.w.trans (e'.tup.trans tw)), hs⟩, ⟨⟨t1.w.trans (e'.tup.trans tw), fun x u y hx => ?_⟩, fun x hx => ?_, fun x hx hm => ?_, fun x u hx hm => ?_⟩, tw⟩
  · have ne : x ≠ a := by intro z; rw [z, h1] at hx; cases hx
    rw [upd_ne ne]
    exact e'.tz.z x u y (by rw [upd_ne ne]; exact hx)
  · by_cases z : x = a
    · rw [z, upd_same]; exact (fun z => nomatch z)
    · rw [upd_ne z]
      exact e'.dom x (by rw [upd_ne z]; exact hx)
  · have ne : x ≠ a := by intro z; rw [z, hM] at hm; cases hm
    rw [up_ne ne]
    exact e'.new x (by rw [upd_ne ne]; exact hx) (by rw [up_ne ne]; exact hm)
  · have ne : x ≠ a := by intro z; rw [z, hM] at hm; cases hm
    rw [upd_ne ne]
    exact e'.keep x u (by rw [upd_ne ne]; exact hx) (by rw [up_ne ne]; exact hm)
theorem locked {g : G} {H : Hp} {M : MH} {a : Nat} {kvs : List (D × D)} {o : Obj} (od : Obj) (m : MR g H M) (hM : M a = some (.dct kvs)) (h1 : H a = some (isO a o)) (dok : DOk g H o kvs) (hs : (a == sysModules) = false) : MR g (upd H a (.frz od (isO a o))) (up M a (.rdc kvs)) ∧ Ev H M (upd H a (.frz od (isO a o))) (up M a (.rdc kvs)) := by
  have t1 : Tz H (upd H a (.frz od (isO a o))) := Tz.upd (fun xs e => by rw [h1] at e; cases e) (fun u xs e => by rw [h1] at e; cases e)
  exact ⟨m.at t1.w ⟨o, od, upd_same, dok.mono t1.w, hs⟩, Ev.put hM t1⟩
theorem de_lock {e : Expr} {t : DTE} (h : PE X e (liftE (gOf X) W t)) : PE X e (liftE (gOf X) W (dLockE t)) :=
  pe_imp (pe_lock h) fun σ H Q ⟨δ, M, Wd, Qd, at_, ⟨a, kvs, hM, q⟩, k⟩ => by
    obtain ⟨o, h1, dok, hs⟩ := at_.mr a _ hM
    refine ⟨a, isO a o, h1, trivial, fun od => ?_⟩
    obtain ⟨m1, e1⟩ := locked od at_.mr hM h1 dok hs
    refine ⟨δ, _, Wd, _, at_.fwd m1 e1, q, fun d v H' M' m' r' e' ⟨hM', q'⟩ => ?_⟩
    obtain ⟨hf, m2, e2, tw⟩ := unlocked hM h1 dok hs m' e' hM'
    exact ⟨hf, k d v _ _ m2 (r'.mono tw) e2 q'⟩
theorem ds_lock {st : Stmt} {t : DTS} (h : PS X st (liftS (gOf X) W t)) : PS X st (liftS (gOf X) W (dLockS t)) :=
  ps_imp (ps_lock h) fun Dn σ H ⟨δ, M, Wd, Dd, at_, ⟨a, kvs, hM, q⟩, k⟩ => by
    obtain ⟨o, h1, dok, hs⟩ := at_.mr a _ hM
    refine ⟨a, isO a o, h1, trivial, fun od => ?_⟩
    obtain ⟨m1, e1⟩ := locked od at_.mr hM h1 dok hs
    refine ⟨δ, _, Wd, _, at_.fwd m1 e1, q, fun δ' σ' H' M' m' er' e' ⟨hM', q'⟩ => ?_, fun d v H' M' m' r' e' ⟨hM', q'⟩ => ?_, fun δ' σ' H' M' m' er' e' ⟨hM', q'⟩ => ?_, fun δ' σ' H' M' m' er' e' ⟨hM', q'⟩ => ?_⟩
    · obtain ⟨hf, m2, e2, tw⟩ := unlocked hM h1 dok hs m' e' hM'
      exact ⟨hf, k.nx δ' σ' _ _ m2 (er'.mono tw) e2 q'⟩
    · obtain ⟨hf, m2, e2, tw⟩ := unlocked hM h1 dok hs m' e' hM'
      exact ⟨hf, k.rt d v _ _ m2 (r'.mono tw) e2 q'⟩
    · obtain ⟨hf, m2, e2, tw⟩ := unlocked hM h1 dok hs m' e' hM'
      exact ⟨hf, k.bk δ' σ' _ _ m2 (er'.mono tw) e2 q'⟩
    · obtain ⟨hf, m2, e2, tw⟩ := unlocked hM h1 dok hs m' e' hM'
      exact ⟨hf, k.ct δ' σ' _ _ m2 (er'.mono tw) e2 q'⟩
end
end DL

set_option Elab.async false
set_option linter.all false
set_option maxRecDepth 20000
/-! DL17: a def keeps its promise; its calls; the words of a body. -/
namespace DL
open PySem L2 PyProof.Rows
/-! ### names of the built-ins -/
theorem bb_len : bootBuiltins "len" = some (.builtin "len") := by decide +kernel
theorem bb_all : bootBuiltins "all" = some (.builtin "all") := by decide +kernel
theorem bb_abs : bootBuiltins "abs" = some (.builtin "abs") := by decide +kernel
theorem bb_sum : bootBuiltins "sum" = some (.builtin "sum") := by decide +kernel
theorem bb_min : bootBuiltins "min" = some (.builtin "min") := by decide +kernel
theorem bb_max : bootBuiltins "max" = some (.builtin "max") := by decide +kernel
theorem bb_sorted : bootBuiltins "sorted" = some (.builtin "sorted") := by decide +kernel
theorem bb_isinstance : bootBuiltins "isinstance" = some (.builtin "isinstance") := by decide +kernel
theorem bb_int : bootBuiltins "int" = some (.type "int") := by decide +kernel
theorem bb_bool : bootBuiltins "bool" = some (.type "bool") := by decide +kernel
theorem bb_str : bootBuiltins "str" = some (.type "str") := by decide +kernel
theorem bb_list : bootBuiltins "list" = some (.type "list") := by decide +kernel
theorem bb_tuple : bootBuiltins "tuple" = some (.type "tuple") := by decide +kernel
theorem bb_dict : bootBuiltins "dict" = some (.type "dict") := by decide +kernel
section
variable {X : Cx} {W : XK} {a b c e : Expr} {es : List Expr} {ta tb tc : DTE} {t : DTA} {x : Str} {p pos : Pos}
/-! ### calls of built-ins -/
theorem fn_imp {r : DRn} {σ : L2.St} {H : Hp} {Q : VK} (h : liftE (gOf X) W (dFn r t) σ H Q) : tCB (liftRn (gOf X) r) (liftA (gOf X) W t) σ H Q := by
  obtain ⟨δ, M, Wd, Qd, at_, q, k⟩ := h
  exact ⟨δ, M, Wd, _, at_, q, fun ds vs H1 M1 m1 r1 e1 q1 => ⟨ds, M1, Qd, r1, m1, q1, k.fwd e1⟩⟩
theorem de_callB {id : String} {r : DRn} (hc : CallR X (.builtin id) (liftRn (gOf X) r)) (hm : X.mg x = none) (hv : bootBuiltins x = some (.builtin id)) (ha : PA X (e :: es) (liftA (gOf X) W t)) (hg : Gl X x := by rfl) (hn : x ≠ "__name__" := by decide) (hdb : (x == ("__debug__" : Str)) = false := by decide)
    (he : starEach (e :: es) X.env = (false, eval e X.env) :: starEach es X.env := by rfl) (hpl : (backTo pos (starEach es X.env)).any (·.1) = false := by rfl) : PE X (.Call (.Name x p) (e :: es) [] pos) (liftE (gOf X) W (dFn r t)) :=
  pe_imp (pe_callB hc hg hm hv ha hn hdb he hpl) fun σ H Q h => fn_imp h
theorem de_callTy {id : String} {r : DRn} (hc : CallR X (.type id) (liftRn (gOf X) r)) (hm : X.mg x = none) (hv : bootBuiltins x = some (.type id)) (ha : PA X (e :: es) (liftA (gOf X) W t)) (hg : Gl X x := by rfl) (hn : x ≠ "__name__" := by decide) (hdb : (x == ("__debug__" : Str)) = false := by decide)
    (he : starEach (e :: es) X.env = (false, eval e X.env) :: starEach es X.env := by rfl) (hpl : (backTo pos (starEach es X.env)).any (·.1) = false := by rfl) : PE X (.Call (.Name x p) (e :: es) [] pos) (liftE (gOf X) W (dFn r t)) :=
  pe_imp (pe_callTy hc hg hm hv ha hn hdb he hpl) fun σ H Q h => fn_imp h
theorem de_ty (n : TyN) (hm : X.mg x = none) (hv : bootBuiltins x = some (.type n.name)) (hg : Gl X x := by rfl) (hn : x ≠ "__name__" := by decide) (hdb : (x == ("__debug__" : Str)) = false := by decide) : PE X (.Name x pos) (liftE (gOf X) W (dC (.ty n))) :=
  de_const (v := .ty n.name) (pe_bltn hg hm hv rfl hn hdb) fun _ => .ty n
theorem de_gint {i : Int} (hm : ∃ tk, X.mg x = some (.int i tk)) (hg : Gl X x := by rfl) (hdb : (x == ("__debug__" : Str)) = false := by decide) : PE X (.Name x pos) (liftE (gOf X) W (dC (.int i))) := by
  obtain ⟨tk, h⟩ := hm
  exact de_const (v := .int i) (pe_glob hg h ⟨_, rfl⟩ hdb) fun _ => .int i
/-! ### words -/
theorem dv (i : Nat) (hN : X.N[i]? = some x := by rfl) (hv : Vis X.env.scope x := by first | exact .inl rfl | exact .inr (.inl rfl) | exact .inr (.inr rfl)) (hd : (x == ("__debug__" : Str)) = false := by decide) (hcd : (x == ("__classdict__" : Str)) = false := by decide) : PE X (.Name x pos) (liftE (gOf X) W (dVar i)) := de_var hN hv hd hcd
theorem de_chain {op op' : CmpOp} {r r' : DR2} (ho : OpR X (compareOp op) (liftR2 (gOf X) r)) (ho' : OpR X (compareOp op') (liftR2 (gOf X) r')) (ha : PE X a (liftE (gOf X) W ta)) (hb : PE X b (liftE (gOf X) W tb)) (hc : PE X c (liftE (gOf X) W tc)) (hm : lastMarks [op, op'] [b, c] = false := by with_unfolding_all rfl) :
    PE X (.Compare a [op, op'] [b, c] pos) (liftE (gOf X) W (dChain r r' ta tb tc)) := pe_imp (pe_chain ho ho' ha hb hc hm) fun σ H Q h => chain_imp h
theorem dt_chain {op op' : CmpOp} {r r' : DR2} (ho : OpR X (compareOp op) (liftR2 (gOf X) r)) (ho' : OpR X (compareOp op') (liftR2 (gOf X) r')) (ha : PE X a (liftE (gOf X) W ta)) (hb : PE X b (liftE (gOf X) W tb)) (hc : PE X c (liftE (gOf X) W tc)) (hm : lastMarks [op, op'] [b, c] = false := by with_unfolding_all rfl) :
    PT X (.Compare a [op, op'] [b, c] pos) (liftT (gOf X) W (dB (dChain r r' ta tb tc))) := pt_imp (pt_chain ho ho' ha hb hc hm) fun σ H Q h => chain_imp (b_imp h)
theorem da_one (ha : PE X a (liftE (gOf X) W ta)) (hs : starEach [a] X.env = (false, eval a X.env) :: starEach [] X.env := by rfl) : PA X [a] (liftA (gOf X) W (dCons ta dNil)) := da_cons ha da_nil hs
theorem dac (ha : PE X a (liftE (gOf X) W ta)) (hr : PA X es (liftA (gOf X) W t)) (hs : starEach (a :: es) X.env = (false, eval a X.env) :: starEach es X.env := by rfl) : PA X (a :: es) (liftA (gOf X) W (dCons ta t)) := da_cons ha hr hs
theorem de_bin' {op : Operator} (ha : PE X a (liftE (gOf X) W ta)) (hb : PE X b (liftE (gOf X) W tb)) : PE X (.BinOp a op b pos) (liftE (gOf X) W (dBin (ruleBin op) ta tb)) := de_bin (ruleBin_ok op) ha hb
theorem de_un' {op : UnaryOp} (ha : PE X a (liftE (gOf X) W ta)) : PE X (.UnaryOp op a pos) (liftE (gOf X) W (dUn (ruleUn op) ta)) := de_un (ruleUn_ok op) ha
theorem de_ix (S : Std X) (ha : PE X a (liftE (gOf X) W ta)) (hb : PE X b (liftE (gOf X) W tb)) (hs : PlainIx b := by intro _ _; rfl) : PE X (.Subscript a b pos) (liftE (gOf X) W (dBin ruleIx ta tb)) := pe_imp (pe_ix (ruleIx_ok S) ha hb hs) fun σ H Q h => bin_imp h
abbrev DTO := DW → DS → MH → (Option Int → MH → Prop) → Prop
def liftO (g : G) (W : XK) (t : DTO) : TO := fun σ H Q => ∃ δ M Wd Qd, At g W σ H δ M Wd ∧ t Wd δ M Qd ∧ ∀ o H' M', MR g H' M' → Ev H M H' M' → Qd o M' → Q o H'
def dNoP : DTO := fun _ _ M Q => Q none M
def dPart (t : DTE) : DTO := fun W δ M Q => t W δ M fun x M1 => ∃ i, x = .int i ∧ Q (some i) M1
theorem do_none : PO X none (liftO (gOf X) W dNoP) := ⟨fun pins s σ H Q I ⟨δ, M, Wd, Qd, at_, q, k⟩ => po_none.run pins s σ H Q I (k _ H M at_.mr (Ev.refl _ _) q)⟩
theorem do_some (ha : PE X a (liftE (gOf X) W ta)) : PO X (some a) (liftO (gOf X) W (dPart ta)) := ⟨fun pins s σ H Q I ⟨δ, M, Wd, Qd, at_, q, k⟩ => (po_some ha).run pins s σ H Q I ⟨δ, M, Wd, _, at_, q, fun d v H' M' m r e ⟨i, ed, q'⟩ => by
  subst ed
  cases r
  exact ⟨i, rfl, k _ H' M' m e q'⟩⟩⟩
def dSl (te : DTE) (tl th : DTO) : DTE := fun W δ M Q => te W δ M fun x M1 => tl W δ M1 fun l M2 => th W δ M2 fun h M3 => ruleSl x l h M3 Q
theorem de_sl {lo hi : Option Expr} {p2 : Pos} {tl th : DTO} (ha : PE X a (liftE (gOf X) W ta)) (hl : PO X lo (liftO (gOf X) W tl)) (hh : PO X hi (liftO (gOf X) W th)) : PE X (.Subscript a (.Slice lo hi none p2) pos) (liftE (gOf X) W (dSl ta tl th)) :=
  pe_imp (pe_slice ruleSl_ok ha hl hh) fun σ H Q ⟨δ, M, Wd, Qd, at_, q, k⟩ => ⟨δ, M, Wd, _, at_, q, fun d v H1 M1 m1 r1 e1 q1 =>
    ⟨δ, M1, Wd, _, at_.fwd m1 e1, q1, fun l H2 M2 m2 e2 q2 => ⟨δ, M2, Wd, _, at_.fwd m2 (e1.trans e2), q2, fun h H3 M3 m3 e3 q3 => ⟨d, M3, Qd, r1.mono (e2.trans e3).tup, m3, q3, k.fwd ((e1.trans e2).trans e3)⟩⟩⟩⟩
theorem dcmp (S : Std X) {op : CmpOp} (ha : PE X a (liftE (gOf X) W ta)) (hb : PE X b (liftE (gOf X) W tb)) (hm : behindInMarks op b = false := by rfl) : PE X (.Compare a [op] [b] pos) (liftE (gOf X) W (dBin (ruleCmp op) ta tb)) := de_cmp (ruleCmp_ok S op) ha hb hm
theorem tcmp (S : Std X) {op : CmpOp} (ha : PE X a (liftE (gOf X) W ta)) (hb : PE X b (liftE (gOf X) W tb)) (hm : behindInMarks op b = false := by rfl) : PT X (.Compare a [op] [b] pos) (liftT (gOf X) W (dB (dBin (ruleCmp op) ta tb))) := dt_cmp (ruleCmp_ok S op) ha hb hm
theorem dchain (S : Std X) {op op' : CmpOp} (ha : PE X a (liftE (gOf X) W ta)) (hb : PE X b (liftE (gOf X) W tb)) (hc : PE X c (liftE (gOf X) W tc)) (hm : lastMarks [op, op'] [b, c] = false := by with_unfolding_all rfl) : PE X (.Compare a [op, op'] [b, c] pos) (liftE (gOf X) W (dChain (ruleCmp op) (ruleCmp op') ta tb tc)) := de_chain (ruleCmp_ok S op) (ruleCmp_ok S op') ha hb hc hm
theorem tchain (S : Std X) {op op' : CmpOp} (ha : PE X a (liftE (gOf X) W ta)) (hb : PE X b (liftE (gOf X) W tb)) (hc : PE X c (liftE (gOf X) W tc)) (hm : lastMarks [op, op'] [b, c] = false := by with_unfolding_all rfl) : PT X (.Compare a [op, op'] [b, c] pos) (liftT (gOf X) W (dB (dChain (ruleCmp op) (ruleCmp op') ta tb tc))) := dt_chain (ruleCmp_ok S op) (ruleCmp_ok S op') ha hb hc hm
theorem tval (h : PE X e (liftE (gOf X) W ta)) (he : ∀ whole, isTrue e X.env whole = (do let v ← whole; standAt e.pos; holding [v] (truthy v)) := by intro _; rfl) : PT X e (liftT (gOf X) W (dB ta)) := dt_val h he
theorem tand {rest : List Expr} {ua ub : DTT} (ha : PT X a (liftT (gOf X) W ua)) (hb : PW X (.BoolOp .And (b :: rest) pos) (liftT (gOf X) W ub)) : PW X (.BoolOp .And (a :: b :: rest) pos) (liftT (gOf X) W (dAndT ua ub)) := dt_and ha hb
theorem de_int {i : Int} {j} : PE X (.Constant (.int i) j pos) (liftE (gOf X) W (dC (.int i))) := de_const pe_int fun _ => .int i
theorem de_none {j} : PE X (.Constant .none j pos) (liftE (gOf X) W (dC .non)) := de_const pe_non fun _ => .non
theorem de_bool {z : Bool} {j} : PE X (.Constant (.bool z) j pos) (liftE (gOf X) W (dC (.bl z))) := de_const pe_bl fun _ => .bl z
theorem de_str {z : Str} {j} : PE X (.Constant (.str z) j pos) (liftE (gOf X) W (dC (.str z))) := de_const pe_str fun _ => .str z
/-! ### statements' words -/
theorem dset (i : Nat) (hN : X.N.Nodup) (ha : PE X a (liftE (gOf X) W ta)) (hi : X.N[i]? = some x := by rfl) (hx : Loc X.env.scope x := by first | exact .inl rfl | exact .inr rfl) (hs : swapsWith a (some (.Name x p)) pos.line X.env = pure false := by rfl)
    (hf : X.fn x = true ∨ X.env.scope.names.lookup x = some .local := by first | exact .inl rfl | exact .inr rfl) : PS X (.Assign [.Name x p] a pos) (liftS (gOf X) W (dAsg ta (.name i))) := ds_set hN hi hx ha hs hf
theorem dasg {tg : Expr} {g : Tg} (ha : PE X a (liftE (gOf X) W ta)) (hg : PG X tg (g.h X.K)) (hs : swapsWithSole [tg] a pos.line X.env = pure false := by rfl) (hw : swappedStores [tg] a X.env = pure none := by rfl)
    (h1 : (assignEach [tg] X.env).map (·.2) = [assign tg X.env] := by rfl) : PS X (.Assign [tg] a pos) (liftS (gOf X) W (dAsg ta g)) := ds_asg ha hg hs hw h1
theorem dpar (i j : Nat) {y : Str} {px py pt : Pos} {kt k2 pt2} (S : Std X) (hN : X.N.Nodup) (ha : PA X [a, b] (liftA (gOf X) W t)) (hi : X.N[i]? = some x := by rfl) (hj : X.N[j]? = some y := by rfl) (hij : i ≠ j := by decide)
    (hx : X.env.scope.names.lookup x = some .local := by rfl) (hy : X.env.scope.names.lookup y = some .local := by rfl) (hw : swappedStores [.Tuple [.Name x px, .Name y py] kt pt] (.Tuple [a, b] k2 pt2) X.env = pure (some [x, y]) := by rfl) :
    PS X (.Assign [.Tuple [.Name x px, .Name y py] kt pt] (.Tuple [a, b] k2 pt2) pos) (liftS (gOf X) W (dPar i j t)) := ds_par S.calm hN hi hj hij hx hy ha hw
theorem dsub (S : Std X) {o i : Expr} {pos' : Pos} {te to_ ti : DTE} (he : PE X a (liftE (gOf X) W te)) (ho : PE X o (liftE (gOf X) W to_)) (hi : PE X i (liftE (gOf X) W ti))
    (hA : ∀ v, assign (.Subscript o i pos') X.env v = (do
      let ov ← holding [v] (eval o X.env)
      let iv ← holding [v, ov] (eval i X.env)
      standAt pos'
      holding [v, ov, iv] (setItem ov iv v)
      release [v, ov, iv] []) := by intro _; rfl)
    (hs : swapsWithSole [.Subscript o i pos'] a pos.line X.env = pure false := by rfl) (hw : swappedStores [.Subscript o i pos'] a X.env = pure none := by rfl) (h1 : (assignEach [.Subscript o i pos'] X.env).map (·.2) = [assign (.Subscript o i pos') X.env] := by rfl) :
    PS X (.Assign [.Subscript o i pos'] a pos) (liftS (gOf X) W (dSub ruleSet te to_ ti)) := ds_sub (ruleSet_ok S) he ho hi hA hs hw h1
theorem dexpr (ha : PE X a (liftE (gOf X) W ta)) (hs : swapsWith a none pos.line X.env = pure false := by rfl) : PS X (.Expr a pos) (liftS (gOf X) W (dDrop ta)) := ds_expr ha hs
theorem dss_one {s : Stmt} {u : DTS} (h : PS X s (liftS (gOf X) W u)) : PSs X [s] (liftS (gOf X) W (dSeq u dNext)) := dss_cons h dss_nil
/-- targets -/
theorem gn (i : Nat) (hN : X.N.Nodup) (hi : X.N[i]? = some x := by rfl) (hx : Loc X.env.scope x := by first | exact .inl rfl | exact .inr rfl) (hf : X.fn x = true ∨ X.env.scope.names.lookup x = some .local := by first | exact .inl rfl | exact .inr rfl) : PG X (.Name x pos) ((Tg.name i).h X.K) := pg_name hN hi hx hf
end
end DL

set_option Elab.async false
set_option linter.all false
set_option maxRecDepth 20000
/-! DL18: targets, sources, comprehensions as words; a def's promise. -/
namespace DL
open PySem L2 PyProof.Rows
section
variable {X : Cx} {W : XK} {a b c e : Expr} {es : List Expr} {ta tb tc : DTE} {t : DTA} {x : Str} {p pos : Pos}
theorem gnil : PGs X [] (Tg.hs X.K []) := pgs_nil
theorem gcons {g : Tg} {gs : List Tg} (h1 : PG X e (g.h X.K)) (h2 : PGs X es (Tg.hs X.K gs)) (hs : (assignEach (e :: es) X.env).map (·.2) = assign e X.env :: (assignEach es X.env).map (·.2) := by rfl) : PGs X (e :: es) (Tg.hs X.K (g :: gs)) := pgs_cons h1 h2 hs
theorem gtup (S : Std X) {k : Nat} {gs : List Tg} (h : PGs X es (Tg.hs X.K gs)) (hn : (assignEach es X.env).length = gs.length := by rfl) (hst : (assignEach es X.env).findIdx? (·.1) = none := by rfl) : PG X (.Tuple es k pos) ((Tg.tup gs).h X.K) := pg_tup S.calm h hn hst
theorem ir1 {tg : Expr} (hm : X.mg "range" = none) (ha : PA X [a] (liftA (gOf X) W t)) (hg : Gl X "range" := by rfl) (hs : starEach [a] X.env = [(false, eval a X.env)] := by rfl) : PI X tg (.Call (.Name "range" p) [a] [] pos) (liftI (gOf X) W (diR1 t)) := di_r1 hg hm ha hs
theorem ir2 {tg : Expr} (hm : X.mg "range" = none) (ha : PA X [a, b] (liftA (gOf X) W t)) (hg : Gl X "range" := by rfl) (hs : starEach [a, b] X.env = [(false, eval a X.env), (false, eval b X.env)] := by rfl) (hs2 : starEach [b] X.env = [(false, eval b X.env)] := by rfl) : PI X tg (.Call (.Name "range" p) [a, b] [] pos) (liftI (gOf X) W (diR2 t)) := di_r2 hg hm ha hs hs2
theorem ienum {elts : List Expr} {kk : Nat} {tpos : Pos} (hm : X.mg "enumerate" = none) (ha : PA X [e] (liftA (gOf X) W t)) (hg : Gl X "enumerate" := by rfl) (hs : starEach [e] X.env = [(false, eval e X.env)] := by rfl) : PI X (.Tuple elts kk tpos) (.Call (.Name "enumerate" p) [e] [] pos) (liftI (gOf X) W (diEnum t)) := di_enum hg hm ha hs
theorem dmt0 {o : Expr} {to_ : DTE} {name : Str} {apos cpos : Pos} {T id : String} {r : DRm} {ty : D → MH → Prop} (pa : PlainAttrs T) (slot : Slot T name id) (hty : typeOf (.builtin id) = pure (.type "method_descriptor")) (hT : TyRc X T ty) (hm : MtD X id r) (ho : PE X o (liftE (gOf X) W to_))
    (hbase : attributeBase o name X.env (eval o X.env) = eval o X.env := by rfl) (hline : (apos.endLine == cpos.line) = true := by rfl) : PE X (.Call (.Attribute o name apos) [] [] cpos) (liftE (gOf X) W (dMt0 ty r to_)) := de_mt0 pa slot hty hT hm ho hbase hline
theorem dmt {o : Expr} {to_ : DTE} {name : Str} {apos cpos : Pos} {T id : String} {r : DRm} {ty : D → MH → Prop} (pa : PlainAttrs T) (slot : Slot T name id) (hty : typeOf (.builtin id) = pure (.type "method_descriptor")) (hT : TyRc X T ty) (hm : MtD X id r) (ho : PE X o (liftE (gOf X) W to_)) (ha : PA X (e :: es) (liftA (gOf X) W t))
    (hbase : attributeBase o name X.env (eval o X.env) = eval o X.env := by rfl)
    (hfew : ((backTo cpos (starEach (e :: es) X.env)).all (fun x => !x.1) && (backToKw cpos (keywordEach [] X.env)).all (fun x => x.1.isSome) && decide ((e :: es).length + ([] : List Keyword).length + (if ([] : List Keyword).isEmpty then 0 else 1) < 30)) = true := by rfl)
    (hline : (apos.endLine == cpos.line) = true := by rfl) (hs : starEach (e :: es) X.env = (false, eval e X.env) :: starEach es X.env := by rfl) (hplain : (backTo cpos (starEach es X.env)).any (·.1) = false := by rfl) : PE X (.Call (.Attribute o name apos) (e :: es) [] cpos) (liftE (gOf X) W (dMt ty r to_ t)) := de_mt pa slot hty hT hm ho ha hbase hfew hline hs hplain
theorem izip {elts : List Expr} {kk : Nat} {tpos : Pos} (hm : X.mg "zip" = none) (ha : PA X [a, b] (liftA (gOf X) W t)) (hg : Gl X "zip" := by rfl) (hs : starEach [a, b] X.env = (false, eval a X.env) :: starEach [b] X.env := by rfl) (hpl : (backTo pos (starEach [b] X.env)).any (·.1) = false := by rfl) : PI X (.Tuple elts kk tpos) (.Call (.Name "zip" p) [a, b] [] pos) (liftI (gOf X) W (diZip t)) := di_zip hg hm ha hs hpl
theorem tests0 : PTs X [] (liftT (gOf X) W dYes) := ⟨fun pins s σ H Q I ⟨δ, M, Wd, Qd, at_, q, k⟩ => pts_nil.run pins s σ H Q I (k true H M at_.mr (Ev.refl _ _) q)⟩
theorem tests1 {u : DTT} (h : PT X a (liftT (gOf X) W u)) : PTs X [a] (liftT (gOf X) W u) := pts_one h
/-! ### a def's promise -/
def dstart (N : List Str) (ds : List D) : DS := ds.map some ++ List.replicate (N.length - ds.length) none
/-- what is given back may stand in a heap that holds more -/
def Fg (Q : DQ) : DQ := fun d M' => ∃ M, Sub M M' ∧ Q d M
def fnEnds (Q : DQ) : DEnds := { nx := fun _ M' => Fg Q .non M', rt := Fg Q, bk := fun _ _ => False, ct := fun _ _ => False }
/-- the body does as promised -/
def Meets (sp : DSpec) (N ps : List Str) (t : DTS) : Prop := ∀ ds M Q W, sp ds M Q W → ds.length = ps.length ∧ t W (fnEnds Q) (dstart N ds) M
structure FE (P : Program) (w : World) (K : PySem.W.Frag) (mg : Str → Option Value) (base : Heap) (k : Nat) (x : Str) (ps : List Str) (sp : DSpec) : Prop where
  ex : ∃ f fd, mg x = some (.ref f) ∧ PySem.W.keepIn K (.ref f) = true ∧ Binds K fd ps [] ∧ FnOk P w K mg base (L2.CX P w) k f fd ps (liftSp ⟨P, w, K, mg⟩ sp)
theorem FE.mono {P : Program} {w : World} {K : PySem.W.Frag} {mg : Str → Option Value} {base : Heap} {j k : Nat} {x : Str} {ps : List Str} {sp : DSpec} (F : FE P w K mg base j x ps sp) (h : j ≤ k) : FE P w K mg base k x ps sp :=
  let ⟨f, fd, h1, h2, h3, h4⟩ := F.ex
  ⟨f, fd, h1, h2, h3, h4.mono h⟩
theorem call_imp {sp : DSpec} {σ : L2.St} {H : Hp} {Q : VK} (h : liftE (gOf X) W (dCall sp t) σ H Q) : tCall (liftSp (gOf X) sp) [] W (liftA (gOf X) W t) σ H Q := by
  obtain ⟨δ, M, Wd, Qd, at_, q, k⟩ := h
  exact ⟨δ, M, Wd, _, at_, q, fun ds vs H1 M1 m1 r1 e1 q1 => ⟨ds, M1, Qd, Wd, by rw [List.append_nil]; exact r1, m1, q1, k.fwd e1, at_.kw.fwd e1⟩⟩
/-- what a body knows of its place -/
structure Ctx (X : Cx) (W : XK) (k : Nat) : Prop where
  std : Std X
  room : Room k X.A
  pass : Passes (L2.CX X.prog X.w) X W
theorem std_of {k : Nat} (hc : X.calm = true) (hr : Room k X.A) : Std X := ⟨hc, hr.units, by have := hr.un; omega⟩
theorem pass_no : Passes (L2.CX X.prog X.w) X X0 := passes_call takes0 fun _ _ _ _ h => h
theorem de_call {k j : Nat} {ps : List Str} {sp : DSpec} (F : FE X.prog X.w X.K X.mg X.base j x ps sp) (C : Ctx X W k) (hj : j ≤ k) (ha : PA X (e :: es) (liftA (gOf X) W t)) (hg : Gl X x := by rfl) (hdb : (x == ("__debug__" : Str)) = false := by decide)
    (he : starEach (e :: es) X.env = (false, eval e X.env) :: starEach es X.env := by rfl) (hpl : (backTo pos (starEach es X.env)).any (·.1) = false := by rfl) : PE X (.Call (.Name x p) (e :: es) [] pos) (liftE (gOf X) W (dCall sp t)) := by
  obtain ⟨f, fd, h1, h2, h3, h4⟩ := F.ex
  exact pe_imp (pe_call h4 (C.room.mono hj) hg h1 h2 h3 .nil C.pass ha hdb he hpl) fun σ H Q h => call_imp h
theorem de_call0 {k j : Nat} {ps : List Str} {sp : DSpec} (F : FE X.prog X.w X.K X.mg X.base j x ps sp) (C : Ctx X W k) (hj : j ≤ k) (hg : Gl X x := by rfl) (hdb : (x == ("__debug__" : Str)) = false := by decide) : PE X (.Call (.Name x p) [] [] pos) (liftE (gOf X) W (dCall sp dNil)) := by
  obtain ⟨f, fd, h1, h2, h3, h4⟩ := F.ex
  refine pe_imp (pe_call0 h4 (C.room.mono hj) hg h1 h2 h3 .nil C.pass hdb) fun σ H Q h => ?_
  obtain ⟨δ, M, Wd, Qd, at_, q, k⟩ := h
  exact ⟨[], M, Qd, Wd, .nil, at_.mr, q, k, at_.kw⟩
end
theorem er_start {K : PySem.W.Frag} {H : Hp} {N : List Str} {ds : List D} {vs : List V} (r : Rps K H ds vs) : Er K H (dstart N ds) (L2.start N vs) := by
  have hl := r.length
  refine ⟨by unfold dstart L2.start; rw [List.length_append, List.length_append, List.length_map, List.length_map, List.length_replicate, List.length_replicate, hl], fun i d h => ?_⟩
  have hi : i < ds.length := by
    unfold dstart at h
    by_cases hi : i < ds.length
    · exact hi
    · rw [List.getElem?_append_right (by simpa using hi), List.getElem?_replicate] at h
      split at h <;> cases h
  unfold dstart at h
  rw [List.getElem?_append_left (by simpa using hi), List.getElem?_map, Option.map_eq_some_iff] at h
  obtain ⟨d', hd, e⟩ := h
  cases e
  obtain ⟨v, hv, rv⟩ := r.get hd
  refine ⟨v, ?_, rv⟩
  unfold L2.start
  rw [List.getElem?_append_left (by rw [List.length_map, ← hl]; exact hi), List.getElem?_map, hv]
  rfl
/-- the context of a def's body -/
abbrev bodyX (P : Program) (w : World) (K : PySem.W.Frag) (mg : Str → Option Value) (base : Heap) (N : List Str) (x : Str) (st : Stmt) (f : Nat) (cdv : Value) (A : Around) (outer : List Env) (s : Shared) (H : Hp) (E : XK) : Cx := cxOf (L2.CX P w) P w K mg base N x (defScope st) f cdv A outer s H E
section
variable {P : Program} {w : World} {K : PySem.W.Frag} {mg : Str → Option Value} {base : Heap} {N ps : List Str} {x : Str} {st : Stmt} {k : Nat} {sp : DSpec} {t : DTS}
theorem ctx_body {f : Nat} {cdv : Value} {A : Around} {outer : List Env} {s : Shared} {H : Hp} {E : XK} (hr : Room k (A.deeper (envOfC x (defScope st) s.heap.objs.size f cdv))) : Ctx (bodyX P w K mg base N x st f cdv A outer s H E) E k :=
  ⟨std_of rfl hr, hr, passes_call (takes_of rfl rfl rfl rfl) fun _ _ _ _ h => h⟩
theorem Ctx.nox {X : Cx} {W : XK} (C : Ctx X W k) : Ctx X.nox X0 k := ⟨⟨C.std.calm, C.std.un, C.std.un2⟩, C.room, pass_no⟩
theorem Ctx.blk {X : Cx} {W : XK} (C : Ctx X W k) (scope : Scope) (s : Shared) (H : Hp) (D : Nat) (cl : List (Str × Nat)) (fp : List Nat) : Ctx (blkOf X scope s H D cl fp) X0 k := ⟨⟨C.std.calm, C.std.un, C.std.un2⟩, C.room, pass_no⟩
/-- a def of the text, by its body -/
theorem fe_of {f : Nat} {fd : FuncData} (F : FunD K x x (defArgs st) (defBody st) (defScope st) [] [] f fd) (S : FnScope N ps (defScope st)) (hm : mg x = some (.ref f)) (b : Binds K fd ps []) (hsp : Meets sp N ps t)
    (hb : ∀ (f : Nat) (cdv : Value) (A : Around) (outer : List Env) (s : Shared) (H : Hp) (E : XK), Ctx (bodyX P w K mg base N x st f cdv A outer s H E) E k → PSs (bodyX P w K mg base N x st f cdv A outer s H E) (defBody st) (liftS ⟨P, w, K, mg⟩ E t)) : FE P w K mg base (k + 1) x ps sp := by
  refine ⟨f, fd, hm, F.kp, b, F.ok S (fun vs H Q E ⟨ds, M, Qd, Wd, r, m, q, _⟩ => by rw [← r.length]; exact (hsp ds M Qd Wd q).1) fun cdv A outer s H vs Q E hr ⟨ds, M, Qd, Wd, r, m, q, kt, kw⟩ => ⟨_, hb f cdv A outer s H E (ctx_body hr), ?_⟩⟩
  refine ⟨dstart N ds, M, Wd, fnEnds Qd, ⟨er_start r, m, kw⟩, (hsp ds M Qd Wd q).2, ⟨fun δ σ H' M' mr er ev ⟨M2, sb, q2⟩ => kt _ _ H' M2 (mr.sub sb) .non (ev.sub sb) q2, fun d v H' M' mr rp ev ⟨M2, sb, q2⟩ => kt d v H' M2 (mr.sub sb) rp (ev.sub sb) q2, fun _ _ _ _ _ _ _ z => z.elim, fun _ _ _ _ _ _ _ z => z.elim⟩⟩
end
end DL

set_option Elab.async false
set_option linter.all false
set_option maxRecDepth 20000
/-! DL19: the readings, step by step. -/
namespace DL
open PySem L2 PyProof.Rows
section
variable {W : DW} {En : DEnds} {δ : DS} {M : MH} {Q : DQ} {QT : Bool → MH → Prop} {QA : List D → MH → Prop} {a b c : DTE} {t : DTA} {u v : DTT} {p q : DTS}
@[simp] theorem w_seq : dSeq p q W En δ M ↔ p W { En with nx := q W En } δ M := Iff.rfl
@[simp] theorem w_next : dNext W En δ M ↔ En.nx δ M := Iff.rfl
@[simp] theorem w_drop : dDrop a W En δ M ↔ a W δ M fun _ M1 => En.nx δ M1 := Iff.rfl
@[simp] theorem w_ret : dRet a W En δ M ↔ a W δ M En.rt := Iff.rfl
@[simp] theorem w_retN : dRetN W En δ M ↔ En.rt .non M := Iff.rfl
@[simp] theorem w_if : dIf u p q W En δ M ↔ u W δ M fun b M1 => if b = true then p W En δ M1 else q W En δ M1 := Iff.rfl
@[simp] theorem w_never : dNever W En δ M ↔ False := Iff.rfl
@[simp] theorem w_asgN {i : Nat} : dAsg a (.name i) W En δ M ↔ a W δ M fun d M1 => En.nx (δ.set i (some d)) M1 := by
  constructor
  · intro h
    have e : (fun d M1 => ∃ δ', tset (.name i) d δ = some δ' ∧ En.nx δ' M1) = fun d M1 => En.nx (δ.set i (some d)) M1 := by
      funext d M1
      simp [tset]
    unfold dAsg at h
    rw [e] at h
    exact h
  · intro h
    have e : (fun d M1 => ∃ δ', tset (.name i) d δ = some δ' ∧ En.nx δ' M1) = fun d M1 => En.nx (δ.set i (some d)) M1 := by
      funext d M1
      simp [tset]
    unfold dAsg
    rw [e]
    exact h
@[simp] theorem w_asgT {ts : List Tg} : dAsg a (.tup ts) W En δ M ↔ a W δ M fun d M1 => ∃ δ', tset (.tup ts) d δ = some δ' ∧ En.nx δ' M1 := Iff.rfl
@[simp] theorem w_par {i j : Nat} : dPar i j t W En δ M ↔ t W δ M fun ds M1 => ∃ d e, ds = [d, e] ∧ En.nx ((δ.set i (some d)).set j (some e)) M1 := Iff.rfl
@[simp] theorem w_sub {r : DTSet} {te to_ ti : DTE} : dSub r te to_ ti W En δ M ↔ te W δ M fun d M1 => to_ W δ M1 fun o M2 => ti W δ M2 fun i M3 => r o i d M3 fun M4 => En.nx δ M4 := Iff.rfl
@[simp] theorem w_var0 {d : D} : dVar 0 W (some d :: δ) M Q ↔ Q d M := by simp [dVar]
@[simp] theorem w_varS {i : Nat} {x : Option D} : dVar (i + 1) W (x :: δ) M Q ↔ dVar i W δ M Q := by simp [dVar]
@[simp] theorem w_C {d : D} : dC d W δ M Q ↔ Q d M := Iff.rfl
@[simp] theorem w_bin {r : DR2} : dBin r a b W δ M Q ↔ a W δ M fun x M1 => b W δ M1 fun y M2 => r x y M2 Q := Iff.rfl
@[simp] theorem w_un {r : DR1} : dUn r a W δ M Q ↔ a W δ M fun x M1 => r x M1 Q := Iff.rfl
@[simp] theorem w_B : dB a W δ M QT ↔ a W δ M fun x M1 => ∃ b, x = .bl b ∧ QT b M1 := Iff.rfl
@[simp] theorem w_andT : dAndT u v W δ M QT ↔ u W δ M fun c M1 => if c = true then v W δ M1 QT else QT false M1 := Iff.rfl
@[simp] theorem w_orT : dOrT u v W δ M QT ↔ u W δ M fun c M1 => if c = true then QT true M1 else v W δ M1 QT := Iff.rfl
@[simp] theorem w_notT : dNotT u W δ M QT ↔ u W δ M fun c M1 => QT (!c) M1 := Iff.rfl
@[simp] theorem w_and : dAnd a b W δ M Q ↔ a W δ M fun x M1 => ∃ c, x = .bl c ∧ if c = true then b W δ M1 Q else Q (.bl false) M1 := Iff.rfl
@[simp] theorem w_or : dOr a b W δ M Q ↔ a W δ M fun x M1 => ∃ c, x = .bl c ∧ if c = true then Q (.bl true) M1 else b W δ M1 Q := Iff.rfl
@[simp] theorem w_not : dNot a W δ M Q ↔ a W δ M fun x M1 => ∃ c, x = .bl c ∧ Q (.bl (!c)) M1 := Iff.rfl
@[simp] theorem w_ife : dIfe u a b W δ M Q ↔ u W δ M fun k M1 => if k = true then a W δ M1 Q else b W δ M1 Q := Iff.rfl
@[simp] theorem w_chain {r r' : DR2} : dChain r r' a b c W δ M Q ↔ a W δ M fun x M1 => b W δ M1 fun y M2 => r x y M2 fun z M3 => ∃ k, z = .bl k ∧ if k = true then c W δ M3 fun u M4 => r' y u M4 Q else Q (.bl false) M3 := Iff.rfl
@[simp] theorem w_nil : dNil W δ M QA ↔ QA [] M := Iff.rfl
@[simp] theorem w_cons : dCons a t W δ M QA ↔ a W δ M fun x M1 => t W δ M1 fun xs M2 => QA (x :: xs) M2 := Iff.rfl
@[simp] theorem w_tup : dTup t W δ M Q ↔ t W δ M fun xs M1 => xs.length ≤ sizeLine ∧ Q (.tup xs) M1 := Iff.rfl
@[simp] theorem w_lst : dLst t W δ M Q ↔ t W δ M fun xs M1 => xs.length ≤ sizeLine ∧ ∀ p, M1 p = none → Q (.ref p) (up M1 p (.lst xs)) := Iff.rfl
@[simp] theorem w_call {sp : DSpec} : dCall sp t W δ M Q ↔ t W δ M fun xs M1 => sp xs M1 Q W := Iff.rfl
@[simp] theorem w_fn {r : DRn} : dFn r t W δ M Q ↔ t W δ M fun xs M1 => r xs M1 Q := Iff.rfl
@[simp] theorem w_sl {tl th : DTO} : dSl a tl th W δ M Q ↔ a W δ M fun x M1 => tl W δ M1 fun l M2 => th W δ M2 fun h M3 => ruleSl x l h M3 Q := Iff.rfl
@[simp] theorem w_noP {QO : Option Int → MH → Prop} : dNoP W δ M QO ↔ QO none M := Iff.rfl
@[simp] theorem w_part {QO : Option Int → MH → Prop} : dPart a W δ M QO ↔ a W δ M fun x M1 => ∃ i, x = .int i ∧ QO (some i) M1 := Iff.rfl
@[simp] theorem w_mt0 {ty : D → MH → Prop} {r : DRm} : dMt0 ty r a W δ M Q ↔ a W δ M fun x M1 => ty x M1 ∧ r x [] M1 Q := Iff.rfl
@[simp] theorem w_mt {ty : D → MH → Prop} {r : DRm} : dMt ty r a t W δ M Q ↔ a W δ M fun x M1 => ty x M1 ∧ t W δ M1 fun xs M2 => r x xs M2 Q := Iff.rfl
@[simp] theorem w_newD : dNewD W δ M Q ↔ ∀ p, M p = none → Q (.ref p) (up M p (.dct [])) := Iff.rfl
@[simp] theorem w_yes : dYes W δ M QT ↔ QT true M := Iff.rfl
@[simp] theorem w_pass : (fnEnds Q).nx δ M ↔ Fg Q .non M := Iff.rfl
@[simp] theorem w_rt {d : D} : (fnEnds Q).rt d M ↔ Fg Q d M := Iff.rfl
end
section
variable {M : MH} {Q : DQ} {i j : Int}
@[simp] theorem r_add : ruleBin .Add (.int i) (.int j) M Q ↔ Q (.int (i + j)) M := by
  simp [ruleBin, r2I, C1, rCatTD, rCatLD]
@[simp] theorem r_addT {x y : List D} : ruleBin .Add (.tup x) (.tup y) M Q ↔ x.length + y.length ≤ sizeLine ∧ Q (.tup (x ++ y)) M := by
  simp [ruleBin, r2I, C1, rCatTD, rCatLD]
theorem r_addL {x y : List D} {p q : Nat} (hp : M p = some (.lst x)) (hq : M q = some (.lst y)) (hl : x.length + y.length ≤ sizeLine) (h : ∀ r, M r = none → Q (.ref r) (up M r (.lst (x ++ y)))) : ruleBin .Add (.ref p) (.ref q) M Q := .inr ⟨p, q, x, y, rfl, rfl, hp, hq, hl, h⟩
@[simp] theorem r_subI : ruleBin .Sub (.int i) (.int j) M Q ↔ Q (.int (i - j)) M := by simp [ruleBin, r2I, C1]
theorem r_mul (h : (-(2 ^ 64) < i ∧ i < 2 ^ 64) ∨ (-(2 ^ 64) < j ∧ j < 2 ^ 64)) (q : Q (.int (i * j)) M) : ruleBin .Mult (.int i) (.int j) M Q := .inl (.inl ⟨i, j, rfl, rfl, h, q⟩)
@[simp] theorem r_mod : ruleBin .Mod (.int i) (.int j) M Q ↔ j ≠ 0 ∧ Q (.int (i.fmod j)) M := by simp [ruleBin, r2I]
theorem r_div (h0 : j ≠ 0) (h : j.natAbs < 1073741824) (q : Q (.int (i.fdiv j)) M) : ruleBin .FloorDiv (.int i) (.int j) M Q := .inl ⟨i, j, rfl, rfl, ⟨h0, h⟩, q⟩
theorem r_pow (h0 : 0 ≤ j) (h1 : j ≤ 1000000) (h2 : i.natAbs < 2 ^ 64) (q : Q (.int (i ^ j.toNat)) M) : ruleBin .Pow (.int i) (.int j) M Q := ⟨i, j, rfl, rfl, ⟨h0, h1, h2⟩, q⟩
@[simp] theorem r_neg : ruleUn .USub (.int i) M Q ↔ Q (.int (-i)) M := by simp [ruleUn]
@[simp] theorem r_lt : ruleCmp .Lt (.int i) (.int j) M Q ↔ Q (.bl (decide (i < j))) M := by
  constructor
  · rintro (⟨a, b, e1, e2, _, q⟩ | ⟨d, e, n1, n2, _, _, _, _, q⟩)
    · cases e1; cases e2; exact q
    · cases n1; cases n2
      rw [ltD, toP, toP, PySem.W.dataLt_int] at q
      exact q
  · intro q; exact .inl ⟨i, j, rfl, rfl, trivial, q⟩
@[simp] theorem r_le : ruleCmp .LtE (.int i) (.int j) M Q ↔ Q (.bl (decide (i ≤ j))) M := by simp [ruleCmp, r2I, C1]
@[simp] theorem r_gt : ruleCmp .Gt (.int i) (.int j) M Q ↔ Q (.bl (decide (j < i))) M := by simp [ruleCmp, r2I, C1]
@[simp] theorem r_ge : ruleCmp .GtE (.int i) (.int j) M Q ↔ Q (.bl (decide (j ≤ i))) M := by simp [ruleCmp, r2I, C1]
@[simp] theorem r_eqI : ruleCmp .Eq (.int i) (.int j) M Q ↔ Q (.bl (decide (i = j))) M := by
  constructor
  · rintro ⟨d, e, n1, n2, _, _, q⟩
    cases n1; cases n2
    simpa [eqD, toP, PyData.eqv, Bool.beq_eq_decide_eq] using q
  · intro q
    exact ⟨_, _, .int i, .int j, rfl, rfl, by simpa [eqD, toP, PyData.eqv, Bool.beq_eq_decide_eq] using q⟩
@[simp] theorem r_neI : ruleCmp .NotEq (.int i) (.int j) M Q ↔ Q (.bl (!decide (i = j))) M := by
  constructor
  · rintro ⟨d, e, n1, n2, _, _, q⟩
    cases n1; cases n2
    simpa [eqD, toP, PyData.eqv, Bool.beq_eq_decide_eq] using q
  · intro q
    exact ⟨_, _, .int i, .int j, rfl, rfl, by simpa [eqD, toP, PyData.eqv, Bool.beq_eq_decide_eq] using q⟩
/-- == of plain flat data -/
theorem r_eqF {x y : D} (fx : flatD x = true) (fy : flatD y = true) (px : plD x = true) (py : plD y = true) (ox : okP x = true) (oy : okP y = true) (q : Q (.bl (decide (x = y))) M) : ruleCmp .Eq x y M Q :=
  ⟨x, y, Dn.flat x fx, Dn.flat y fy, ox, oy, by rw [eqD_plain px py]; exact q⟩
theorem r_neF {x y : D} (fx : flatD x = true) (fy : flatD y = true) (px : plD x = true) (py : plD y = true) (ox : okP x = true) (oy : okP y = true) (q : Q (.bl (!decide (x = y))) M) : ruleCmp .NotEq x y M Q :=
  ⟨x, y, Dn.flat x fx, Dn.flat y fy, ox, oy, by rw [eqD_plain px py]; exact q⟩
theorem r_eqR {x y d e : D} (nx : Dn M x d) (ny : Dn M y e) (px : plD d = true) (py : plD e = true) (ox : okP d = true) (oy : okP e = true) (q : Q (.bl (decide (d = e))) M) : ruleCmp .Eq x y M Q :=
  ⟨d, e, nx, ny, ox, oy, by rw [eqD_plain px py]; exact q⟩
theorem r_neR {x y d e : D} (nx : Dn M x d) (ny : Dn M y e) (px : plD d = true) (py : plD e = true) (ox : okP d = true) (oy : okP e = true) (q : Q (.bl (!decide (d = e))) M) : ruleCmp .NotEq x y M Q :=
  ⟨d, e, nx, ny, ox, oy, by rw [eqD_plain px py]; exact q⟩
theorem atI_nat' {α : Type} (xs : List α) (n : Nat) : atI xs (n : Int) = xs[n]? := by
  cases e : xs[n]? with
  | some v => exact atI_nat e
  | none =>
    have h := List.getElem?_eq_none_iff.mp e
    unfold atI ixN
    rw [if_pos (by omega), if_neg (by omega)]
    rfl
@[simp] theorem atI_0 {α : Type} (xs : List α) : atI xs 0 = xs[0]? := atI_nat' xs 0
@[simp] theorem atI_1 {α : Type} (xs : List α) : atI xs 1 = xs[1]? := atI_nat' xs 1
@[simp] theorem atI_2 {α : Type} (xs : List α) : atI xs 2 = xs[2]? := atI_nat' xs 2
@[simp] theorem atI_n {α : Type} (xs : List α) (n : Nat) : atI xs (n : Int) = xs[n]? := atI_nat' xs n
theorem atI_m1 {α : Type} (xs : List α) : atI xs (-1) = xs.getLast? := by
  rw [List.getLast?_eq_getElem?]
  unfold atI ixN
  cases xs with
  | nil => rfl
  | cons x xs =>
    rw [if_neg (by decide), if_pos (by rw [List.length_cons]; omega)]
    show (x :: xs)[(-1 + ((x :: xs).length : Int)).toNat]? = _
    congr 1
    rw [List.length_cons]
    omega
@[simp] theorem r_ixT {ds : List D} : ruleIx (.tup ds) (.int i) M Q ↔ ∃ d, atI ds i = some d ∧ Q d M := by
  constructor
  · rintro (⟨xs, k, d, h1, h2, h3, q⟩ | ⟨a, kvs, d, e, _⟩)
    · cases h1; cases h2; exact ⟨d, h3, q⟩
    · cases e
  · rintro ⟨d, h, q⟩
    exact .inl ⟨ds, i, d, rfl, rfl, h, q⟩
@[simp] theorem r_ixC {ds : List D} : ruleIx (.cst ds) (.int i) M Q ↔ ∃ d, atI ds i = some d ∧ Q d M := by
  constructor
  · rintro (⟨xs, k, d, h1, h2, h3, q⟩ | ⟨a, kvs, d, e, _⟩)
    · cases h1; cases h2; exact ⟨d, h3, q⟩
    · cases e
  · rintro ⟨d, h, q⟩
    exact .inl ⟨ds, i, d, rfl, rfl, h, q⟩
theorem r_ixL {ds : List D} {p : Nat} {d : D} (h : M p = some (.lst ds)) (hd : atI ds i = some d) (q : Q d M) : ruleIx (.ref p) (.int i) M Q := .inl ⟨ds, i, d, by simp [itemsOf, h], rfl, hd, q⟩
theorem r_ixD {kvs : List (D × D)} {p : Nat} {k d : D} (h : IsD M p kvs) (ok : okKey k = true) (hd : aget kvs k = some d) (q : Q d M) : ruleIx (.ref p) k M Q := .inr ⟨p, kvs, d, rfl, h, ok, hd, q⟩
theorem r_setL {ds : List D} {p n : Nat} {v : D} {R : MH → Prop} (h : M p = some (.lst ds)) (hn : n < ds.length) (q : R (up M p (.lst (ds.set n v)))) : ruleSet (.ref p) (.int (n : Int)) v M R := .inl ⟨p, ds, n, n, rfl, rfl, h, by unfold ixN; rw [if_pos (by omega), if_pos (by omega)]; simp, q⟩
theorem r_setD {kvs : List (D × D)} {p : Nat} {k v : D} {R : MH → Prop} (h : M p = some (.dct kvs)) (ok : okKey k = true) (hl : kvs.length < sizeLine) (q : R (up M p (.dct (aput kvs k v)))) : ruleSet (.ref p) k v M R := .inr ⟨p, kvs, rfl, h, ok, hl, q⟩
theorem r_notInD {kvs : List (D × D)} {p : Nat} {k : D} (h : IsD M p kvs) (ok : okKey k = true) (q : Q (.bl (!(aget kvs k).isSome)) M) : ruleCmp .NotIn k (.ref p) M Q := .inr ⟨p, rfl, kvs, h, ok, by simpa using q⟩
theorem r_inD {kvs : List (D × D)} {p : Nat} {k : D} (h : IsD M p kvs) (ok : okKey k = true) (q : Q (.bl ((aget kvs k).isSome)) M) : ruleCmp .In k (.ref p) M Q := .inr ⟨p, rfl, kvs, h, ok, by simpa using q⟩
@[simp] theorem r_lenT {ds : List D} : rLenD [.tup ds] M Q ↔ Q (.int (ds.length : Nat)) M := by
  constructor
  · rintro ⟨x, n, e, h, q⟩; cases e; cases h; exact q
  · intro q; exact ⟨_, _, rfl, rfl, q⟩
theorem r_lenL {ds : List D} {p : Nat} (h : M p = some (.lst ds)) (q : Q (.int (ds.length : Nat)) M) : rLenD [.ref p] M Q := ⟨_, _, rfl, by simp [lenOf, h], q⟩
theorem r_lenD {kvs : List (D × D)} {p : Nat} (h : M p = some (.dct kvs)) (q : Q (.int (kvs.length : Nat)) M) : rLenD [.ref p] M Q := ⟨_, _, rfl, by simp [lenOf, h], q⟩
theorem r_isi {x : D} {n t : TyN} (h : tyOf M x = some t) (q : Q (.bl (isaT t n)) M) : rIsi1 [x, .ty n] M Q := ⟨x, n, t, rfl, h, q⟩
@[simp] theorem r_isiT {ds : List D} {n : TyN} : rIsi1 [.tup ds, .ty n] M Q ↔ Q (.bl (isaT .tuple n)) M := by
  constructor
  · rintro ⟨x, n, t, e, h, q⟩; cases e; cases h; exact q
  · intro q; exact r_isi rfl q
@[simp] theorem r_isiI {n : TyN} : rIsi1 [.int i, .ty n] M Q ↔ Q (.bl (isaT .int n)) M := by
  constructor
  · rintro ⟨x, n, t, e, h, q⟩; cases e; cases h; exact q
  · intro q; exact r_isi rfl q
theorem r_all {p : Nat} {ds : List D} {bs : List Bool} (h : M p = some (.lst ds)) (hb : ds = bs.map D.bl) (q : Q (.bl (bs.all id)) M) : rAllD [.ref p] M Q := by
  refine ⟨p, ds, bs, rfl, h, ?_, q⟩
  subst hb
  clear h q
  induction bs with
  | nil => rfl
  | cons b bs ih => rw [List.map_cons, boolsOf, ih]; rfl
@[simp] theorem r_tupT {x : List D} : rTupD [.tup x] M Q ↔ Q (.tup x) M := by
  constructor
  · rintro ⟨y, ds, e, h, q⟩; cases e; cases h; exact q
  · intro q; exact ⟨_, _, rfl, rfl, q⟩
theorem r_tupL {p : Nat} {ds : List D} (h : M p = some (.lst ds)) (q : Q (.tup ds) M) : rTupD [.ref p] M Q := ⟨_, ds, rfl, by simp [itemsOf, h], q⟩
theorem r_app {p : Nat} {ds : List D} {y : D} (h : M p = some (.lst ds)) (hl : ds.length < sizeLine) (q : Q .non (up M p (.lst (ds ++ [y])))) : rAppD (.ref p) [y] M Q := ⟨p, ds, y, rfl, rfl, h, hl, q⟩
theorem ty_l {p : Nat} {ds : List D} (h : M p = some (.lst ds)) : tyLst (.ref p) M := ⟨p, ds, rfl, h⟩
end
/-! ### loops -/
/-- a for loop by an invariant: P i ahead of the i-th turn -/
theorem for_inv {al : MH → Prop} {g : Tg} {tb : DTS} {En : DEnds} {items : List D} (P : Nat → DS → MH → Prop) {δ : DS} {M : MH} (h0 : P 0 δ M) (hal : ∀ i δ M, i ≤ items.length → P i δ M → al M)
    (hs : ∀ i x δ M, items[i]? = some x → P i δ M → ∃ δ', tset g x δ = some δ' ∧ ∀ N : DS → MH → Prop, (∀ δ M, P (i + 1) δ M → N δ M) → tb W0 { nx := N, ct := N, bk := En.nx, rt := En.rt } δ' M)
    (hd : ∀ δ M, P items.length δ M → En.nx δ M) : forR al g tb En items δ M := by
  suffices H : ∀ k i, k = items.length - i → i ≤ items.length → ∀ δ M, P i δ M → forR al g tb En (items.drop i) δ M by
    have z := H items.length 0 (by simp) (Nat.zero_le _) δ M h0
    rwa [List.drop_zero] at z
  intro k
  induction k with
  | zero =>
    intro i hk hi δ M p
    have e : i = items.length := by omega
    subst e
    rw [List.drop_length]
    exact ⟨hal _ _ _ hi p, hd _ _ p⟩
  | succ k ih =>
    intro i hk hi δ M p
    have hlt : i < items.length := by omega
    rw [List.drop_eq_getElem_cons hlt]
    obtain ⟨δ', h1, h2⟩ := hs i items[i] δ M (List.getElem?_eq_getElem hlt) p
    exact ⟨hal _ _ _ hi p, δ', h1, h2 _ fun δ M q => ih (i + 1) (by omega) hlt δ M q⟩
/-- a comprehension's loop by an invariant -/
theorem acc_inv {al : MH → Prop} {g : Tg} {δ : DS} {body : DBody} {items : List D} {R : List D → MH → Prop} (P : Nat → List D → MH → Prop) {acc : List D} {M : MH} (h0 : P 0 acc M) (hal : ∀ i acc M, i ≤ items.length → P i acc M → al M)
    (hs : ∀ i x acc M, items[i]? = some x → P i acc M → ∃ δ', tset g x δ = some δ' ∧ ∀ R : List D → MH → Prop, (∀ acc' M', P (i + 1) acc' M' → R acc' M') → body δ' acc M R)
    (hd : ∀ acc M, P items.length acc M → R acc M) : accR al g δ body items acc M R := by
  suffices H : ∀ k i, k = items.length - i → i ≤ items.length → ∀ acc M, P i acc M → accR al g δ body (items.drop i) acc M R by
    have z := H items.length 0 (by simp) (Nat.zero_le _) acc M h0
    rwa [List.drop_zero] at z
  intro k
  induction k with
  | zero =>
    intro i hk hi acc M p
    have e : i = items.length := by omega
    subst e
    rw [List.drop_length]
    exact ⟨hal _ _ _ hi p, hd _ _ p⟩
  | succ k ih =>
    intro i hk hi acc M p
    have hlt : i < items.length := by omega
    rw [List.drop_eq_getElem_cons hlt]
    obtain ⟨δ', h1, h2⟩ := hs i items[i] acc M (List.getElem?_eq_getElem hlt) p
    exact ⟨hal _ _ _ hi p, δ', h1, h2 _ fun acc' M' q => ih (i + 1) (by omega) hlt acc' M' q⟩
theorem accG_inv {α : Type} {al : MH → Prop} {g : Tg} {δ : DS} {bd : BD α} {items : List D} {R : α → MH → Prop} (P : Nat → α → MH → Prop) {acc : α} {M : MH} (h0 : P 0 acc M) (hal : ∀ i acc M, i ≤ items.length → P i acc M → al M)
    (hs : ∀ i x acc M, items[i]? = some x → P i acc M → ∃ δ', tset g x δ = some δ' ∧ ∀ R : α → MH → Prop, (∀ acc' M', P (i + 1) acc' M' → R acc' M') → bd δ' acc M R)
    (hd : ∀ acc M, P items.length acc M → R acc M) : accG al g δ bd items acc M R := by
  suffices H : ∀ k i, k = items.length - i → i ≤ items.length → ∀ acc M, P i acc M → accG al g δ bd (items.drop i) acc M R by
    have z := H items.length 0 (by simp) (Nat.zero_le _) acc M h0
    rwa [List.drop_zero] at z
  intro k
  induction k with
  | zero =>
    intro i hk hi acc M p
    have e : i = items.length := by omega
    subst e
    rw [List.drop_length]
    exact ⟨hal _ _ _ hi p, hd _ _ p⟩
  | succ k ih =>
    intro i hk hi acc M p
    have hlt : i < items.length := by omega
    rw [List.drop_eq_getElem_cons hlt]
    obtain ⟨δ', h1, h2⟩ := hs i items[i] acc M (List.getElem?_eq_getElem hlt) p
    exact ⟨hal _ _ _ hi p, δ', h1, h2 _ fun acc' M' q => ih (i + 1) (by omega) hlt acc' M' q⟩
end DL

set_option Elab.async false
set_option linter.all false
set_option maxRecDepth 20000
/-! DL20: comprehensions that change nothing; sources; what data are like. -/
namespace DL
open PySem L2 PyProof.Rows
theorem acc_fm {al : MH → Prop} {g : Tg} {δ : DS} {tt : DTT} {te : DTE} {items : List D} {M : MH} {R : List D → MH → Prop} (p : D → Bool) (f : D → D) (hal : al M) (hl : items.length ≤ sizeLine)
    (hs : ∀ x ∈ items, ∃ δ', tset g x δ = some δ' ∧ (∀ QT : Bool → MH → Prop, QT (p x) M → tt W0 δ' M QT) ∧ (p x = true → ∀ Q : DQ, Q (f x) M → te W0 δ' M Q)) (hR : R ((items.filter p).map f) M) : accR al g δ (body1 tt te) items [] M R := by
  refine acc_inv (fun i acc M' => acc = ((items.take i).filter p).map f ∧ M' = M) ⟨rfl, rfl⟩ (fun i acc M' _ ⟨_, e⟩ => by rw [e]; exact hal) ?_ fun acc M' ⟨e1, e2⟩ => by rw [e1, e2, List.take_length]; exact hR
  rintro i x acc M' hx ⟨rfl, rfl⟩
  obtain ⟨δ', h1, h2, h3⟩ := hs x (List.mem_of_getElem? hx)
  refine ⟨δ', h1, fun R' hR' => h2 _ ?_⟩
  have lt : i < items.length := (List.getElem?_eq_some_iff.mp hx).1
  cases e : p x with
  | false =>
    rw [if_neg (by decide)]
    refine hR' _ _ ⟨?_, rfl⟩
    rw [List.take_add_one, hx, List.filter_append]
    simp [e]
  | true =>
    rw [if_pos rfl]
    refine h3 e _ ⟨?_, hR' _ _ ⟨?_, rfl⟩⟩
    · rw [List.length_map]
      exact Nat.lt_of_lt_of_le (Nat.lt_of_le_of_lt (List.length_filter_le _ _) (by rw [List.length_take]; omega)) hl
    · rw [List.take_add_one, hx, List.filter_append, List.map_append]
      simp [e]
theorem acc_map {al : MH → Prop} {g : Tg} {δ : DS} {te : DTE} {items : List D} {M : MH} {R : List D → MH → Prop} (f : D → D) (hal : al M) (hl : items.length ≤ sizeLine)
    (hs : ∀ x ∈ items, ∃ δ', tset g x δ = some δ' ∧ ∀ Q : DQ, Q (f x) M → te W0 δ' M Q) (hR : R (items.map f) M) : accR al g δ (body1 dYes te) items [] M R :=
  acc_fm (fun _ => true) f hal hl (fun x hx => let ⟨δ', h1, h2⟩ := hs x hx; ⟨δ', h1, fun QT q => q, fun _ => h2⟩) (by rw [List.filter_eq_self.mpr fun _ _ => rfl]; exact hR)
section
variable {W : DW} {δ : DS} {M : MH} {R : List D → (MH → Prop) → MH → Prop} {a : DTE} {t : DTA}
@[simp] theorem i_seq : diSeq a W δ M R ↔ a W δ M fun x M1 => ∃ ds, itemsOf M1 x = some ds ∧ R ds (still M1 x) M1 := Iff.rfl
@[simp] theorem i_r1 : diR1 t W δ M R ↔ t W δ M fun xs M1 => ∃ j : Int, xs = [.int j] ∧ -(2 ^ 62) ≤ j ∧ j < 2 ^ 62 ∧ R (rng 0 j.toNat) (fun _ => True) M1 := Iff.rfl
@[simp] theorem i_r2 : diR2 t W δ M R ↔ t W δ M fun xs M1 => ∃ i j : Int, xs = [.int i, .int j] ∧ (-(2 ^ 62) ≤ i ∧ i < 2 ^ 62 ∧ -(2 ^ 62) ≤ j ∧ j < 2 ^ 62) ∧ R (rng i (j - i).toNat) (fun _ => True) M1 := Iff.rfl
@[simp] theorem i_enum : diEnum t W δ M R ↔ t W δ M fun xs M1 => ∃ x ds, xs = [x] ∧ itemsOf M1 x = some ds ∧ R (enumD 0 ds) (still M1 x) M1 := Iff.rfl
@[simp] theorem i_zip : diZip t W δ M R ↔ t W δ M fun xs M1 => ∃ x y ds es, xs = [x, y] ∧ itemsOf M1 x = some ds ∧ itemsOf M1 y = some es ∧ R (zipD ds es) (fun M' => still M1 x M' ∧ still M1 y M') M1 := Iff.rfl
@[simp] theorem i_dict : diDict a W δ M R ↔ a W δ M fun x M1 => ∃ p kvs, x = .ref p ∧ M1 p = some (.rdc kvs) ∧ R (akeys kvs) (fun M' => M' p = some (.rdc kvs)) M1 := Iff.rfl
@[simp] theorem itemsT {ds : List D} : itemsOf M (.tup ds) = some ds := rfl
@[simp] theorem itemsC {ds : List D} : itemsOf M (.cst ds) = some ds := rfl
theorem itemsL {p : Nat} {ds : List D} (h : M p = some (.lst ds)) : itemsOf M (.ref p) = some ds := by simp [itemsOf, h]
@[simp] theorem stillT {ds : List D} {M' : MH} : still M (.tup ds) M' := trivial
@[simp] theorem stillC {ds : List D} {M' : MH} : still M (.cst ds) M' := trivial
variable {Q : DQ} {it : DTI} {g : Tg} {tt : DTT} {te : DTE} {vs : List Nat}
@[simp] theorem w_lc : dLc it g tt te vs W δ M Q ↔ it W δ M fun items al M1 => accR al g (wipeD δ vs) (body1 tt te) items [] M1 fun acc M2 => ∀ p, M2 p = none → Q (.ref p) (up M2 p (.lst acc)) := Iff.rfl
@[simp] theorem w_cg {α : Type} {bd : BD α} {acc0 : α} {mo : α → MO} : dCg it g tt bd acc0 mo vs W δ M Q ↔ it W δ M fun items al M1 => accG al g (wipeD δ vs) (thenB tt bd) items acc0 M1 fun acc M2 => ∀ p, M2 p = none → Q (.ref p) (up M2 p (mo acc)) := Iff.rfl
@[simp] theorem w_for {En : DEnds} {tb : DTS} : dFor it g tb W En δ M ↔ it W0 δ M fun items al M1 => forR al g tb En items δ M1 := Iff.rfl
@[simp] theorem w_while {En : DEnds} {c : DTT} {tb : DTS} : dWhile c tb W En δ M ↔ ∃ I : Nat → DS → MH → Prop, (∃ n, I n δ M) ∧ ∀ n δ M, I n δ M → c W0 δ M fun b M1 =>
  if b = true then tb W0 { nx := fun δ' M' => ∃ m, m < n ∧ I m δ' M', ct := fun δ' M' => ∃ m, m < n ∧ I m δ' M', bk := En.nx, rt := En.rt } δ M1 else En.nx δ M1 := Iff.rfl
@[simp] theorem w_lockE : dLockE a W δ M Q ↔ ∃ p kvs, M p = some (.dct kvs) ∧ a W δ (up M p (.rdc kvs)) fun d M' => M' p = some (.rdc kvs) ∧ Q d (up M' p (.dct kvs)) := Iff.rfl
end
/-! ### what data are like -/
/-- to depth k, of whole numbers, None and texts that are short -/
def smallD : Nat → D → Bool
  | _, .non => true
  | _, .int _ => true
  | _, .bl _ => true
  | 0, _ => false
  | k + 1, .tup ds => ds.all (smallD k)
  | k + 1, .cst ds => ds.all (smallD k)
  | _ + 1, _ => false
theorem small_lay : ∀ (k : Nat) (d : D), smallD k d = true → (toP d).canLay0 = true ∧ (toP d).depth ≤ k := by
  have alls : ∀ (k : Nat) (ds : List D), (∀ d ∈ ds, (toP d).canLay0 = true ∧ (toP d).depth ≤ k) → PyData.canLayAll0 (toPs ds) = true ∧ PyData.depthAll (toPs ds) ≤ k := by
    intro k ds
    induction ds with
    | nil => intro _; exact ⟨by simp [toPs, PyData.canLayAll0], by simp [toPs, PyData.depthAll]⟩
    | cons d ds ih =>
      intro h
      have h1 := h d List.mem_cons_self
      have h2 := ih fun e he => h e (List.mem_cons_of_mem _ he)
      rw [toPs]
      refine ⟨by simp [PyData.canLayAll0, h1.1, h2.1], ?_⟩
      simp only [PyData.depthAll]
      have := h1.2
      have := h2.2
      omega
  intro k
  induction k with
  | zero => intro d h; cases d <;> first | (exfalso; simp [smallD] at h; done) | exact ⟨by simp [toP, PyData.canLay0], by simp [toP, PyData.depth]⟩
  | succ k ih =>
    intro d h
    cases d with
    | tup ds =>
      have z := alls k ds fun e he => ih e (List.all_eq_true.mp h e he)
      exact ⟨by simp [toP, PyData.canLay0, z.1], by simp only [toP, PyData.depth]; have := z.2; omega⟩
    | cst ds =>
      have z := alls k ds fun e he => ih e (List.all_eq_true.mp h e he)
      exact ⟨by simp [toP, PyData.canLay0, z.1], by simp only [toP, PyData.depth]; have := z.2; omega⟩
    | non => exact ⟨by simp [toP, PyData.canLay0], by simp [toP, PyData.depth]⟩
    | bl b => exact ⟨by simp [toP, PyData.canLay0], by simp [toP, PyData.depth]⟩
    | int i => exact ⟨by simp [toP, PyData.canLay0], by simp [toP, PyData.depth]⟩
    | _ => cases h
theorem ok_small {k : Nat} {d : D} (h : smallD k d = true) (hk : k ≤ 64) : okP d = true := by
  obtain ⟨h1, h2⟩ := small_lay k d h
  show (PyData.canLay0 (toP d) && decide (PyData.depth (toP d) ≤ 64)) = true
  rw [h1, decide_eq_true (by omega)]
  rfl
theorem flatDs_all : ∀ ds : List D, flatDs ds = ds.all flatD
  | [] => rfl
  | d :: ds => by rw [flatDs, flatDs_all ds]; rfl
theorem plDs_all : ∀ ds : List D, plDs ds = ds.all plD
  | [] => rfl
  | d :: ds => by rw [plDs, plDs_all ds]; rfl
theorem rng_eq (n : Nat) : rng 0 n = (List.range n).map fun (i : Nat) => D.int (i : Int) := by
  unfold rng
  refine List.map_congr_left fun i _ => ?_
  rw [Int.zero_add]
theorem Sub.up {M M' : MH} {p : Nat} {o : MO} (s : Sub M M') (h : M p = none) : Sub M (DL.up M' p o) := fun a u e => by
  rw [up_ne (by intro z; rw [z, h] at e; cases e)]; exact s a u e
theorem Sub.none {M M' : MH} {p : Nat} (s : Sub M M') (h : M' p = none) : M p = none := by
  cases e : M p with
  | none => rfl
  | some o => rw [s p o e] at h; cases h
end DL

set_option Elab.async false
set_option linter.all false
set_option maxRecDepth 20000
/-! DL21: a list from its end: reversed(list), list[::-1]. -/
namespace DL
open PySem L2 PyProof.Rows
theorem Rps.rev {K : PySem.W.Frag} {H : Hp} {ds : List D} {vs : List V} (r : Rps K H ds vs) : Rps K H ds.reverse vs.reverse := by
  induction ds generalizing vs with
  | nil => cases r; exact .nil
  | cons d ds ih =>
    cases r with
    | cons r1 r2 =>
      rw [List.reverse_cons, List.reverse_cons]
      exact (ih r2).append (.cons r1 .nil)
def diRev (t : DTE) : DTI := fun W δ M R => t W δ M fun x M1 => ∃ a ds, x = .ref a ∧ M1 a = some (.lst ds) ∧ R ds.reverse (fun M' => M' a = some (.lst ds)) M1
def dRevL (t : DTE) : DTE := fun W δ M Q => t W δ M fun x M1 => ∃ a ds, x = .ref a ∧ M1 a = some (.lst ds) ∧ ∀ p, M1 p = none → Q (.ref p) (up M1 p (.lst ds.reverse))
section
variable {X : Cx} {W : XK} {pos : Pos}
theorem wk_rev {g : G} {H : Hp} {M : MH} {a : Nat} {ds : List D} : Wk g H M (Itv g.K a ds.length) ds.reverse (fun M' => M' a = some (.lst ds)) where
  go := fun i H' M' m e al hi => by
    rw [List.length_reverse] at hi
    obtain ⟨vs, h1, r⟩ := m.list al
    have hl := r.length
    obtain ⟨v, hv, _⟩ := r.get (i := ds.length - 1 - i) (d := ds[ds.length - 1 - i]'(by omega)) (by rw [List.getElem?_eq_getElem])
    exact ⟨hi, vs, v, .of h1, hv⟩
  stop := fun H' M' m e al => by
    show ds.length ≤ ds.reverse.length
    rw [List.length_reverse]
    exact Nat.le_refl _
  yld := fun i H' M' x H2 d m e al y hd => by
    obtain ⟨vs, h1, r⟩ := m.list al
    obtain ⟨e2, y2⟩ := y
    subst e2
    have hi := (List.getElem?_eq_some_iff.mp hd).1
    rw [List.length_reverse] at hi
    rw [List.getElem?_reverse hi] at hd
    obtain ⟨v, hv, rv⟩ := r.get hd
    have z := y2 vs (.of h1)
    rw [hv] at z
    cases z
    exact ⟨m, Ev.refl _ _, rv⟩
theorem irev {tg e : Expr} {t : DTE} {p : Pos} (hm : X.mg "reversed" = none) (ha : PE X e (liftE (gOf X) W t)) (hg : Gl X "reversed" := by rfl) (hs : starEach [e] X.env = (false, eval e X.env) :: starEach [] X.env := by rfl) : PI X tg (.Call (.Name "reversed" p) [e] [] pos) (liftI (gOf X) W (diRev t)) :=
  pi_imp (RT.pi_revA hg hm ha hs) fun σ H R ⟨δ, M, Wd, Rd, at_, q, k⟩ => ⟨δ, M, Wd, _, at_, q, fun d v H1 M1 m1 r1 e1 ⟨a, ds, ed, h1, q1⟩ => by
    subst ed
    cases r1
    obtain ⟨vs, h2, r⟩ := m1.list h1
    refine ⟨a, vs, rfl, .inl ⟨.of h2, ?_⟩⟩
    rw [← r.length]
    exact k _ _ _ H1 M1 m1 e1 wk_rev q1⟩
theorem de_revL {e : Expr} {t : DTE} {k : Nat} {p1 p2 p3 pos : Pos} (ha : PE X e (liftE (gOf X) W t)) : PE X (.Subscript e (.Slice none none (some (.UnaryOp .USub (.Constant (.int 1) k p1) p2)) p3) pos) (liftE (gOf X) W (dRevL t)) :=
  pe_imp (pe_revL ha) fun σ H Q ⟨δ, M, Wd, Qd, at_, q, k⟩ => ⟨δ, M, Wd, _, at_, q, fun d v H1 M1 m1 r1 e1 ⟨a, ds, ed, h1, q1⟩ => by
    subst ed
    cases r1
    obtain ⟨vs, h2, r⟩ := m1.list h1
    exact ⟨a, vs, rfl, .of h2, fun n hn => k.fwd e1 _ _ _ _ (m1.newL hn r.rev) (.ref n) (Ev.up hn) (q1 n (m1.free hn))⟩⟩
@[simp] theorem w_revL {t : DTE} {W : DW} {δ : DS} {M : MH} {Q : DQ} : dRevL t W δ M Q ↔ t W δ M fun x M1 => ∃ a ds, x = .ref a ∧ M1 a = some (.lst ds) ∧ ∀ p, M1 p = none → Q (.ref p) (up M1 p (.lst ds.reverse)) := Iff.rfl
@[simp] theorem i_rev {t : DTE} {W : DW} {δ : DS} {M : MH} {R : List D → (MH → Prop) → MH → Prop} : diRev t W δ M R ↔ t W δ M fun x M1 => ∃ a ds, x = .ref a ∧ M1 a = some (.lst ds) ∧ R ds.reverse (fun M' => M' a = some (.lst ds)) M1 := Iff.rfl
end
end DL

set_option Elab.async false
set_option linter.all false
set_option maxRecDepth 20000
/-! A0: works, lots, spots in plain Lean. -/
namespace RD
open PySem DL
abbrev Sp := Nat × Nat
structure Wo where
  rings : List Nat
  doors : List (Sp × Sp)
def eN (n : Nat) : D := .int (n : Nat)
def eS (s : Sp) : D := .tup [.int (s.1 : Nat), .int (s.2 : Nat)]
def eD (d : Sp × Sp) : D := .tup [eS d.1, eS d.2]
def eL (l : List Nat) : D := .tup (l.map eN)
def eW (w : Wo) : D := .tup [eL w.rings, .tup (w.doors.map eD)]
def eT (st : List (List Nat)) : D := .tup (st.map eL)
def onR (rings : List Nat) (s : Sp) : Prop := ∃ n, rings[s.1]? = some n ∧ s.2 < n
def spLt (a b : Sp) : Prop := a.1 < b.1 ∨ a.1 = b.1 ∧ a.2 < b.2
def drLt (d e : Sp × Sp) : Prop := spLt d.1 e.1 ∨ d.1 = e.1 ∧ spLt d.2 e.2
instance : DecidableRel spLt := fun a b => by unfold spLt; infer_instance
instance : DecidableRel drLt := fun a b => by unfold drLt; infer_instance
def Asc {α : Type} (lt : α → α → Prop) (l : List α) : Prop := ∀ i a b, l[i]? = some a → l[i + 1]? = some b → lt a b
def ends (ds : List (Sp × Sp)) : List Sp := ds.flatMap fun d => [d.1, d.2]
structure GoodW (w : Wo) : Prop where
  l1 : 1 ≤ w.rings.length
  l4 : w.rings.length ≤ 4
  each : ∀ n ∈ w.rings, 1 ≤ n ∧ n ≤ 40
  sum : w.rings.sum ≤ 100
  dl : w.doors.length ≤ 6
  on : ∀ d ∈ w.doors, onR w.rings d.1 ∧ onR w.rings d.2 ∧ d.1.1 < d.2.1
  asc : Asc drLt w.doors
  nd : (ends w.doors).Nodup
structure GoodL (w : Wo) (l : List Nat) : Prop where
  lt : ∀ i ∈ l, i < w.doors.length
  asc : Asc (· < ·) l
/-! ### spots -/
def spotsFrom : Nat → List Nat → List Sp
  | _, [] => []
  | r, n :: ns => (List.range n).map (fun p => (r, p)) ++ spotsFrom (r + 1) ns
def spotsOf (rings : List Nat) : List Sp := spotsFrom 0 rings
theorem mem_from {s : Sp} : ∀ {ns : List Nat} {r : Nat}, s ∈ spotsFrom r ns ↔ r ≤ s.1 ∧ onR ns (s.1 - r, s.2)
  | [], r => by simp [spotsFrom, onR]
  | n :: ns, r => by
    rw [spotsFrom, List.mem_append, mem_from (ns := ns)]
    constructor
    · rintro (h | ⟨h1, m, h2, h3⟩)
      · obtain ⟨p, hp, rfl⟩ := List.mem_map.mp h
        rw [List.mem_range] at hp
        exact ⟨Nat.le_refl _, n, by simp, hp⟩
      · refine ⟨by omega, m, ?_, h3⟩
        have e : s.1 - r = (s.1 - (r + 1)) + 1 := by omega
        show (n :: ns)[s.1 - r]? = some m
        rw [e, List.getElem?_cons_succ]
        exact h2
    · rintro ⟨h1, m, h2, h3⟩
      by_cases e : s.1 = r
      · left
        have h2 : (n :: ns)[s.1 - r]? = some m := h2
        rw [e, Nat.sub_self] at h2
        simp at h2
        subst h2
        exact List.mem_map.mpr ⟨s.2, List.mem_range.mpr h3, by rw [← e]⟩
      · right
        refine ⟨by omega, m, ?_, h3⟩
        have e : s.1 - r = (s.1 - (r + 1)) + 1 := by omega
        have h2 : (n :: ns)[s.1 - r]? = some m := h2
        rw [e, List.getElem?_cons_succ] at h2
        exact h2
theorem mem_spots {s : Sp} {rings : List Nat} : s ∈ spotsOf rings ↔ onR rings s := by
  rw [spotsOf, mem_from]
  simp
theorem from_len : ∀ (ns : List Nat) (r : Nat), (spotsFrom r ns).length = ns.sum
  | [], _ => rfl
  | n :: ns, r => by rw [spotsFrom, List.length_append, List.length_map, List.length_range, from_len, List.sum_cons]
theorem spots_len (rings : List Nat) : (spotsOf rings).length = rings.sum := from_len rings 0
theorem from_nd : ∀ (ns : List Nat) (r : Nat), (spotsFrom r ns).Nodup
  | [], _ => List.nodup_nil
  | n :: ns, r => by
    rw [spotsFrom, List.nodup_append]
    refine ⟨?_, from_nd ns (r + 1), ?_⟩
    · refine List.Pairwise.map _ ?_ (List.nodup_range (n := n))
      intro a b h e
      exact h (congrArg Prod.snd e)
    · rintro a ha b hb rfl
      obtain ⟨p, hp, e⟩ := List.mem_map.mp ha
      have := (mem_from.mp hb).1
      rw [← e] at this
      simp at this
      omega
theorem spots_nd (rings : List Nat) : (spotsOf rings).Nodup := from_nd rings 0
/-! ### a tick -/
def turn (rings : List Nat) (s : Sp) : Sp := (s.1, (s.2 + 1) % (rings[s.1]?.getD 1))
def thr (doors : List (Sp × Sp)) : List Nat → Sp → Sp
  | [], s => s
  | i :: l, s => match doors[i]? with
    | some d => if s = d.1 then d.2 else if s = d.2 then d.1 else thr doors l s
    | none => s
def step (w : Wo) (l : List Nat) (s : Sp) : Sp := turn w.rings (thr w.doors l s)
theorem turn_on {rings : List Nat} {s : Sp} (h : onR rings s) : onR rings (turn rings s) := by
  obtain ⟨n, h1, h2⟩ := h
  exact ⟨n, h1, by unfold turn; rw [h1]; show (s.2 + 1) % n < n; exact Nat.mod_lt _ (by omega)⟩
theorem turn_inj {rings : List Nat} {s t : Sp} (hs : onR rings s) (ht : onR rings t) (e : turn rings s = turn rings t) : s = t := by
  obtain ⟨n, h1, h2⟩ := hs
  obtain ⟨m, h3, h4⟩ := ht
  unfold turn at e
  have e1 := congrArg Prod.fst e
  have e2 := congrArg Prod.snd e
  simp only at e1 e2
  rw [e1] at h1
  rw [h1] at h3
  cases h3
  rw [e1, h1] at e2
  simp only [Option.getD_some] at e2
  have z : ∀ a b : Nat, a < n → b < n → (a + 1) % n = (b + 1) % n → a = b := by
    intro a b ha hb h
    by_cases ca : a + 1 = n
    · by_cases cb : b + 1 = n
      · omega
      · rw [ca, Nat.mod_self, Nat.mod_eq_of_lt (by omega)] at h; omega
    · by_cases cb : b + 1 = n
      · rw [cb, Nat.mod_self, Nat.mod_eq_of_lt (by omega)] at h; omega
      · rw [Nat.mod_eq_of_lt (by omega), Nat.mod_eq_of_lt (by omega)] at h; omega
  exact Prod.ext e1 (z _ _ h2 h4 e2)
theorem mem_ends {ds : List (Sp × Sp)} {d : Sp × Sp} (h : d ∈ ds) : d.1 ∈ ends ds ∧ d.2 ∈ ends ds := by
  unfold ends
  exact ⟨List.mem_flatMap.mpr ⟨d, h, by simp⟩, List.mem_flatMap.mpr ⟨d, h, by simp⟩⟩
/-- a spot stands at one door only -/
theorem ends_uniq : ∀ {ds : List (Sp × Sp)}, (ends ds).Nodup → ∀ {i j : Nat} {d e : Sp × Sp} {s : Sp}, ds[i]? = some d → ds[j]? = some e → (s = d.1 ∨ s = d.2) → (s = e.1 ∨ s = e.2) → i = j
  | [], _, _, _, _, _, _, h, _, _, _ => by simp at h
  | x :: ds, nd, i, j, d, e, s, hi, hj, hd, he => by
    have e0 : ends (x :: ds) = [x.1, x.2] ++ ends ds := rfl
    rw [e0, List.nodup_append] at nd
    obtain ⟨_, n2, n3⟩ := nd
    have inx : ∀ {k : Nat} {y : Sp × Sp}, ds[k]? = some y → (s = y.1 ∨ s = y.2) → s ∈ ends ds := fun {k y} hk hy => by
      have hm := mem_ends (List.mem_of_getElem? hk)
      rcases hy with z | z
      · rw [z]; exact hm.1
      · rw [z]; exact hm.2
    have atx : (s = x.1 ∨ s = x.2) → s ∈ [x.1, x.2] := fun h => by rcases h with z | z <;> simp [z]
    cases i with
    | zero =>
      cases j with
      | zero => rfl
      | succ j =>
        simp at hi hj
        subst hi
        exact absurd rfl (n3 s (atx hd) s (inx hj he))
    | succ i =>
      cases j with
      | zero =>
        simp at hi hj
        subst hj
        exact absurd rfl (n3 s (atx he) s (inx hi hd))
      | succ j =>
        simp at hi hj
        rw [ends_uniq n2 hi hj hd he]
theorem thr_no {doors : List (Sp × Sp)} {s : Sp} : ∀ {l : List Nat}, (∀ i ∈ l, ∀ d, doors[i]? = some d → s ≠ d.1 ∧ s ≠ d.2) → thr doors l s = s
  | [], _ => rfl
  | i :: l, h => by
    rw [thr]
    cases e : doors[i]? with
    | none => rfl
    | some d =>
      have z := h i List.mem_cons_self d e
      show (if s = d.1 then d.2 else if s = d.2 then d.1 else thr doors l s) = s
      rw [if_neg z.1, if_neg z.2]
      exact thr_no fun j hj => h j (List.mem_cons_of_mem _ hj)
/-- the door that is gone through -/
theorem thr_at {doors : List (Sp × Sp)} (nd : (ends doors).Nodup) {s : Sp} {k : Nat} {d : Sp × Sp} (hd : doors[k]? = some d) (hs : s = d.1 ∨ s = d.2) : ∀ {l : List Nat}, (∀ i ∈ l, i < doors.length) → k ∈ l → thr doors l s = if s = d.1 then d.2 else d.1
  | [], _, hk => by cases hk
  | i :: l, hl, hk => by
    rw [thr]
    have hi := hl i List.mem_cons_self
    rw [List.getElem?_eq_getElem hi]
    show (if s = doors[i].1 then doors[i].2 else if s = doors[i].2 then doors[i].1 else thr doors l s) = _
    by_cases e : i = k
    · subst e
      rw [List.getElem?_eq_getElem hi] at hd
      cases hd
      rcases hs with z | z
      · rw [if_pos z, if_pos z]
      · by_cases c : s = doors[i].1
        · rw [if_pos c, if_pos c]
        · rw [if_neg c, if_pos z, if_neg c]
    · have no : ¬ (s = doors[i].1 ∨ s = doors[i].2) := fun c => e (ends_uniq nd (List.getElem?_eq_getElem hi) hd c hs)
      rw [if_neg fun c => no (.inl c), if_neg fun c => no (.inr c)]
      exact thr_at nd hd hs (fun j hj => hl j (List.mem_cons_of_mem _ hj)) ((List.mem_cons.mp hk).resolve_left fun c => e c.symm)
theorem thr_cases {w : Wo} {l : List Nat} (g : GoodW w) (gl : GoodL w l) (s : Sp) : (thr w.doors l s = s ∧ ∀ i ∈ l, ∀ d, w.doors[i]? = some d → s ≠ d.1 ∧ s ≠ d.2) ∨ ∃ k d, k ∈ l ∧ w.doors[k]? = some d ∧ (s = d.1 ∨ s = d.2) ∧ thr w.doors l s = if s = d.1 then d.2 else d.1 := by
  by_cases h : ∃ k ∈ l, ∃ d, w.doors[k]? = some d ∧ (s = d.1 ∨ s = d.2)
  · obtain ⟨k, hk, d, hd, hs⟩ := h
    exact .inr ⟨k, d, hk, hd, hs, thr_at g.nd hd hs gl.lt hk⟩
  · have no : ∀ i ∈ l, ∀ d, w.doors[i]? = some d → s ≠ d.1 ∧ s ≠ d.2 := fun i hi d hd => ⟨fun c => h ⟨i, hi, d, hd, .inl c⟩, fun c => h ⟨i, hi, d, hd, .inr c⟩⟩
    exact .inl ⟨thr_no no, no⟩
theorem thr_on {w : Wo} {l : List Nat} (g : GoodW w) (gl : GoodL w l) {s : Sp} (h : onR w.rings s) : onR w.rings (thr w.doors l s) := by
  rcases thr_cases g gl s with ⟨e, _⟩ | ⟨k, d, hk, hd, hs, e⟩
  · rw [e]; exact h
  · rw [e]
    have z := g.on d (List.mem_of_getElem? hd)
    split
    · exact z.2.1
    · exact z.1
theorem thr_thr {w : Wo} {l : List Nat} (g : GoodW w) (gl : GoodL w l) (s : Sp) : thr w.doors l (thr w.doors l s) = s := by
  rcases thr_cases g gl s with ⟨e, _⟩ | ⟨k, d, hk, hd, hs, e⟩
  · rw [e, e]
  · have ne : d.1 ≠ d.2 := fun c => by
      have z := (g.on d (List.mem_of_getElem? hd)).2.2
      rw [c] at z
      exact Nat.lt_irrefl _ z
    rw [e]
    by_cases c : s = d.1
    · rw [if_pos c, thr_at g.nd hd (.inr rfl) gl.lt hk, if_neg ne.symm, c]
    · rw [if_neg c, thr_at g.nd hd (.inl rfl) gl.lt hk, if_pos rfl]
      exact (hs.resolve_left c).symm
theorem step_on {w : Wo} {l : List Nat} (g : GoodW w) (gl : GoodL w l) {s : Sp} (h : onR w.rings s) : onR w.rings (step w l s) := turn_on (thr_on g gl h)
theorem step_inj {w : Wo} {l : List Nat} (g : GoodW w) (gl : GoodL w l) {s t : Sp} (hs : onR w.rings s) (ht : onR w.rings t) (e : step w l s = step w l t) : s = t := by
  have z := turn_inj (thr_on g gl hs) (thr_on g gl ht) e
  rw [← thr_thr g gl s, z, thr_thr g gl t]
end RD

set_option Elab.async false
set_option linter.all false
set_option maxRecDepth 20000
/-! A1: rounds of a one-to-one step on a list of spots. -/
namespace RD
open PySem DL
section
variable {α : Type} [DecidableEq α]
def it (f : α → α) : Nat → α → α
  | 0, s => s
  | n + 1, s => it f n (f s)
theorem it_succ (f : α → α) : ∀ (n : Nat) (s : α), it f (n + 1) s = f (it f n s)
  | 0, s => rfl
  | n + 1, s => by rw [it, it_succ f n (f s)]; rfl
theorem it_add (f : α → α) (m : Nat) : ∀ (n : Nat) (s : α), it f (n + m) s = it f m (it f n s)
  | 0, s => by rw [Nat.zero_add]; rfl
  | n + 1, s => by
    have e : n + 1 + m = (n + m) + 1 := by omega
    rw [e, it, it_add f m n (f s)]; rfl
theorem it_mul (f : α → α) {n : Nat} {s : α} (h : it f n s = s) : ∀ k, it f (k * n) s = s
  | 0 => by rw [Nat.zero_mul]; rfl
  | k + 1 => by rw [Nat.succ_mul, it_add, it_mul f h k, h]
theorem it_mod (f : α → α) {n : Nat} {s : α} (h : it f n s = s) (k : Nat) : it f k s = it f (k % n) s := by
  have e : k = k / n * n + k % n := by rw [Nat.mul_comm]; exact (Nat.div_add_mod k n).symm
  have z : it f (k / n * n + k % n) s = it f (k % n) s := by rw [it_add, it_mul f h]
  rw [← e] at z
  exact z
/-- a one-to-one step on S -/
structure Perm (f : α → α) (S : List α) : Prop where
  nd : S.Nodup
  on : ∀ s ∈ S, f s ∈ S
  inj : ∀ s ∈ S, ∀ t ∈ S, f s = f t → s = t
variable {f : α → α} {S : List α}
theorem Perm.it_on (h : Perm f S) : ∀ (n : Nat) {s : α}, s ∈ S → it f n s ∈ S
  | 0, _, hs => hs
  | n + 1, _, hs => h.it_on n (h.on _ hs)
theorem Perm.it_inj (h : Perm f S) : ∀ (n : Nat) {s t : α}, s ∈ S → t ∈ S → it f n s = it f n t → s = t
  | 0, _, _, _, _, e => e
  | n + 1, s, t, hs, ht, e => h.inj s hs t ht (h.it_inj n (h.on _ hs) (h.on _ ht) e)
theorem len_of_sub : ∀ {l S : List α}, l.Nodup → (∀ x ∈ l, x ∈ S) → l.length ≤ S.length
  | [], _, _, _ => Nat.zero_le _
  | x :: l, S, nd, sub => by
    have nd' := List.nodup_cons.mp nd
    have hx := sub x List.mem_cons_self
    have z := len_of_sub (l := l) (S := S.erase x) nd'.2 fun y hy => (List.mem_erase_of_ne (fun c => nd'.1 (by rw [← c]; exact hy))).mpr (sub y (List.mem_cons_of_mem _ hy))
    rw [List.length_erase_of_mem hx] at z
    have p := List.length_pos_of_mem hx
    rw [List.length_cons]
    omega
/-- it comes back -/
theorem Perm.back (h : Perm f S) {s : α} (hs : s ∈ S) : ∃ n, 1 ≤ n ∧ n ≤ S.length ∧ it f n s = s := by
  apply Classical.byContradiction
  intro no
  have nd : ((List.range (S.length + 1)).map fun n => it f n s).Nodup := by
    rw [List.nodup_iff_pairwise_ne, List.pairwise_map]
    have lt : List.Pairwise (· < ·) (List.range (S.length + 1)) := List.pairwise_lt_range
    refine List.Pairwise.imp_of_mem ?_ lt
    intro i j hi hj hij e
    rw [List.mem_range] at hj
    have ej : j = (j - i) + i := by omega
    rw [ej, it_add] at e
    have z := h.it_inj i hs (h.it_on (j - i) hs) e
    exact no ⟨j - i, by omega, by omega, z.symm⟩
  have z := len_of_sub nd (S := S) fun x hx => by
    obtain ⟨n, _, rfl⟩ := List.mem_map.mp hx
    exact h.it_on n hs
  rw [List.length_map, List.length_range] at z
  omega
/-- the least number of steps back (looked for up to N) -/
def per (f : α → α) (s : α) (N : Nat) : Nat := (((List.range N).find? fun k => decide (it f (k + 1) s = s)).getD 0) + 1
def cyc (f : α → α) (N : Nat) (s : α) : List α := (List.range (per f s N)).map fun k => it f k s
theorem Perm.per_back (h : Perm f S) {s : α} (hs : s ∈ S) : it f (per f s S.length) s = s := by
  obtain ⟨n, h1, h2, h3⟩ := h.back hs
  unfold per
  cases e : (List.range S.length).find? fun k => decide (it f (k + 1) s = s) with
  | none =>
    have z := List.find?_eq_none.mp e (n - 1) (List.mem_range.mpr (by omega))
    have en : n - 1 + 1 = n := by omega
    rw [en] at z
    exact absurd (decide_eq_true h3) z
  | some k =>
    have z := List.find?_some e
    exact of_decide_eq_true z
theorem Perm.per_least (h : Perm f S) {s : α} (hs : s ∈ S) {k : Nat} (h1 : 1 ≤ k) (h2 : k < per f s S.length) : it f k s ≠ s := by
  intro e
  unfold per at h2
  cases q : (List.range S.length).find? fun k => decide (it f (k + 1) s = s) with
  | none => rw [q] at h2; simp at h2; omega
  | some j =>
    rw [q] at h2
    simp only [Option.getD_some] at h2
    obtain ⟨_, as, bs, e1, e2⟩ := List.find?_eq_some_iff_append.mp q
    have lj : as.length = j := by
      have z : (List.range S.length)[as.length]? = some j := by rw [e1]; simp
      rw [List.getElem?_range] at z
      · exact Option.some.inj z
      · have := congrArg List.length e1
        simp at this
        omega
    have z : (List.range S.length)[k - 1]? = some (k - 1) := by
      have hl := congrArg List.length e1
      simp at hl
      rw [List.getElem?_range (by omega)]
    have ma : k - 1 ∈ as := by
      have z2 : (as ++ j :: bs)[k - 1]? = some (k - 1) := by rw [← e1]; exact z
      rw [List.getElem?_append_left (by omega)] at z2
      exact List.mem_of_getElem? z2
    have y := e2 _ ma
    have ek : k - 1 + 1 = k := by omega
    rw [ek] at y
    simp [e] at y
theorem per_pos (f : α → α) (s : α) (N : Nat) : 1 ≤ per f s N := Nat.succ_pos _
theorem cyc_len (f : α → α) (N : Nat) (s : α) : (cyc f N s).length = per f s N := by rw [cyc, List.length_map, List.length_range]
theorem cyc_get {N : Nat} {s : α} {k : Nat} (h : k < per f s N) : (cyc f N s)[k]? = some (it f k s) := by
  rw [cyc, List.getElem?_map, List.getElem?_range h]; rfl
theorem Perm.cyc_nd (h : Perm f S) {s : α} (hs : s ∈ S) : (cyc f S.length s).Nodup := by
  unfold cyc
  rw [List.nodup_iff_pairwise_ne, List.pairwise_map]
  refine List.Pairwise.imp_of_mem ?_ (List.pairwise_lt_range (n := per f s S.length))
  intro i j hi hj hij e
  rw [List.mem_range] at hj
  have ej : j = (j - i) + i := by omega
  rw [ej, it_add] at e
  exact h.per_least hs (k := j - i) (by omega) (by omega) (h.it_inj i hs (h.it_on (j - i) hs) e).symm
theorem Perm.per_le (h : Perm f S) {s : α} (hs : s ∈ S) : per f s S.length ≤ S.length := by
  rw [← cyc_len f S.length s]
  refine len_of_sub (h.cyc_nd hs) fun x hx => ?_
  obtain ⟨k, _, rfl⟩ := List.mem_map.mp hx
  exact h.it_on k hs
theorem Perm.mem_cyc (h : Perm f S) {s t : α} (hs : s ∈ S) : t ∈ cyc f S.length s ↔ ∃ k, it f k s = t := by
  constructor
  · intro hx
    obtain ⟨k, _, e⟩ := List.mem_map.mp hx
    exact ⟨k, e⟩
  · rintro ⟨k, rfl⟩
    rw [it_mod f (h.per_back hs) k]
    exact List.mem_map.mpr ⟨k % per f s S.length, List.mem_range.mpr (Nat.mod_lt _ (per_pos _ _ _)), rfl⟩
/-- a round leads back to where it came from -/
theorem Perm.cyc_symm (h : Perm f S) {s t : α} (hs : s ∈ S) (ht : t ∈ cyc f S.length s) : s ∈ cyc f S.length t := by
  obtain ⟨k, hk, e⟩ := List.mem_map.mp ht
  rw [List.mem_range] at hk
  have tS : t ∈ S := by rw [← e]; exact h.it_on k hs
  refine (h.mem_cyc tS).mpr ⟨per f s S.length - k, ?_⟩
  rw [← e, ← it_add]
  have z : k + (per f s S.length - k) = per f s S.length := by omega
  rw [z]
  exact h.per_back hs
theorem Perm.cyc_trans (h : Perm f S) {s t u : α} (hs : s ∈ S) (ht : t ∈ cyc f S.length s) (hu : u ∈ cyc f S.length t) : u ∈ cyc f S.length s := by
  obtain ⟨k, e⟩ := (h.mem_cyc hs).mp ht
  have tS : t ∈ S := by rw [← e]; exact h.it_on k hs
  obtain ⟨j, e2⟩ := (h.mem_cyc tS).mp hu
  exact (h.mem_cyc hs).mpr ⟨k + j, by rw [it_add, e, e2]⟩
/-- the rounds, by the first spot of each -/
def rnd (f : α → α) (N : Nat) : Nat → List α → List (List α)
  | 0, _ => []
  | _ + 1, [] => []
  | n + 1, s :: l => cyc f N s :: rnd f N n ((s :: l).filter fun t => decide (t ∉ cyc f N s))
def rounds (f : α → α) (S : List α) : List (List α) := rnd f S.length S.length S
theorem self_cyc (f : α → α) (N : Nat) (s : α) : s ∈ cyc f N s := List.mem_map.mpr ⟨0, List.mem_range.mpr (per_pos _ _ _), rfl⟩
theorem filter_shorter {N : Nat} {s : α} {l : List α} : ((s :: l).filter fun t => decide (t ∉ cyc f N s)).length ≤ l.length := by
  rw [List.filter_cons, if_neg (by simp [self_cyc])]
  exact List.length_filter_le _ _
theorem rnd_more {N : Nat} : ∀ {n m : Nat} {l : List α}, l.length ≤ n → n ≤ m → rnd f N m l = rnd f N n l
  | 0, m, l, h, _ => by
    have e : l = [] := List.length_eq_zero_iff.mp (Nat.le_zero.mp h)
    subst e
    cases m <;> rfl
  | n + 1, 0, l, h, hm => by omega
  | n + 1, m + 1, [], h, hm => rfl
  | n + 1, m + 1, s :: l, h, hm => by
    rw [rnd, rnd, rnd_more (n := n) (m := m) (Nat.le_trans filter_shorter (Nat.le_of_succ_le_succ h)) (Nat.le_of_succ_le_succ hm)]
end
end RD

set_option Elab.async false
set_option linter.all false
set_option maxRecDepth 20000
/-! SP: what each def promises. -/
namespace RD
open PySem DL
def tru (Q : DQ) (M : MH) : Prop := Q (.bl true) M
def inW (x : D) (l h : Int) : Bool := match x with
  | .int i => decide (l ≤ i) && decide (i ≤ h)
  | _ => false
def adjB (xs : List D) : Bool := (xs.zip (xs.drop 1)).all fun p => ltD p.1 p.2
def at_ (st : List (List Nat)) (s : Sp) : Option Nat := st[s.1]?.bind (·[s.2]?)
structure GoodT (rings : List Nat) (st : List (List Nat)) : Prop where
  sh : st.map List.length = rings
  le : ∀ r ∈ st, ∀ x ∈ r, x ≤ 999
def roundsW (w : Wo) (l : List Nat) : List (List Sp) := rounds (step w l) (spotsOf w.rings)
/-- where a spot is led by t ticks, t below 0 too -/
def ledI (w : Wo) (l : List Nat) (t : Int) (s : Sp) : Sp := it (step w l) (t % (per (step w l) s (spotsOf w.rings).length : Int)).toNat s
def allBack (w : Wo) (l : List Nat) : Nat := (roundsW w l).foldl (fun a r => Nat.lcm a r.length) 1
/-- a list of lists -/
def LL (M : MH) (p : Nat) (rs : List (List D)) : Prop := ∃ qs : List Nat, M p = some (.lst (qs.map D.ref)) ∧ (p :: qs).Nodup ∧ qs.length = rs.length ∧ ∀ (i q : Nat) (r : List D), qs[i]? = some q → rs[i]? = some r → M q = some (.lst r)
def Bag (M : MH) (a b : Nat) : Prop := ∃ x y z : Int, M a = some (.lst [.int x, .int y, .int z]) ∧ 0 ≤ z ∧ z ≤ b
def GoodR (rings : List Nat) : Prop := 1 ≤ rings.length ∧ rings.length ≤ 4 ∧ (∀ n ∈ rings, 1 ≤ n ∧ n ≤ 40) ∧ rings.sum ≤ 100

def sp_is_whole : DSpec := fun ds M Q _ => ∃ x t, ds = [x] ∧ tyOf M x = some t ∧ Q (.bl (decide (t = .int))) M
def sp_is_within : DSpec := fun ds M Q _ => ∃ x l h t, ds = [x, .int l, .int h] ∧ tyOf M x = some t ∧ Q (.bl (inW x l h)) M
def sp_gcd : DSpec := fun ds M Q _ => ∃ a b : Nat, ds = [eN a, eN b] ∧ Q (eN (Nat.gcd a b)) M
def sp_rises : DSpec := fun ds M Q _ => ∃ xs, ds = [.tup xs] ∧ xs.length ≤ 1000 ∧ comparable xs = true ∧ Q (.bl (adjB xs)) M
def sp_are_rings : DSpec := fun ds M Q _ => ∃ rings, ds = [eL rings] ∧ GoodR rings ∧ tru Q M
def sp_is_in : DSpec := fun ds M Q _ => ∃ rings s, ds = [eL rings, eS s] ∧ onR rings s ∧ tru Q M
def sp_is_door : DSpec := fun ds M Q _ => ∃ rings d, ds = [eL rings, eD d] ∧ onR rings d.1 ∧ onR rings d.2 ∧ d.1.1 < d.2.1 ∧ tru Q M
def sp_are_doors : DSpec := fun ds M Q _ => ∃ w, ds = [eL w.rings, .tup (w.doors.map eD)] ∧ GoodW w ∧ tru Q M
def sp_is_works : DSpec := fun ds M Q _ => ∃ w, ds = [eW w] ∧ GoodW w ∧ tru Q M
def sp_look_at_works : DSpec := fun ds M Q _ => ∃ w, ds = [eW w] ∧ GoodW w ∧ Q .non M
def sp_is_lot : DSpec := fun ds M Q _ => ∃ w l, ds = [eW w, eL l] ∧ GoodW w ∧ GoodL w l ∧ tru Q M
def sp_look_at_lot : DSpec := fun ds M Q _ => ∃ w l, ds = [eW w, eL l] ∧ GoodW w ∧ GoodL w l ∧ Q .non M
def sp_look_at_ticks : DSpec := fun ds M Q _ => ∃ t lo : Int, ds = [.int t, .int lo] ∧ lo ≤ t ∧ t ≤ 10 ^ 30 ∧ Q .non M
def sp_look_at_spot : DSpec := fun ds M Q _ => ∃ w s, ds = [eW w, eS s] ∧ onR w.rings s ∧ Q .non M
def sp_is_stand : DSpec := fun ds M Q _ => ∃ w st, ds = [eW w, eT st] ∧ GoodW w ∧ GoodT w.rings st ∧ tru Q M
def sp_look_at_stand : DSpec := fun ds M Q _ => ∃ w st, ds = [eW w, eT st] ∧ GoodW w ∧ GoodT w.rings st ∧ Q .non M
def sp_spots_of : DSpec := fun ds M Q _ => ∃ rings, ds = [eL rings] ∧ rings.sum ≤ 100 ∧ rings.length ≤ 4 ∧ ∀ p, M p = none → Q (.ref p) (up M p (.lst ((spotsOf rings).map eS)))
def sp_law_spots : DSpec := sp_spots_of
def sp_turned : DSpec := fun ds M Q _ => ∃ rings s, ds = [eL rings, eS s] ∧ onR rings s ∧ Q (eS (turn rings s)) M
def sp_through : DSpec := fun ds M Q _ => ∃ w l s, ds = [eW w, eL l, eS s] ∧ GoodL w l ∧ Q (eS (thr w.doors l s)) M
def sp_tick_led : DSpec := fun ds M Q _ => ∃ w l s, ds = [eW w, eL l, eS s] ∧ GoodW w ∧ GoodL w l ∧ onR w.rings s ∧ Q (eS (step w l s)) M
def sp_law_tick : DSpec := sp_tick_led
/-- its rows are new too -/
def Fr (M M' : MH) (p : Nat) : Prop := ∀ qs : List Nat, M' p = some (.lst (qs.map D.ref)) → ∀ a ∈ qs, M a = none
def sp_rounds_by : DSpec := fun ds M Q _ => ∃ w l, ds = [eW w, eL l] ∧ GoodW w ∧ GoodL w l ∧ ∀ p M', Sub M M' → M p = none → LL M' p ((roundsW w l).map (·.map eS)) → Fr M M' p → Q (.ref p) M'
def sp_rounds : DSpec := sp_rounds_by
def sp_law_rounds : DSpec := fun ds M Q _ => ∃ w l, ds = [eW w, eL l] ∧ GoodW w ∧ GoodL w l ∧ ∀ p M', Sub M M' → M p = none → LL M' p ((roundsW w l).map (·.map eS)) → Q (.ref p) M'
def sp_common : DSpec := fun ds M Q _ => ∃ a b : Nat, ds = [eN a, eN b] ∧ 1 ≤ a ∧ 1 ≤ b ∧ b ≤ 1000 ∧ Q (eN (Nat.lcm a b)) M
def sp_again : DSpec := fun ds M Q _ => ∃ w l, ds = [eW w, eL l] ∧ GoodW w ∧ GoodL w l ∧ Q (eN (allBack w l)) M
def sp_law_all_back : DSpec := sp_again
def tblW (w : Wo) (l : List Nat) (t : Int) : List (D × D) := (roundsW w l).flatten.map fun s => (eS s, eS (ledI w l t s))
def sp_table_by : DSpec := fun ds M Q _ => ∃ w l t, ds = [eW w, eL l, .int t] ∧ GoodW w ∧ GoodL w l ∧ ∀ p M', Sub M M' → M p = none → M' p = some (.dct (tblW w l t)) → Q (.ref p) M'
def sp_led : DSpec := fun ds M Q _ => ∃ w l t s, ds = [eW w, eL l, .int t, eS s] ∧ GoodW w ∧ GoodL w l ∧ onR w.rings s ∧ -(10 ^ 30) ≤ t ∧ t ≤ 10 ^ 30 ∧ Q (eS (ledI w l t s)) M
/-- st' is st, led by g -/
def LedT (rings : List Nat) (g : Sp → Sp) (st st' : List (List Nat)) : Prop := GoodT rings st' ∧ ∀ s, onR rings s → at_ st' (g s) = at_ st s
def sp_stand_led : DSpec := fun ds M Q _ => ∃ (rings : List Nat) (a : Nat) (L : List Sp) (g : Sp → Sp) (st : List (List Nat)), ds = [eL rings, .ref a, eT st] ∧ GoodR rings ∧ GoodT rings st ∧ M a = some (.dct (L.map fun s => (eS s, eS (g s)))) ∧ L.Nodup ∧ (∀ s, s ∈ L ↔ onR rings s) ∧ Perm g (spotsOf rings) ∧ ∀ st', LedT rings g st st' → Q (eT st') M
def sp_behind : DSpec := fun ds M Q _ => ∃ w l t st, ds = [eW w, eL l, .int t, eT st] ∧ GoodW w ∧ GoodL w l ∧ GoodT w.rings st ∧ -(10 ^ 30) ≤ t ∧ t ≤ 10 ^ 30 ∧ ∀ st', LedT w.rings (ledI w l t) st st' → Q (eT st') M
def sp_law_gone : DSpec := fun ds M Q _ => ∃ w l st, ds = [eW w, eL l, eT st] ∧ GoodW w ∧ GoodL w l ∧ GoodT w.rings st ∧ ∀ st', LedT w.rings (step w l) st st' → Q (eT st') M
/-! the law's own -/
def sp_law_well : DSpec := fun ds M Q _ => ∃ c t : Int, ds = [.int c, .int t] ∧ ∀ p x y, M p = none → Q (.ref p) (up M p (.lst [.int x, .int y, .int t]))
def sp_law_take : DSpec := fun ds M Q _ => ∃ a n b : Nat, ds = [.ref a, eN n] ∧ Bag M a b ∧ b < 2 ^ 62 ∧ 1 ≤ n ∧ n < 2 ^ 200 ∧ ∀ r o, r < n → Bag (up M a o) a (b + 1) → Q (eN r) (up M a o)
/-- bags at as: lists of their own -/
def Bags (M M' : MH) (p : Nat) (as : List Nat) : Prop := Sub M M' ∧ M' p = some (.lst (as.map D.ref)) ∧ M p = none ∧ (p :: as).Nodup ∧ ∀ a ∈ as, M a = none ∧ Bag M' a (2 ^ 30)
def sp_law_bags : DSpec := fun ds M Q _ => ∃ (ns : List Int) (k : Nat), ds = [.cst (ns.map D.int), eN k] ∧ ns.length ≤ 63 ∧ k ≤ 100 ∧ ∀ p as M', Bags M M' p as → Q (.ref p) M'
def sp_law_doors : DSpec := fun ds M Q _ => ∃ a rings m b, ds = [.ref a, eL rings, eN m] ∧ GoodR rings ∧ m ≤ 6 ∧ Bag M a b ∧ b + 100 < 2 ^ 62 ∧ ∀ doors o, GoodW ⟨rings, doors⟩ → Bag (up M a o) a (b + 13) → Q (.tup (doors.map eD)) (up M a o)
def sp_law_works : DSpec := fun ds M Q _ => ∃ a r n m b, ds = [.ref a, eN r, eN n, eN m] ∧ 1 ≤ r ∧ r ≤ 4 ∧ 1 ≤ n ∧ n ≤ 40 ∧ r * n ≤ 100 ∧ m ≤ 6 ∧ Bag M a b ∧ b + 200 < 2 ^ 62 ∧ ∀ w o, GoodW w → Bag (up M a o) a (b + 18) → Q (eW w) (up M a o)
def sp_law_lot : DSpec := fun ds M Q _ => ∃ a w b, ds = [.ref a, eW w] ∧ GoodW w ∧ Bag M a b ∧ b + 100 < 2 ^ 62 ∧ ∀ l o, GoodL w l → Bag (up M a o) a (b + 6) → Q (eL l) (up M a o)
def sp_law_stand : DSpec := fun ds M Q _ => ∃ a rings k b, ds = [.ref a, eL rings, eN k] ∧ GoodR rings ∧ 1 ≤ k ∧ k ≤ 1000 ∧ Bag M a b ∧ b + 200 < 2 ^ 62 ∧ ∀ st o, GoodT rings st → Bag (up M a o) a (b + 100) → Q (eT st) (up M a o)
/-- to depth k, no row longer than 1000 -/
def sizedD : Nat → D → Bool
  | _, .non => true
  | _, .int _ => true
  | _, .bl _ => true
  | _, .str _ => true
  | 0, _ => false
  | k + 1, .tup ds => decide (ds.length ≤ 1000) && ds.all (sizedD k)
  | k + 1, .cst ds => decide (ds.length ≤ 1000) && ds.all (sizedD k)
  | _ + 1, _ => false
/-- alike, to depth n -/
def spSame : Nat → DSpec
  | 0 => fun _ _ _ _ => False
  | n + 1 => fun ds M Q _ => ∃ x y d, ds = [x, y] ∧ Dn M x d ∧ Dn M y d ∧ okP d = true ∧ plD d = true ∧ sizedD n d = true ∧ tru Q M
def sp_law_same : DSpec := spSame 7
def sp_law_written : DSpec := fun ds M Q _ => ds = [] ∧ tru Q M
def sp_law : DSpec := fun ds M Q _ => ∃ ns : List Int, ds = [.cst (ns.map D.int)] ∧ ns.length ≤ 63 ∧ ∀ M', Q (.bl true) M'
end RD

set_option Elab.async false
set_option linter.all false
set_option maxRecDepth 20000
namespace RD
open PySem L2 PyProof.Rows DL
def N_law_well : List Str := ["cell", "turn"]
def P_law_well : List Str := ["cell", "turn"]
def t_law_well : DTS := (dSeq (dIf (dB (dBin (ruleCmp .GtE) (dVar 0) (dBin (ruleBin .Pow) (dC (.int 10)) (dC (.int 18))))) (dSeq (dRet (dLst (dCons (dBin (ruleBin .Sub) (dVar 0) (dBin (ruleBin .Pow) (dC (.int 10)) (dC (.int 18)))) (dCons (dBin (ruleBin .Mod) (dVar 0) (dC (.int 2305843009213693951))) (dCons (dVar 1) dNil)))))
  dNext) dNext)
  (dSeq (dRet (dLst (dCons (dC (.int 0)) (dCons (dBin (ruleBin .Mod) (dVar 0) (dC (.int 2305843009213693951))) (dCons (dVar 1) dNil)))))
  dNext))
def N_law_bags : List Str := ["script", "most", "k", "cell"]
def P_law_bags : List Str := ["script", "most"]
def t_law_bags : DTS := (dSeq (dRet (dLc (diEnum (dCons (dBin (ruleBin .Add) (dSl (dVar 0) dNoP (dPart (dVar 1))) (dLst (dCons (dC (.int 0)) dNil))) dNil)) (.tup [(.name 2), (.name 3)]) dYes (dCall sp_law_well (dCons (dVar 3) (dCons (dBin (ruleBin .Mult) (dC (.int 977)) (dVar 2)) dNil))) [2, 3]))
  dNext)
def N_rises : List Str := ["things", "one", "other"]
def P_rises : List Str := ["things"]
def t_rises : DTS := (dSeq (dRet (dFn rAllD (dCons (dLc (diZip (dCons (dVar 0) (dCons (dSl (dVar 0) (dPart (dC (.int 1))) dNoP) dNil))) (.tup [(.name 1), (.name 2)]) dYes (dBin (ruleCmp .Lt) (dVar 1) (dVar 2)) [1, 2]) dNil)))
  dNext)
def N_is_whole : List Str := ["thing"]
def P_is_whole : List Str := ["thing"]
def t_is_whole : DTS := (dSeq (dRet (dAnd (dFn rIsi1 (dCons (dVar 0) (dCons (dC (.ty .int)) dNil))) (dNot (dFn rIsi1 (dCons (dVar 0) (dCons (dC (.ty .bool)) dNil))))))
  dNext)
def N_is_within : List Str := ["thing", "low", "high"]
def P_is_within : List Str := ["thing", "low", "high"]
def t_is_within : DTS := (dSeq (dRet (dAnd (dCall sp_is_whole (dCons (dVar 0) dNil)) (dChain (ruleCmp .LtE) (ruleCmp .LtE) (dVar 1) (dVar 0) (dVar 2))))
  dNext)
def N_is_in : List Str := ["rings", "thing"]
def P_is_in : List Str := ["rings", "thing"]
def t_is_in : DTS := (dSeq (dIf (dOrT (dNotT (dB (dFn rIsi1 (dCons (dVar 1) (dCons (dC (.ty .tuple)) dNil))))) (dOrT (dB (dBin (ruleCmp .NotEq) (dFn rLenD (dCons (dVar 1) dNil)) (dC (.int 2)))) (dNotT (dB (dCall sp_is_within (dCons (dBin ruleIx (dVar 1) (dC (.int 0))) (dCons (dC (.int 0)) (dCons (dBin (ruleBin .Sub) (dFn rLenD (dCons (dVar 0) dNil)) (dC (.int 1))) dNil)))))))) (dSeq (dRet (dC (.bl false)))
  dNext) dNext)
  (dSeq (dRet (dCall sp_is_within (dCons (dBin ruleIx (dVar 1) (dC (.int 1))) (dCons (dC (.int 0)) (dCons (dBin (ruleBin .Sub) (dBin ruleIx (dVar 0) (dBin ruleIx (dVar 1) (dC (.int 0)))) (dC (.int 1))) dNil)))))
  dNext))
def N_is_door : List Str := ["rings", "thing", "one"]
def P_is_door : List Str := ["rings", "thing"]
def t_is_door : DTS := (dSeq (dIf (dOrT (dNotT (dB (dFn rIsi1 (dCons (dVar 1) (dCons (dC (.ty .tuple)) dNil))))) (dOrT (dB (dBin (ruleCmp .NotEq) (dFn rLenD (dCons (dVar 1) dNil)) (dC (.int 2)))) (dNotT (dB (dFn rAllD (dCons (dLc (diSeq (dVar 1)) (.name 2) dYes (dCall sp_is_in (dCons (dVar 0) (dCons (dVar 2) dNil))) [2]) dNil)))))) (dSeq (dRet (dC (.bl false)))
  dNext) dNext)
  (dSeq (dRet (dBin (ruleCmp .Lt) (dBin ruleIx (dBin ruleIx (dVar 1) (dC (.int 0))) (dC (.int 0))) (dBin ruleIx (dBin ruleIx (dVar 1) (dC (.int 1))) (dC (.int 0)))))
  dNext))
def N_are_doors : List Str := ["rings", "thing", "one", "door", "spot"]
def P_are_doors : List Str := ["rings", "thing"]
def t_are_doors : DTS := (dSeq (dIf (dOrT (dNotT (dB (dFn rIsi1 (dCons (dVar 1) (dCons (dC (.ty .tuple)) dNil))))) (dOrT (dB (dBin (ruleCmp .Gt) (dFn rLenD (dCons (dVar 1) dNil)) (dC (.int 6)))) (dNotT (dB (dFn rAllD (dCons (dLc (diSeq (dVar 1)) (.name 2) dYes (dCall sp_is_door (dCons (dVar 0) (dCons (dVar 2) dNil))) [2]) dNil)))))) (dSeq (dRet (dC (.bl false)))
  dNext) dNext)
  (dSeq (dRet (dAnd (dCall sp_rises (dCons (dVar 1) dNil)) (dBin (ruleCmp .Eq) (dFn rLenD (dCons (dDc2 (diSeq (dVar 1)) (.name 3) dYes (diSeq (dVar 3)) (.name 4) dYes [4] (dVar 4) (dC (.bl true)) [3, 4]) dNil)) (dBin (ruleBin .Mult) (dC (.int 2)) (dFn rLenD (dCons (dVar 1) dNil))))))
  dNext))
def N_are_rings : List Str := ["thing", "one"]
def P_are_rings : List Str := ["thing"]
def t_are_rings : DTS := (dSeq (dIf (dOrT (dNotT (dB (dFn rIsi1 (dCons (dVar 0) (dCons (dC (.ty .tuple)) dNil))))) (dNotT (dB (dChain (ruleCmp .LtE) (ruleCmp .LtE) (dC (.int 1)) (dFn rLenD (dCons (dVar 0) dNil)) (dC (.int 4)))))) (dSeq (dRet (dC (.bl false)))
  dNext) dNext)
  (dSeq (dRet (dAnd (dFn rAllD (dCons (dLc (diSeq (dVar 0)) (.name 1) dYes (dCall sp_is_within (dCons (dVar 1) (dCons (dC (.int 1)) (dCons (dC (.int 40)) dNil)))) [1]) dNil)) (dBin (ruleCmp .LtE) (dFn rSumD (dCons (dVar 0) dNil)) (dC (.int 100)))))
  dNext))
def N_is_works : List Str := ["thing"]
def P_is_works : List Str := ["thing"]
def t_is_works : DTS := (dSeq (dIf (dOrT (dNotT (dB (dFn rIsi1 (dCons (dVar 0) (dCons (dC (.ty .tuple)) dNil))))) (dOrT (dB (dBin (ruleCmp .NotEq) (dFn rLenD (dCons (dVar 0) dNil)) (dC (.int 2)))) (dNotT (dB (dCall sp_are_rings (dCons (dBin ruleIx (dVar 0) (dC (.int 0))) dNil)))))) (dSeq (dRet (dC (.bl false)))
  dNext) dNext)
  (dSeq (dRet (dCall sp_are_doors (dCons (dBin ruleIx (dVar 0) (dC (.int 0))) (dCons (dBin ruleIx (dVar 0) (dC (.int 1))) dNil))))
  dNext))
def N_look_at_works : List Str := ["works"]
def P_look_at_works : List Str := ["works"]
def t_look_at_works : DTS := (dSeq (dIf (dNotT (dB (dCall sp_is_works (dCons (dVar 0) dNil)))) (dSeq dNever
  dNext) dNext)
  dNext)
def N_is_lot : List Str := ["works", "thing", "one"]
def P_is_lot : List Str := ["works", "thing"]
def t_is_lot : DTS := (dSeq (dIf (dOrT (dNotT (dB (dFn rIsi1 (dCons (dVar 1) (dCons (dC (.ty .tuple)) dNil))))) (dNotT (dB (dFn rAllD (dCons (dLc (diSeq (dVar 1)) (.name 2) dYes (dCall sp_is_within (dCons (dVar 2) (dCons (dC (.int 0)) (dCons (dBin (ruleBin .Sub) (dFn rLenD (dCons (dBin ruleIx (dVar 0) (dC (.int 1))) dNil)) (dC (.int 1))) dNil)))) [2]) dNil))))) (dSeq (dRet (dC (.bl false)))
  dNext) dNext)
  (dSeq (dRet (dCall sp_rises (dCons (dVar 1) dNil)))
  dNext))
def N_look_at_lot : List Str := ["works", "lot"]
def P_look_at_lot : List Str := ["works", "lot"]
def t_look_at_lot : DTS := (dSeq (dDrop (dCall sp_look_at_works (dCons (dVar 0) dNil)))
  (dSeq (dIf (dNotT (dB (dCall sp_is_lot (dCons (dVar 0) (dCons (dVar 1) dNil))))) (dSeq dNever
  dNext) dNext)
  dNext))
def N_look_at_ticks : List Str := ["ticks", "low"]
def P_look_at_ticks : List Str := ["ticks", "low"]
def t_look_at_ticks : DTS := (dSeq (dIf (dNotT (dB (dCall sp_is_within (dCons (dVar 0) (dCons (dVar 1) (dCons (dC (.int 1000000000000000000000000000000)) dNil)))))) (dSeq dNever
  dNext) dNext)
  dNext)
def N_is_stand : List Str := ["works", "thing", "rings", "length", "some", "one"]
def P_is_stand : List Str := ["works", "thing"]
def t_is_stand : DTS := (dSeq (dAsg (dBin ruleIx (dVar 0) (dC (.int 0))) (.name 2))
  (dSeq (dIf (dOrT (dNotT (dB (dFn rIsi1 (dCons (dVar 1) (dCons (dC (.ty .tuple)) dNil))))) (dB (dBin (ruleCmp .NotEq) (dFn rLenD (dCons (dVar 1) dNil)) (dFn rLenD (dCons (dVar 2) dNil))))) (dSeq (dRet (dC (.bl false)))
  dNext) dNext)
  (dSeq (dFor (diZip (dCons (dVar 2) (dCons (dVar 1) dNil))) (.tup [(.name 3), (.name 4)]) (dSeq (dIf (dOrT (dNotT (dB (dFn rIsi1 (dCons (dVar 4) (dCons (dC (.ty .tuple)) dNil))))) (dB (dBin (ruleCmp .NotEq) (dFn rLenD (dCons (dVar 4) dNil)) (dVar 3)))) (dSeq (dRet (dC (.bl false)))
  dNext) dNext)
  (dSeq (dIf (dNotT (dB (dFn rAllD (dCons (dLc (diSeq (dVar 4)) (.name 5) dYes (dCall sp_is_within (dCons (dVar 5) (dCons (dC (.int 0)) (dCons (dC (.int 999)) dNil)))) [5]) dNil)))) (dSeq (dRet (dC (.bl false)))
  dNext) dNext)
  dNext)))
  (dSeq (dRet (dC (.bl true)))
  dNext))))
def N_look_at_stand : List Str := ["works", "stand"]
def P_look_at_stand : List Str := ["works", "stand"]
def t_look_at_stand : DTS := (dSeq (dIf (dNotT (dB (dCall sp_is_stand (dCons (dVar 0) (dCons (dVar 1) dNil))))) (dSeq dNever
  dNext) dNext)
  dNext)
def N_stand_led : List Str := ["rings", "table", "stand", "found", "spot", "ring", "length", "place"]
def P_stand_led : List Str := ["rings", "table", "stand"]
def t_stand_led : DTS := (dSeq (dAsg (dLockE (dDc (diDict (dVar 1)) (.name 4) dYes (dBin ruleIx (dVar 1) (dVar 4)) (dBin ruleIx (dBin ruleIx (dVar 2) (dBin ruleIx (dVar 4) (dC (.int 0)))) (dBin ruleIx (dVar 4) (dC (.int 1)))) [4])) (.name 3))
  (dSeq (dRet (dFn rTupD (dCons (dLc (diEnum (dCons (dVar 0) dNil)) (.tup [(.name 5), (.name 6)]) dYes (dFn rTupD (dCons (dLc (diR1 (dCons (dVar 6) dNil)) (.name 7) dYes (dBin ruleIx (dVar 3) (dTup (dCons (dVar 5) (dCons (dVar 7) dNil)))) [7]) dNil)) [5, 6]) dNil)))
  dNext))
def N_spots_of : List Str := ["rings", "ring", "length", "place"]
def P_spots_of : List Str := ["rings"]
def t_spots_of : DTS := (dSeq (dRet (dLc2 (diEnum (dCons (dVar 0) dNil)) (.tup [(.name 1), (.name 2)]) dYes (diR1 (dCons (dVar 2) dNil)) (.name 3) dYes [3] (dTup (dCons (dVar 1) (dCons (dVar 3) dNil))) [1, 2, 3]))
  dNext)
def N_turned : List Str := ["rings", "spot"]
def P_turned : List Str := ["rings", "spot"]
def t_turned : DTS := (dSeq (dRet (dTup (dCons (dBin ruleIx (dVar 1) (dC (.int 0))) (dCons (dBin (ruleBin .Mod) (dBin (ruleBin .Add) (dBin ruleIx (dVar 1) (dC (.int 1))) (dC (.int 1))) (dBin ruleIx (dVar 0) (dBin ruleIx (dVar 1) (dC (.int 0))))) dNil))))
  dNext)
def N_through : List Str := ["works", "lot", "spot", "place", "one", "other"]
def P_through : List Str := ["works", "lot", "spot"]
def t_through : DTS := (dSeq (dFor (diSeq (dVar 1)) (.name 3) (dSeq (dAsg (dBin ruleIx (dBin ruleIx (dVar 0) (dC (.int 1))) (dVar 3)) (.tup [(.name 4), (.name 5)]))
  (dSeq (dIf (dB (dBin (ruleCmp .In) (dVar 2) (dTup (dCons (dVar 4) (dCons (dVar 5) dNil))))) (dSeq (dRet (dIfe (dB (dBin (ruleCmp .Eq) (dVar 2) (dVar 4))) (dVar 5) (dVar 4)))
  dNext) dNext)
  dNext)))
  (dSeq (dRet (dVar 2))
  dNext))
def N_tick_led : List Str := ["works", "lot", "spot"]
def P_tick_led : List Str := ["works", "lot", "spot"]
def t_tick_led : DTS := (dSeq (dRet (dCall sp_turned (dCons (dBin ruleIx (dVar 0) (dC (.int 0))) (dCons (dCall sp_through (dCons (dVar 0) (dCons (dVar 1) (dCons (dVar 2) dNil)))) dNil))))
  dNext)
def N_rounds_by : List Str := ["works", "lot", "found", "seen", "spot", "some"]
def P_rounds_by : List Str := ["works", "lot"]
def t_rounds_by : DTS := (dSeq (dAsg (dLst dNil) (.name 2))
  (dSeq (dAsg dNewD (.name 3))
  (dSeq (dFor (diSeq (dCall sp_spots_of (dCons (dBin ruleIx (dVar 0) (dC (.int 0))) dNil))) (.name 4) (dSeq (dIf (dB (dBin (ruleCmp .NotIn) (dVar 4) (dVar 3))) (dSeq (dAsg (dLst dNil) (.name 5))
  (dSeq (dWhile (dB (dBin (ruleCmp .NotIn) (dVar 4) (dVar 3))) (dSeq (dSub ruleSet (dC (.bl true)) (dVar 3) (dVar 4))
  (dSeq (dDrop (dMt tyLst rAppD (dVar 5) (dCons (dVar 4) dNil)))
  (dSeq (dAsg (dCall sp_tick_led (dCons (dVar 0) (dCons (dVar 1) (dCons (dVar 4) dNil)))) (.name 4))
  dNext))))
  (dSeq (dDrop (dMt tyLst rAppD (dVar 2) (dCons (dVar 5) dNil)))
  dNext))) dNext)
  dNext))
  (dSeq (dRet (dVar 2))
  dNext))))
def N_table_by : List Str := ["works", "lot", "ticks", "found", "some", "at", "spot"]
def P_table_by : List Str := ["works", "lot", "ticks"]
def t_table_by : DTS := (dSeq (dAsg dNewD (.name 3))
  (dSeq (dFor (diSeq (dCall sp_rounds_by (dCons (dVar 0) (dCons (dVar 1) dNil)))) (.name 4) (dSeq (dFor (diEnum (dCons (dVar 4) dNil)) (.tup [(.name 5), (.name 6)]) (dSeq (dSub ruleSet (dBin ruleIx (dVar 4) (dBin (ruleBin .Mod) (dBin (ruleBin .Add) (dVar 5) (dVar 2)) (dFn rLenD (dCons (dVar 4) dNil)))) (dVar 3) (dVar 6))
  dNext))
  dNext))
  (dSeq (dRet (dVar 3))
  dNext)))
def N_behind : List Str := ["works", "lot", "ticks", "stand"]
def P_behind : List Str := ["works", "lot", "ticks", "stand"]
def t_behind : DTS := (dSeq (dDrop (dCall sp_look_at_lot (dCons (dVar 0) (dCons (dVar 1) dNil))))
  (dSeq (dDrop (dCall sp_look_at_ticks (dCons (dVar 2) (dCons (dUn (ruleUn .USub) (dBin (ruleBin .Pow) (dC (.int 10)) (dC (.int 30)))) dNil))))
  (dSeq (dDrop (dCall sp_look_at_stand (dCons (dVar 0) (dCons (dVar 3) dNil))))
  (dSeq (dRet (dCall sp_stand_led (dCons (dBin ruleIx (dVar 0) (dC (.int 0))) (dCons (dCall sp_table_by (dCons (dVar 0) (dCons (dVar 1) (dCons (dVar 2) dNil)))) (dCons (dVar 3) dNil)))))
  dNext))))
def N_rounds : List Str := ["works", "lot"]
def P_rounds : List Str := ["works", "lot"]
def t_rounds : DTS := (dSeq (dDrop (dCall sp_look_at_lot (dCons (dVar 0) (dCons (dVar 1) dNil))))
  (dSeq (dRet (dCall sp_rounds_by (dCons (dVar 0) (dCons (dVar 1) dNil))))
  dNext))
def N_gcd : List Str := ["one", "other"]
def P_gcd : List Str := ["one", "other"]
def t_gcd : DTS := (dSeq (dWhile (dB (dBin (ruleCmp .NotEq) (dVar 1) (dC (.int 0)))) (dSeq (dPar 0 1 (dCons (dVar 1) (dCons (dBin (ruleBin .Mod) (dVar 0) (dVar 1)) dNil)))
  dNext))
  (dSeq (dRet (dFn rAbsD (dCons (dVar 0) dNil)))
  dNext))
def N_common : List Str := ["one", "other"]
def P_common : List Str := ["one", "other"]
def t_common : DTS := (dSeq (dRet (dBin (ruleBin .FloorDiv) (dBin (ruleBin .Mult) (dVar 0) (dVar 1)) (dCall sp_gcd (dCons (dVar 0) (dCons (dVar 1) dNil)))))
  dNext)
def N_again : List Str := ["works", "lot", "found", "some"]
def P_again : List Str := ["works", "lot"]
def t_again : DTS := (dSeq (dDrop (dCall sp_look_at_lot (dCons (dVar 0) (dCons (dVar 1) dNil))))
  (dSeq (dAsg (dC (.int 1)) (.name 2))
  (dSeq (dFor (diSeq (dCall sp_rounds_by (dCons (dVar 0) (dCons (dVar 1) dNil)))) (.name 3) (dSeq (dAsg (dCall sp_common (dCons (dVar 2) (dCons (dFn rLenD (dCons (dVar 3) dNil)) dNil))) (.name 2))
  dNext))
  (dSeq (dRet (dVar 2))
  dNext))))
def N_law_written : List Str := ["works1", "due"]
def P_law_written : List Str := []
def t_law_written : DTS := (dSeq (dAsg (dTup (dCons (dTup (dCons (dC (.int 2)) (dCons (dC (.int 3)) dNil))) (dCons (dTup (dCons (dTup (dCons (dTup (dCons (dC (.int 0)) (dCons (dC (.int 0)) dNil))) (dCons (dTup (dCons (dC (.int 1)) (dCons (dC (.int 1)) dNil))) dNil))) dNil)) dNil))) (.name 0))
  (dSeq (dAsg (dLst (dCons (dLst (dCons (dTup (dCons (dC (.int 0)) (dCons (dC (.int 0)) dNil))) (dCons (dTup (dCons (dC (.int 1)) (dCons (dC (.int 2)) dNil))) (dCons (dTup (dCons (dC (.int 1)) (dCons (dC (.int 0)) dNil))) (dCons (dTup (dCons (dC (.int 1)) (dCons (dC (.int 1)) dNil))) (dCons (dTup (dCons (dC (.int 0)) (dCons (dC (.int 1)) dNil))) dNil)))))) dNil)) (.name 1))
  (dSeq (dIf (dOrT (dB (dBin (ruleCmp .NotEq) (dCall sp_rounds (dCons (dVar 0) (dCons (dTup (dCons (dC (.int 0)) dNil)) dNil))) (dVar 1))) (dOrT (dB (dBin (ruleCmp .NotEq) (dCall sp_again (dCons (dVar 0) (dCons (dTup (dCons (dC (.int 0)) dNil)) dNil))) (dC (.int 5)))) (dB (dBin (ruleCmp .NotEq) (dCall sp_again (dCons (dVar 0) (dCons (dTup dNil) dNil))) (dC (.int 6)))))) (dSeq (dRet (dC (.bl false)))
  dNext) dNext)
  (dSeq (dRet (dBin (ruleCmp .Eq) (dCall sp_behind (dCons (dVar 0) (dCons (dTup (dCons (dC (.int 0)) dNil)) (dCons (dC (.int 1)) (dCons (dTup (dCons (dTup (dCons (dC (.int 1)) (dCons (dC (.int 2)) dNil))) (dCons (dTup (dCons (dC (.int 3)) (dCons (dC (.int 4)) (dCons (dC (.int 5)) dNil)))) dNil))) dNil))))) (dTup (dCons (dTup (dCons (dC (.int 2)) (dCons (dC (.int 4)) dNil))) (dCons (dTup (dCons (dC (.int 5)) (dCons (dC (.int 3)) (dCons (dC (.int 1)) dNil)))) dNil)))))
  dNext))))
def N_law_spots : List Str := ["rings", "found", "ring", "length", "place"]
def P_law_spots : List Str := ["rings"]
def t_law_spots : DTS := (dSeq (dAsg (dLst dNil) (.name 1))
  (dSeq (dFor (diEnum (dCons (dVar 0) dNil)) (.tup [(.name 2), (.name 3)]) (dSeq (dAsg (dBin (ruleBin .Add) (dVar 1) (dLc (diR1 (dCons (dVar 3) dNil)) (.name 4) dYes (dTup (dCons (dVar 2) (dCons (dVar 4) dNil))) [4])) (.name 1))
  dNext))
  (dSeq (dRet (dVar 1))
  dNext)))
def N_law_take : List Str := ["bag", "many", "found", "p", "n"]
def P_law_take : List Str := ["bag", "many"]
def t_law_take : DTS := (dSeq (dIf (dB (dBin (ruleCmp .Gt) (dBin ruleIx (dVar 0) (dC (.int 0))) (dC (.int 0)))) (dSeq (dAsg (dBin (ruleBin .Mod) (dBin ruleIx (dVar 0) (dC (.int 0))) (dVar 1)) (.name 2))
  (dSeq (dSub ruleSet (dBin (ruleBin .FloorDiv) (dBin ruleIx (dVar 0) (dC (.int 0))) (dVar 1)) (dVar 0) (dC (.int 0)))
  (dSeq (dRet (dVar 2))
  dNext))) dNext)
  (dSeq (dSub ruleSet (dBin (ruleBin .Add) (dBin ruleIx (dVar 0) (dC (.int 2))) (dC (.int 1))) (dVar 0) (dC (.int 2)))
  (dSeq (dAsg (dC (.int 2305843009213693951)) (.name 3))
  (dSeq (dAsg (dBin (ruleBin .Mod) (dBin (ruleBin .Add) (dBin ruleIx (dVar 0) (dC (.int 1))) (dBin (ruleBin .Mult) (dC (.int 1000003)) (dBin ruleIx (dVar 0) (dC (.int 2))))) (dVar 3)) (.name 4))
  (dSeq (dAsg (dBin (ruleBin .Mod) (dBin (ruleBin .Add) (dBin (ruleBin .Add) (dBin (ruleBin .Mult) (dVar 4) (dVar 4)) (dBin (ruleBin .Mult) (dC (.int 7919)) (dBin (ruleBin .Pow) (dBin ruleIx (dVar 0) (dC (.int 2))) (dC (.int 2))))) (dC (.int 5))) (dVar 3)) (.name 4))
  (dSeq (dRet (dBin (ruleBin .Mod) (dBin (ruleBin .FloorDiv) (dBin (ruleBin .Mod) (dBin (ruleBin .Pow) (dVar 4) (dC (.int 3))) (dVar 3)) (dC (.int 13))) (dVar 1)))
  dNext))))))
def N_law_doors : List Str := ["bag", "rings", "many", "left", "found", "turn", "one", "others", "other", "spot"]
def P_law_doors : List Str := ["bag", "rings", "many"]
def t_law_doors : DTS := (dSeq (dAsg (dCall sp_law_spots (dCons (dVar 1) dNil)) (.name 3))
  (dSeq (dAsg (dLst dNil) (.name 4))
  (dSeq (dFor (diR1 (dCons (dCall sp_law_take (dCons (dVar 0) (dCons (dBin (ruleBin .Add) (dVar 2) (dC (.int 1))) dNil))) dNil)) (.name 5) (dSeq (dIf (dB (dBin (ruleCmp .NotEq) (dVar 3) (dLst dNil))) (dSeq (dAsg (dMt tyLst rPopAtD (dVar 3) (dCons (dCall sp_law_take (dCons (dVar 0) (dCons (dFn rLenD (dCons (dVar 3) dNil)) dNil))) dNil)) (.name 6))
  (dSeq (dAsg (dLc (diSeq (dVar 3)) (.name 9) (dB (dBin (ruleCmp .NotEq) (dBin ruleIx (dVar 9) (dC (.int 0))) (dBin ruleIx (dVar 6) (dC (.int 0))))) (dVar 9) [9]) (.name 7))
  (dSeq (dIf (dB (dBin (ruleCmp .NotEq) (dVar 7) (dLst dNil))) (dSeq (dAsg (dBin ruleIx (dVar 7) (dCall sp_law_take (dCons (dVar 0) (dCons (dFn rLenD (dCons (dVar 7) dNil)) dNil)))) (.name 8))
  (dSeq (dDrop (dMt tyLst rRemD (dVar 3) (dCons (dVar 8) dNil)))
  (dSeq (dDrop (dMt tyLst rAppD (dVar 4) (dCons (dTup (dCons (dFn rMin2D (dCons (dVar 6) (dCons (dVar 8) dNil))) (dCons (dFn rMax2D (dCons (dVar 6) (dCons (dVar 8) dNil))) dNil))) dNil)))
  dNext))) dNext)
  dNext))) dNext)
  dNext))
  (dSeq (dRet (dFn rTupD (dCons (dFn rSortD (dCons (dVar 4) dNil)) dNil)))
  dNext))))
def N_law_works : List Str := ["bag", "rings1", "length", "doors1", "rings", "turn"]
def P_law_works : List Str := ["bag", "rings1", "length", "doors1"]
def t_law_works : DTS := (dSeq (dAsg (dFn rTupD (dCons (dLc (diR1 (dCons (dBin (ruleBin .Add) (dC (.int 1)) (dCall sp_law_take (dCons (dVar 0) (dCons (dVar 1) dNil)))) dNil)) (.name 5) dYes (dBin (ruleBin .Add) (dC (.int 1)) (dCall sp_law_take (dCons (dVar 0) (dCons (dVar 2) dNil)))) [5]) dNil)) (.name 4))
  (dSeq (dRet (dTup (dCons (dVar 4) (dCons (dCall sp_law_doors (dCons (dVar 0) (dCons (dVar 4) (dCons (dVar 3) dNil)))) dNil))))
  dNext))
def N_law_tick : List Str := ["works1", "lot", "spot", "place", "one", "other"]
def P_law_tick : List Str := ["works1", "lot", "spot"]
def t_law_tick : DTS := (dSeq (dFor (diSeq (dVar 1)) (.name 3) (dSeq (dAsg (dBin ruleIx (dBin ruleIx (dVar 0) (dC (.int 1))) (dVar 3)) (.tup [(.name 4), (.name 5)]))
  (dSeq (dIf (dOrT (dB (dBin (ruleCmp .Eq) (dVar 2) (dVar 4))) (dB (dBin (ruleCmp .Eq) (dVar 2) (dVar 5)))) (dSeq (dAsg (dIfe (dB (dBin (ruleCmp .Eq) (dVar 2) (dVar 4))) (dVar 5) (dVar 4)) (.name 2))
  (dSeq (dRet (dTup (dCons (dBin ruleIx (dVar 2) (dC (.int 0))) (dCons (dBin (ruleBin .Mod) (dBin (ruleBin .Add) (dBin ruleIx (dVar 2) (dC (.int 1))) (dC (.int 1))) (dBin ruleIx (dBin ruleIx (dVar 0) (dC (.int 0))) (dBin ruleIx (dVar 2) (dC (.int 0))))) dNil))))
  dNext)) dNext)
  dNext)))
  (dSeq (dRet (dTup (dCons (dBin ruleIx (dVar 2) (dC (.int 0))) (dCons (dBin (ruleBin .Mod) (dBin (ruleBin .Add) (dBin ruleIx (dVar 2) (dC (.int 1))) (dC (.int 1))) (dBin ruleIx (dBin ruleIx (dVar 0) (dC (.int 0))) (dBin ruleIx (dVar 2) (dC (.int 0))))) dNil))))
  dNext))
def N_law_rounds : List Str := ["works1", "lot", "left", "found", "some", "spot"]
def P_law_rounds : List Str := ["works1", "lot"]
def t_law_rounds : DTS := (dSeq (dAsg (dCall sp_law_spots (dCons (dBin ruleIx (dVar 0) (dC (.int 0))) dNil)) (.name 2))
  (dSeq (dAsg (dLst dNil) (.name 3))
  (dSeq (dWhile (dB (dBin (ruleCmp .NotEq) (dVar 2) (dLst dNil))) (dSeq (dAsg (dLst (dCons (dBin ruleIx (dVar 2) (dC (.int 0))) dNil)) (.name 4))
  (dSeq (dWhile (dB (dBin (ruleCmp .NotEq) (dCall sp_law_tick (dCons (dVar 0) (dCons (dVar 1) (dCons (dBin ruleIx (dVar 4) (dUn (ruleUn .USub) (dC (.int 1)))) dNil)))) (dBin ruleIx (dVar 4) (dC (.int 0))))) (dSeq (dDrop (dMt tyLst rAppD (dVar 4) (dCons (dCall sp_law_tick (dCons (dVar 0) (dCons (dVar 1) (dCons (dBin ruleIx (dVar 4) (dUn (ruleUn .USub) (dC (.int 1)))) dNil)))) dNil)))
  dNext))
  (dSeq (dAsg (dLc (diSeq (dVar 2)) (.name 5) (dB (dBin (ruleCmp .NotIn) (dVar 5) (dVar 4))) (dVar 5) [5]) (.name 2))
  (dSeq (dDrop (dMt tyLst rAppD (dVar 3) (dCons (dVar 4) dNil)))
  dNext)))))
  (dSeq (dRet (dVar 3))
  dNext))))
def N_law_stand : List Str := ["bag", "rings", "kinds", "found", "length", "turn"]
def P_law_stand : List Str := ["bag", "rings", "kinds"]
def t_law_stand : DTS := (dSeq (dAsg (dLst dNil) (.name 3))
  (dSeq (dFor (diSeq (dVar 1)) (.name 4) (dSeq (dDrop (dMt tyLst rAppD (dVar 3) (dCons (dFn rTupD (dCons (dLc (diR1 (dCons (dVar 4) dNil)) (.name 5) dYes (dCall sp_law_take (dCons (dVar 0) (dCons (dVar 2) dNil))) [5]) dNil)) dNil)))
  dNext))
  (dSeq (dRet (dFn rTupD (dCons (dVar 3) dNil)))
  dNext)))
def N_law_lot : List Str := ["bag", "works1", "place"]
def P_law_lot : List Str := ["bag", "works1"]
def t_law_lot : DTS := (dSeq (dRet (dFn rTupD (dCons (dLc (diR1 (dCons (dFn rLenD (dCons (dBin ruleIx (dVar 1) (dC (.int 1))) dNil)) dNil)) (.name 2) (dB (dBin (ruleCmp .Gt) (dCall sp_law_take (dCons (dVar 0) (dCons (dC (.int 3)) dNil))) (dC (.int 0)))) (dVar 2) [2]) dNil)))
  dNext)
def N_law_gone : List Str := ["works1", "lot", "stand", "found", "ring", "place", "rows", "length"]
def P_law_gone : List Str := ["works1", "lot", "stand"]
def t_law_gone : DTS := (dSeq (dAsg dNewD (.name 3))
  (dSeq (dFor (diSeq (dCall sp_law_spots (dCons (dBin ruleIx (dVar 0) (dC (.int 0))) dNil))) (.tup [(.name 4), (.name 5)]) (dSeq (dSub ruleSet (dBin ruleIx (dBin ruleIx (dVar 2) (dVar 4)) (dVar 5)) (dVar 3) (dCall sp_law_tick (dCons (dVar 0) (dCons (dVar 1) (dCons (dTup (dCons (dVar 4) (dCons (dVar 5) dNil))) dNil)))))
  dNext))
  (dSeq (dAsg (dLst dNil) (.name 6))
  (dSeq (dFor (diEnum (dCons (dBin ruleIx (dVar 0) (dC (.int 0))) dNil)) (.tup [(.name 4), (.name 7)]) (dSeq (dDrop (dMt tyLst rAppD (dVar 6) (dCons (dFn rTupD (dCons (dLc (diR1 (dCons (dVar 7) dNil)) (.name 5) dYes (dBin ruleIx (dVar 3) (dTup (dCons (dVar 4) (dCons (dVar 5) dNil)))) [5]) dNil)) dNil)))
  dNext))
  (dSeq (dRet (dFn rTupD (dCons (dVar 6) dNil)))
  dNext)))))
def N_law_same : List Str := ["a", "b", "x", "y"]
def P_law_same : List Str := ["a", "b"]
def t_law_same (sp_law_same : DSpec) : DTS := (dSeq (dIf (dOrT (dAndT (dB (dFn rIsi1 (dCons (dVar 0) (dCons (dC (.ty .list)) dNil)))) (dB (dFn rIsi1 (dCons (dVar 1) (dCons (dC (.ty .list)) dNil))))) (dAndT (dB (dFn rIsi1 (dCons (dVar 0) (dCons (dC (.ty .tuple)) dNil)))) (dB (dFn rIsi1 (dCons (dVar 1) (dCons (dC (.ty .tuple)) dNil)))))) (dSeq (dRet (dAnd (dBin (ruleCmp .Eq) (dFn rLenD (dCons (dVar 0) dNil)) (dFn rLenD (dCons (dVar 1) dNil))) (dFn rAllD (dCons (dLc (diZip (dCons (dVar 0) (dCons (dVar 1) dNil))) (.tup [(.name 2), (.name 3)]) dYes (dCall sp_law_same (dCons (dVar 2) (dCons (dVar 3) dNil))) [2, 3]) dNil))))
  dNext) dNext)
  (dSeq (dIf (dOrT (dB (dFn rIsi2 (dCons (dVar 0) (dCons (dTup (dCons (dC (.ty .bool)) (dCons (dC (.ty .list)) (dCons (dC (.ty .tuple)) dNil)))) dNil)))) (dB (dFn rIsi2 (dCons (dVar 1) (dCons (dTup (dCons (dC (.ty .bool)) (dCons (dC (.ty .list)) (dCons (dC (.ty .tuple)) dNil)))) dNil))))) (dSeq (dRet (dAnd (dFn rIsi1 (dCons (dVar 0) (dCons (dC (.ty .bool)) dNil))) (dAnd (dFn rIsi1 (dCons (dVar 1) (dCons (dC (.ty .bool)) dNil))) (dBin (ruleCmp .Eq) (dVar 0) (dVar 1)))))
  dNext) dNext)
  (dSeq (dIf (dOrT (dB (dFn rIsi1 (dCons (dVar 0) (dCons (dC (.ty .int)) dNil)))) (dB (dFn rIsi1 (dCons (dVar 1) (dCons (dC (.ty .int)) dNil))))) (dSeq (dRet (dAnd (dFn rIsi1 (dCons (dVar 0) (dCons (dC (.ty .int)) dNil))) (dAnd (dFn rIsi1 (dCons (dVar 1) (dCons (dC (.ty .int)) dNil))) (dBin (ruleCmp .Eq) (dVar 0) (dVar 1)))))
  dNext) dNext)
  (dSeq (dIf (dOrT (dB (dFn rIsi1 (dCons (dVar 0) (dCons (dC (.ty .str)) dNil)))) (dB (dFn rIsi1 (dCons (dVar 1) (dCons (dC (.ty .str)) dNil))))) (dSeq (dRet (dAnd (dFn rIsi1 (dCons (dVar 0) (dCons (dC (.ty .str)) dNil))) (dAnd (dFn rIsi1 (dCons (dVar 1) (dCons (dC (.ty .str)) dNil))) (dBin (ruleCmp .Eq) (dVar 0) (dVar 1)))))
  dNext) dNext)
  (dSeq (dRet (dAnd (dBin (ruleCmp .Is) (dVar 0) (dC .non)) (dBin (ruleCmp .Is) (dVar 1) (dC .non))))
  dNext)))))
def N_look_at_spot : List Str := ["works", "spot"]
def P_look_at_spot : List Str := ["works", "spot"]
def t_look_at_spot : DTS := (dSeq (dIf (dNotT (dB (dCall sp_is_in (dCons (dBin ruleIx (dVar 0) (dC (.int 0))) (dCons (dVar 1) dNil))))) (dSeq dNever
  dNext) dNext)
  dNext)
def N_led : List Str := ["works", "lot", "ticks", "spot"]
def P_led : List Str := ["works", "lot", "ticks", "spot"]
def t_led : DTS := (dSeq (dDrop (dCall sp_look_at_lot (dCons (dVar 0) (dCons (dVar 1) dNil))))
  (dSeq (dDrop (dCall sp_look_at_ticks (dCons (dVar 2) (dCons (dUn (ruleUn .USub) (dBin (ruleBin .Pow) (dC (.int 10)) (dC (.int 30)))) dNil))))
  (dSeq (dDrop (dCall sp_look_at_spot (dCons (dVar 0) (dCons (dVar 3) dNil))))
  (dSeq (dRet (dBin ruleIx (dCall sp_table_by (dCons (dVar 0) (dCons (dVar 1) (dCons (dVar 2) dNil)))) (dVar 3)))
  dNext))))
def N_law_all_back : List Str := ["works1", "lot", "found", "some", "step"]
def P_law_all_back : List Str := ["works1", "lot"]
def t_law_all_back : DTS := (dSeq (dAsg (dC (.int 1)) (.name 2))
  (dSeq (dFor (diSeq (dCall sp_law_rounds (dCons (dVar 0) (dCons (dVar 1) dNil)))) (.name 3) (dSeq (dAsg (dVar 2) (.name 4))
  (dSeq (dWhile (dB (dBin (ruleCmp .NotEq) (dBin (ruleBin .Mod) (dVar 2) (dFn rLenD (dCons (dVar 3) dNil))) (dC (.int 0)))) (dSeq (dAsg (dBin (ruleBin .Add) (dVar 2) (dVar 4)) (.name 2))
  dNext))
  dNext)))
  (dSeq (dRet (dVar 2))
  dNext)))
end RD

set_option Elab.async false
set_option linter.all false
set_option maxRecDepth 20000
/-! M1: the small defs keep their promises. -/
namespace RD
open PySem DL
theorem fg {Q : DQ} {d : D} {M : MH} (h : Q d M) : Fg Q d M := ⟨M, Sub.refl M, h⟩
@[simp] theorem sz_ : sizeLine = 16777216 := sizeLine_eq
theorem m_is_whole : Meets sp_is_whole N_is_whole P_is_whole t_is_whole := by
  rintro ds M Q W ⟨x, t, rfl, ht, q⟩
  refine ⟨rfl, ?_⟩
  simp [-Bool.exists_bool, t_is_whole, dstart, N_is_whole]
  refine r_isi ht ⟨_, rfl, ?_⟩
  cases t
  case int => rw [if_pos (by rfl)]; exact r_isi ht ⟨_, rfl, fg q⟩
  case bool => rw [if_pos (by rfl)]; exact r_isi ht ⟨_, rfl, fg q⟩
  all_goals (rw [if_neg (by decide)]; exact fg q)
theorem m_is_within : Meets sp_is_within N_is_within P_is_within t_is_within := by
  rintro ds M Q W ⟨x, l, h, t, rfl, ht, q⟩
  refine ⟨rfl, ?_⟩
  simp [-Bool.exists_bool, t_is_within, dstart, N_is_within]
  refine ⟨x, t, rfl, ht, _, rfl, ?_⟩
  by_cases e : t = .int
  · subst e
    cases x with
    | int i =>
      simp [-Bool.exists_bool]
      by_cases hl : l ≤ i
      · simp [hl]
        refine fg ?_
        simpa [inW, hl] using q
      · simp [hl]
        refine fg ?_
        simpa [inW, hl] using q
    | ref a => unfold tyOf at ht; simp only at ht; split at ht <;> cases ht
    | _ => cases ht
  · simp [e]
    refine fg ?_
    cases x with
    | int i => cases ht; exact absurd rfl e
    | _ => exact q
theorem fmod_nat (a b : Nat) : (a : Int).fmod (b : Int) = ((a % b : Nat) : Int) := by
  rw [Int.fmod_eq_emod_of_nonneg _ (Int.natCast_nonneg b)]; rfl
theorem m_gcd : Meets sp_gcd N_gcd P_gcd t_gcd := by
  rintro ds M Q W ⟨a, b, rfl, q⟩
  refine ⟨rfl, ?_⟩
  simp [-Bool.exists_bool, t_gcd, dstart, N_gcd, eN]
  refine ⟨fun n δ M' => M' = M ∧ ∃ x : Nat, δ = [some (eN x), some (eN n)] ∧ Nat.gcd x n = Nat.gcd a b, ⟨b, rfl, a, rfl, rfl⟩, ?_⟩
  rintro n δ M' ⟨rfl, x, rfl, e⟩
  simp [-Bool.exists_bool, eN]
  by_cases h : n = 0
  · subst h
    simp [rAbsD]
    refine fg ?_
    rw [Nat.gcd_zero_right] at e
    rw [e, if_neg (by omega)]
    exact q
  · have h' : ¬ ((n : Int) = 0) := by omega
    simp [h, -Bool.exists_bool]
    refine ⟨_, _, ⟨rfl, rfl⟩, x % n, Nat.mod_lt _ (Nat.pos_of_ne_zero h), n, ⟨rfl, by rw [fmod_nat]⟩, ?_⟩
    rw [← e, Nat.gcd_comm n, Nat.gcd_comm x n]
    exact (Nat.gcd_rec n x).symm
theorem m_turned : Meets sp_turned N_turned P_turned t_turned := by
  rintro ds M Q W ⟨rings, s, rfl, ⟨n, h1, h2⟩, q⟩
  refine ⟨rfl, ?_⟩
  simp [-Bool.exists_bool, t_turned, dstart, N_turned, eL, eS, eN, h1]
  refine ⟨by omega, fg ?_⟩
  have e : ((s.2 : Int) + 1).fmod (n : Int) = (((s.2 + 1) % n : Nat) : Int) := by
    rw [← fmod_nat]; rfl
  rw [e]
  have z : eS (turn rings s) = .tup [.int (s.1 : Nat), .int (((s.2 + 1) % n : Nat) : Nat)] := by
    unfold turn; rw [h1]; rfl
  rw [← z]
  exact q
theorem m_look_at_works : Meets sp_look_at_works N_look_at_works P_look_at_works t_look_at_works := by
  rintro ds M Q W ⟨w, rfl, g, q⟩
  refine ⟨rfl, ?_⟩
  simp [-Bool.exists_bool, t_look_at_works, dstart, N_look_at_works]
  exact ⟨w, rfl, g, by simpa [tru] using fg q⟩
theorem m_look_at_lot : Meets sp_look_at_lot N_look_at_lot P_look_at_lot t_look_at_lot := by
  rintro ds M Q W ⟨w, l, rfl, g, gl, q⟩
  refine ⟨rfl, ?_⟩
  simp [-Bool.exists_bool, t_look_at_lot, dstart, N_look_at_lot]
  exact ⟨w, rfl, g, w, l, rfl, g, gl, by simpa [tru] using fg q⟩
theorem m_look_at_stand : Meets sp_look_at_stand N_look_at_stand P_look_at_stand t_look_at_stand := by
  rintro ds M Q W ⟨w, st, rfl, g, gl, q⟩
  refine ⟨rfl, ?_⟩
  simp [-Bool.exists_bool, t_look_at_stand, dstart, N_look_at_stand]
  exact ⟨w, st, rfl, g, gl, by simpa [tru] using fg q⟩
theorem m_look_at_spot : Meets sp_look_at_spot N_look_at_spot P_look_at_spot t_look_at_spot := by
  rintro ds M Q W ⟨w, s, rfl, g, q⟩
  refine ⟨rfl, ?_⟩
  simp [-Bool.exists_bool, t_look_at_spot, dstart, N_look_at_spot, eW]
  exact ⟨w.rings, s, rfl, g, by simpa [tru] using fg q⟩
theorem m_look_at_ticks : Meets sp_look_at_ticks N_look_at_ticks P_look_at_ticks t_look_at_ticks := by
  rintro ds M Q W ⟨t, lo, rfl, h1, h2, q⟩
  refine ⟨rfl, ?_⟩
  simp [-Bool.exists_bool, t_look_at_ticks, dstart, N_look_at_ticks]
  refine ⟨.int t, lo, 10 ^ 30, .int, by simp, rfl, ?_⟩
  have z : inW (.int t) lo (10 ^ 30) = true := by show (decide (lo ≤ t) && decide (t ≤ 10 ^ 30)) = true; rw [decide_eq_true h1, decide_eq_true h2]; rfl
  rw [z]
  simpa using fg q
theorem m_is_in : Meets sp_is_in N_is_in P_is_in t_is_in := by
  rintro ds M Q W ⟨rings, s, rfl, ⟨n, h1, h2⟩, q⟩
  refine ⟨rfl, ?_⟩
  have hl := (List.getElem?_eq_some_iff.mp h1).1
  simp [-Bool.exists_bool, t_is_in, dstart, N_is_in, eL, eS, eN, h1, isaT]
  refine ⟨_, _, _, .int, rfl, rfl, ?_⟩
  have z1 : inW (.int (s.1 : Int)) 0 ((rings.length : Int) - 1) = true := by simp [inW]; omega
  rw [z1]
  simp [-Bool.exists_bool]
  refine ⟨_, _, _, .int, rfl, rfl, ?_⟩
  have z2 : inW (.int (s.2 : Int)) 0 ((n : Int) - 1) = true := by simp [inW]; omega
  rw [z2]
  exact fg q
end RD

set_option Elab.async false
set_option linter.all false
set_option maxRecDepth 20000
/-! M2: works, doors, lots are what they are. -/
namespace RD
open PySem DL
theorem eS_inj {s t : Sp} (h : eS s = eS t) : s = t := by
  unfold eS at h
  simp at h
  exact Prod.ext (by have := h.1; omega) (by have := h.2; omega)
theorem eS_eq {s t : Sp} : (eS s = eS t) ↔ s = t := ⟨eS_inj, fun h => by rw [h]⟩
theorem eD_inj {d e : Sp × Sp} (h : eD d = eD e) : d = e := by
  unfold eD at h
  simp [eS_eq] at h
  exact Prod.ext h.1 h.2
@[simp] theorem tset_name {i : Nat} {d : D} {δ : DS} : tset (.name i) d δ = some (δ.set i (some d)) := rfl
@[simp] theorem flat_eS (s : Sp) : flatD (eS s) = true := rfl
@[simp] theorem pl_eS (s : Sp) : plD (eS s) = true := rfl
@[simp] theorem ok_eS (s : Sp) : okP (eS s) = true := ok_small (k := 1) rfl (by decide)
@[simp] theorem flat_eD (s : Sp × Sp) : flatD (eD s) = true := rfl
@[simp] theorem ok_eD (s : Sp × Sp) : okP (eD s) = true := ok_small (k := 2) rfl (by decide)
@[simp] theorem okKey_eS (s : Sp) : okKey (eS s) = true := rfl
theorem r_eqS {s t : Sp} {M : MH} {Q : DQ} (q : Q (.bl (decide (s = t))) M) : ruleCmp .Eq (eS s) (eS t) M Q :=
  r_eqF rfl rfl rfl rfl (ok_eS s) (ok_eS t) (by simp only [eS_eq]; exact q)
theorem r_neS {s t : Sp} {M : MH} {Q : DQ} (q : Q (.bl (!decide (s = t))) M) : ruleCmp .NotEq (eS s) (eS t) M Q :=
  r_neF rfl rfl rfl rfl (ok_eS s) (ok_eS t) (by simp only [eS_eq]; exact q)
/-- x in a tuple, in a list of plain things -/
theorem any_dec {x : D} (hx : plD x = true) : ∀ {ds : List D}, (∀ d ∈ ds, plD d = true) → anyD x ds = decide (x ∈ ds)
  | [], _ => by simp [anyD, toPs]
  | d :: ds, h => by
    have ih := any_dec hx (ds := ds) fun e he => h e (List.mem_cons_of_mem _ he)
    have z : PyData.eqv (toP d) (toP x) = decide (d = x) := eqD_plain (h d List.mem_cons_self) hx
    show (PyData.eqv (toP d) (toP x) || anyD x ds) = _
    rw [z, ih]
    by_cases e : d = x
    · simp [e]
    · have e2 : ¬ x = d := fun c => e c.symm
      simp [e, e2]
theorem r_inT {x : D} {ds : List D} {M : MH} {Q : DQ} (fx : flatD x = true) (px : plD x = true) (ox : okP x = true) (fd : ds.all flatD = true) (pd : ∀ d ∈ ds, plD d = true) (od : okP (.tup ds) = true) (q : Q (.bl (decide (x ∈ ds))) M) : ruleCmp .In x (.tup ds) M Q :=
  .inl ⟨x, .tup ds, ds, Dn.flat x fx, Dn.flat (.tup ds) (by rw [flatD, flatDs_all]; exact fd), .inr rfl, ox, od, by rw [any_dec px pd]; exact q⟩
theorem r_inL {x : D} {ds : List D} {M : MH} {Q : DQ} {p : Nat} (hp : M p = some (.lst ds)) (fx : flatD x = true) (px : plD x = true) (ox : okP x = true) (fd : ds.all flatD = true) (pd : ∀ d ∈ ds, plD d = true) (od : okP (.cst ds) = true) (q : Q (.bl (decide (x ∈ ds))) M) : ruleCmp .In x (.ref p) M Q :=
  .inl ⟨x, .cst ds, ds, Dn.flat x fx, Dn.ofL hp (by rw [flatDs_all]; exact fd), .inl rfl, ox, od, by rw [any_dec px pd]; exact q⟩
theorem r_notInL {x : D} {ds : List D} {M : MH} {Q : DQ} {p : Nat} (hp : M p = some (.lst ds)) (fx : flatD x = true) (px : plD x = true) (ox : okP x = true) (fd : ds.all flatD = true) (pd : ∀ d ∈ ds, plD d = true) (od : okP (.cst ds) = true) (q : Q (.bl (!decide (x ∈ ds))) M) : ruleCmp .NotIn x (.ref p) M Q :=
  .inl ⟨x, .cst ds, ds, Dn.flat x fx, Dn.ofL hp (by rw [flatDs_all]; exact fd), .inl rfl, ox, od, by rw [any_dec px pd]; exact q⟩
theorem enum_of (l : List D) (P : Nat → D → Prop) : True := trivial
theorem door_get {w : Wo} {l : List Nat} (gl : GoodL w l) {i : Nat} (hi : i ∈ l) : ∃ d, w.doors[i]? = some d := ⟨_, List.getElem?_eq_getElem (gl.lt i hi)⟩
/-- what is left of a lot -/
theorem thr_drop {doors : List (Sp × Sp)} {s : Sp} {d : Sp × Sp} {i : Nat} {l : List Nat} (h : doors[i]? = some d) : thr doors (i :: l) s = if s = d.1 then d.2 else if s = d.2 then d.1 else thr doors l s := by
  rw [thr, h]
theorem m_through : Meets sp_through N_through P_through t_through := by
  rintro ds M Q W ⟨w, l, s, rfl, gl, q⟩
  refine ⟨rfl, ?_⟩
  simp [-Bool.exists_bool, t_through, dstart, N_through, eL]
  refine for_inv (fun i δ M' => M' = M ∧ thr w.doors l s = thr w.doors (l.drop i) s ∧ ∃ x y z, δ = [some (eW w), some (eL l), some (eS s), x, y, z]) ⟨rfl, rfl, none, none, none, rfl⟩ (fun _ _ _ _ _ => trivial) ?_ ?_
  · rintro i x δ M' hx ⟨rfl, e, x1, y1, z1, rfl⟩
    rw [List.getElem?_map, Option.map_eq_some_iff] at hx
    obtain ⟨k, hk, rfl⟩ := hx
    obtain ⟨d, hd⟩ := door_get gl (List.mem_of_getElem? hk)
    have hlt := (List.getElem?_eq_some_iff.mp hk).1
    have ed : l.drop i = k :: l.drop (i + 1) := by
      rw [List.drop_eq_getElem_cons hlt]
      have := (List.getElem?_eq_some_iff.mp hk).2
      rw [this]
    rw [ed, thr_drop hd] at e
    refine ⟨_, rfl, fun N hN => ?_⟩
    simp [-Bool.exists_bool, eW, eN, hd]
    refine ⟨[some (eW w), some (eL l), some (eS s), some (eN k), some (eS d.1), some (eS d.2)], by simp [tset, tsets, eD, eW, eL, eN], ?_⟩
    simp [-Bool.exists_bool]
    refine r_inT (ds := [eS d.1, eS d.2]) rfl rfl (ok_eS s) rfl (by intro x hx; simp at hx; rcases hx with h | h <;> rw [h] <;> rfl) (ok_small (k := 2) rfl (by decide)) ?_
    refine ⟨_, rfl, ?_⟩
    simp only [List.mem_cons, List.not_mem_nil, or_false, eS_eq, decide_eq_true_eq]
    by_cases c1 : s = d.1
    · rw [if_pos (.inl c1)]
      refine r_eqS ?_
      refine ⟨_, rfl, ?_⟩
      rw [if_pos (decide_eq_true c1)]
      rw [if_pos c1] at e
      exact fg (by rw [← e]; exact q)
    · by_cases c2 : s = d.2
      · rw [if_pos (.inr c2)]
        refine r_eqS ?_
        refine ⟨_, rfl, ?_⟩
        rw [if_neg (by simpa using c1)]
        rw [if_neg c1, if_pos c2] at e
        exact fg (by rw [← e]; exact q)
      · rw [if_neg (by simp [c1, c2])]
        rw [if_neg c1, if_neg c2] at e
        exact hN _ _ ⟨rfl, e, _, _, _, rfl⟩
  · rintro δ M' ⟨rfl, e, x1, y1, z1, rfl⟩
    rw [List.length_map, List.drop_length] at e
    simp
    exact fg (by rw [e] at q; exact q)
theorem m_tick_led : Meets sp_tick_led N_tick_led P_tick_led t_tick_led := by
  rintro ds M Q W ⟨w, l, s, rfl, g, gl, hs, q⟩
  refine ⟨rfl, ?_⟩
  simp [-Bool.exists_bool, t_tick_led, dstart, N_tick_led]
  have z : ∀ {Q : DQ}, Q (eL w.rings) M → ruleIx (eW w) (.int 0) M Q := fun {Q} q => by simp [eW]; exact q
  exact z ⟨w, l, s, rfl, gl, w.rings, _, rfl, thr_on g gl hs, fg q⟩
theorem m_law_tick : Meets sp_law_tick N_law_tick P_law_tick t_law_tick := by
  rintro ds M Q W ⟨w, l, s, rfl, g, gl, hs, q⟩
  refine ⟨rfl, ?_⟩
  have fin : ∀ {s' : Sp} {x y z : Option D} {b1 b2 : D}, turn w.rings s' = step w l s → onR w.rings s' → dRet (dTup (dCons (dBin ruleIx (dVar 2) (dC (.int 0))) (dCons (dBin (ruleBin .Mod) (dBin (ruleBin .Add) (dBin ruleIx (dVar 2) (dC (.int 1))) (dC (.int 1))) (dBin ruleIx (dBin ruleIx (dVar 0) (dC (.int 0))) (dBin ruleIx (dVar 2) (dC (.int 0))))) dNil))) W0 (fnEnds Q) [some (eW w), some (eL l), some (eS s'), x, y, z] M := by
    intro s' x y z b1 b2 e ⟨n, h1, h2⟩
    simp [-Bool.exists_bool, eS, eW, eL, eN, h1]
    refine ⟨by omega, fg ?_⟩
    have e3 : ((s'.2 : Int) + 1).fmod (n : Int) = (((s'.2 + 1) % n : Nat) : Int) := by rw [← fmod_nat]; rfl
    rw [e3]
    have z : eS (turn w.rings s') = .tup [.int (s'.1 : Nat), .int (((s'.2 + 1) % n : Nat) : Nat)] := by unfold turn; rw [h1]; rfl
    rw [← z, e]
    exact q
  simp [-Bool.exists_bool, t_law_tick, dstart, N_law_tick, -w_ret]
  refine ⟨l.map eN, rfl, ?_⟩
  refine for_inv (fun i δ M' => M' = M ∧ thr w.doors l s = thr w.doors (l.drop i) s ∧ ∃ x y z, δ = [some (eW w), some (eL l), some (eS s), x, y, z]) ⟨rfl, rfl, none, none, none, rfl⟩ (fun _ _ _ _ _ => trivial) ?_ ?_
  · rintro i x δ M' hx ⟨rfl, e, x1, y1, z1, rfl⟩
    rw [List.getElem?_map, Option.map_eq_some_iff] at hx
    obtain ⟨k, hk, rfl⟩ := hx
    obtain ⟨d, hd⟩ := door_get gl (List.mem_of_getElem? hk)
    have hlt := (List.getElem?_eq_some_iff.mp hk).1
    have ed : l.drop i = k :: l.drop (i + 1) := by
      rw [List.drop_eq_getElem_cons hlt, (List.getElem?_eq_some_iff.mp hk).2]
    rw [ed, thr_drop hd] at e
    have don := g.on d (List.mem_of_getElem? hd)
    refine ⟨_, rfl, fun N hN => ?_⟩
    simp [-Bool.exists_bool, eW, eN, hd, -w_ret]
    refine ⟨[some (eW w), some (eL l), some (eS s), some (eN k), some (eS d.1), some (eS d.2)], by simp [tset, tsets, eD, eW, eL, eN], ?_⟩
    simp [-Bool.exists_bool, -w_ret]
    refine r_eqS ?_
    refine ⟨_, rfl, ?_⟩
    by_cases c1 : s = d.1
    · rw [if_pos (decide_eq_true c1)]
      refine r_eqS ?_
      refine ⟨_, rfl, ?_⟩
      rw [if_pos (decide_eq_true c1)]
      rw [if_pos c1] at e
      exact fin (b1 := .non) (b2 := .non) (by unfold step; rw [e]) don.2.1
    · rw [if_neg (by simpa using c1)]
      refine r_eqS ?_
      refine ⟨_, rfl, ?_⟩
      by_cases c2 : s = d.2
      · rw [if_pos (decide_eq_true c2)]
        refine r_eqS ?_
        refine ⟨_, rfl, ?_⟩
        rw [if_neg (by simpa using c1)]
        rw [if_neg c1, if_pos c2] at e
        exact fin (b1 := .non) (b2 := .non) (by unfold step; rw [e]) don.1
      · rw [if_neg (by simpa using c2)]
        rw [if_neg c1, if_neg c2] at e
        exact hN _ _ ⟨rfl, e, _, _, _, rfl⟩
  · rintro δ M' ⟨rfl, e, x1, y1, z1, rfl⟩
    rw [List.length_map, List.drop_length] at e
    exact fin (b1 := .non) (b2 := .non) (by unfold step; rw [e]; rfl) hs
end RD

set_option Elab.async false
set_option linter.all false
set_option maxRecDepth 20000
/-! M3: works, doors, lots are found right. -/
namespace RD
open PySem DL
theorem pw {rings : List Nat} (P : Prop) : P → P := id
theorem eL_len (l : List Nat) : (l.map eN).length = l.length := List.length_map ..
/-- all([...]) of what is right everywhere -/
theorem all_true {items : List D} {M : MH} {QQ : DQ} {p : Nat} (q : QQ (.bl true) (up M p (.lst (items.map fun _ => .bl true)))) : rAllD [.ref p] (up M p (.lst (items.map fun _ => .bl true))) QQ := by
  refine r_all (bs := items.map fun _ => true) up_same (by rw [List.map_map]; rfl) ?_
  have z : (items.map fun _ => true).all id = true := by simp
  rw [z]
  exact q
theorem fgs {Q : DQ} {d : D} {M M' : MH} (s : Sub M M') (h : Q d M) : Fg Q d M' := ⟨M, s, h⟩
theorem m_is_door : Meets sp_is_door N_is_door P_is_door t_is_door := by
  rintro ds M Q W ⟨rings, d, rfl, h1, h2, h3, q⟩
  refine ⟨rfl, ?_⟩
  simp [-Bool.exists_bool, t_is_door, dstart, N_is_door, eD, isaT]
  refine acc_map (fun _ => .bl true) trivial (by simp) ?_ ?_
  · intro x hx
    refine ⟨_, rfl, fun Q' q' => ?_⟩
    simp [-Bool.exists_bool, wipeD]
    simp at hx
    rcases hx with rfl | rfl
    · exact ⟨rings, _, rfl, h1, q'⟩
    · exact ⟨rings, _, rfl, h2, q'⟩
  · intro p hp
    refine all_true ?_
    simp [-Bool.exists_bool, eS]
    refine fgs (Sub.new hp) ?_
    have z : (d.1.1 : Int) < d.2.1 := by omega
    simpa [h3, tru] using q
theorem good_sum {rings : List Nat} : intsOf (rings.map eN) = some (rings.map fun (n : Nat) => (n : Int)) := by
  induction rings with
  | nil => rfl
  | cons n l ih => rw [List.map_cons, eN, intsOf, ih]; rfl
theorem sum_cast (rings : List Nat) : (rings.map fun (n : Nat) => (n : Int)).sum = ((rings.sum : Nat) : Int) := by
  induction rings with
  | nil => rfl
  | cons n l ih => rw [List.map_cons, List.sum_cons, List.sum_cons, ih]; omega
theorem m_are_rings : Meets sp_are_rings N_are_rings P_are_rings t_are_rings := by
  rintro ds M Q W ⟨rings, rfl, ⟨h1, h2, h3, h4⟩, q⟩
  refine ⟨rfl, ?_⟩
  have z1 : ((1 : Int) ≤ rings.length) := by omega
  have z2 : ((rings.length : Int) ≤ 4) := by omega
  simp [-Bool.exists_bool, t_are_rings, dstart, N_are_rings, eL, isaT, z1, z2]
  refine acc_map (fun _ => .bl true) trivial (by simp; omega) ?_ ?_
  · intro x hx
    obtain ⟨n, hn, rfl⟩ := List.mem_map.mp hx
    refine ⟨_, rfl, fun Q' q' => ?_⟩
    simp [-Bool.exists_bool, wipeD]
    refine ⟨_, _, _, .int, rfl, rfl, ?_⟩
    have := h3 n hn
    have z : inW (eN n) 1 40 = true := by simp [inW, eN]; omega
    rw [z]
    exact q'
  · intro p hp
    refine all_true ?_
    simp [-Bool.exists_bool]
    refine ⟨_, _, _, rfl, by rfl, good_sum, ?_⟩
    rw [sum_cast]
    simp
    refine fgs (Sub.new hp) ?_
    have z : ((rings.sum : Nat) : Int) ≤ 100 := by omega
    simpa [z, tru] using q
theorem ends_len (ds : List (Sp × Sp)) : (ends ds).length = 2 * ds.length := by
  induction ds with
  | nil => rfl
  | cons d ds ih =>
    have e : ends (d :: ds) = [d.1, d.2] ++ ends ds := rfl
    rw [e, List.length_append, ih, List.length_cons]
    simp
    omega
theorem good_r {w : Wo} (g : GoodW w) : GoodR w.rings := ⟨g.l1, g.l4, g.each, g.sum⟩
theorem m_is_works : Meets sp_is_works N_is_works P_is_works t_is_works := by
  rintro ds M Q W ⟨w, rfl, g, q⟩
  refine ⟨rfl, ?_⟩
  simp [-Bool.exists_bool, t_is_works, dstart, N_is_works, eW, isaT]
  refine ⟨w.rings, rfl, good_r g, ?_⟩
  simp [-Bool.exists_bool, tru]
  exact ⟨w, rfl, g, fg q⟩
theorem lt_spot {a b : Sp} : ltD (eS a) (eS b) = decide (spLt a b) := by
  unfold ltD eS
  rw [toP, toPs, toPs, toPs, toP, toP, toP, toPs, toPs, toPs, toP, toP, PySem.W.dataLt_ii]
  refine decide_eq_decide.mpr ?_
  unfold spLt
  omega
theorem lt_nat {a b : Nat} : ltD (eN a) (eN b) = decide (a < b) := by
  unfold ltD eN
  rw [toP, toP, PySem.W.dataLt_int, Bool.eq_iff_iff]
  simp
theorem lt_door {a b : Sp × Sp} : ltD (eD a) (eD b) = decide (drLt a b) := by
  have al : ∀ s t : Sp, PySem.W.alike (toP (eS s)) (toP (eS t)) = true := fun s t => rfl
  have z : toP (eD a) = .tuple [toP (eS a.1), toP (eS a.2)] := rfl
  have z2 : toP (eD b) = .tuple [toP (eS b.1), toP (eS b.2)] := rfl
  have eq : ∀ s t : Sp, PyData.eqv (toP (eS s)) (toP (eS t)) = decide (s = t) := fun s t => (eqD_plain (x := eS s) (y := eS t) rfl rfl).trans (by simp only [eS_eq])
  have l1 : PySem.W.dataLt (toP (eS a.1)) (toP (eS b.1)) = decide (spLt a.1 b.1) := lt_spot
  have l2 : PySem.W.dataLt (toP (eS a.2)) (toP (eS b.2)) = decide (spLt a.2 b.2) := lt_spot
  unfold ltD
  rw [z, z2, PySem.W.dataLt_pair (al _ _) (al _ _), eq, eq, l1, l2]
  unfold drLt
  have irr : ∀ s : Sp, ¬ spLt s s := fun s h => by unfold spLt at h; omega
  by_cases c1 : a.1 = b.1
  · by_cases c2 : a.2 = b.2
    · simp [c1, c2, irr]
    · simp [c1, c2, irr]
  · simp [c1]
theorem adj_of {α : Type} {lt : α → α → Prop} (f : α → D) : ∀ {l : List α}, (∀ a b, lt a b → ltD (f a) (f b) = true) → Asc lt l → adjB (l.map f) = true := by
  intro l h asc
  unfold adjB
  rw [List.all_eq_true]
  intro p hp
  obtain ⟨i, hi⟩ := List.getElem?_of_mem hp
  rw [List.getElem?_zip_eq_some] at hi
  obtain ⟨h1, h2⟩ := hi
  rw [List.getElem?_map, Option.map_eq_some_iff] at h1
  obtain ⟨a, ha, e1⟩ := h1
  rw [List.getElem?_drop, List.getElem?_map, Option.map_eq_some_iff] at h2
  obtain ⟨b, hb, e2⟩ := h2
  rw [Nat.add_comm] at hb
  rw [← e1, ← e2]
  exact h a b (asc i a b ha hb)
theorem zipD_len (xs ys : List D) : (zipD xs ys).length = min xs.length ys.length := by unfold zipD; rw [List.length_zipWith]
theorem cut1 (xs : List D) : cutD xs (some 1) none = xs.drop 1 := by
  unfold cutD
  have e : HT.sIx xs.length 0 (some 1) = min 1 xs.length := HT.sIx_nat _ _ 1
  rw [e, HT.sIx_none]
  cases xs with
  | nil => rfl
  | cons x xs =>
    have z : min 1 (x :: xs).length = 1 := by rw [List.length_cons]; omega
    rw [z]
    simp
theorem m_rises : Meets sp_rises N_rises P_rises t_rises := by
  rintro ds M Q W ⟨xs, rfl, hl, hc, q⟩
  refine ⟨rfl, ?_⟩
  simp [-Bool.exists_bool, t_rises, dstart, N_rises]
  refine ⟨xs, rfl, .inl ⟨⟨_, rfl⟩, ?_⟩⟩
  rw [cut1]
  refine ⟨_, _, ⟨rfl, rfl⟩, _, rfl, _, rfl, ?_⟩
  have cmp : ∀ x ∈ xs, ∀ y ∈ xs, flatD x = true ∧ flatD y = true ∧ okP x = true ∧ okP y = true ∧ alikeD x y = true ∧ x ≠ .non := by
    unfold comparable at hc
    rw [Bool.and_eq_true, Bool.and_eq_true, Bool.and_eq_true] at hc
    obtain ⟨⟨⟨c1, c2⟩, c3⟩, c4⟩ := hc
    intro x hx y hy
    have fl := flat_mem c1
    have c2 := List.all_eq_true.mp c2
    exact ⟨fl x hx, fl y hy, c2 x hx, c2 y hy, List.all_eq_true.mp (List.all_eq_true.mp c3 x hx) y hy, of_decide_eq_true (List.all_eq_true.mp c4 x hx)⟩
  refine acc_map (fun d => match d with | .tup [a, b] => .bl (ltD a b) | _ => .non) ⟨trivial, trivial⟩ (by rw [zipD_len]; simp; omega) ?_ ?_
  · intro x hx
    unfold zipD at hx
    obtain ⟨i, hi⟩ := List.getElem?_of_mem hx
    rw [List.getElem?_zipWith_eq_some] at hi
    obtain ⟨a, b, ha, hb, rfl⟩ := hi
    have am := List.mem_of_getElem? ha
    have bm := List.mem_of_mem_drop (List.mem_of_getElem? hb)
    obtain ⟨f1, f2, o1, o2, al, nn⟩ := cmp a am b bm
    refine ⟨[some (.tup xs), some a, some b], by simp [tset, tsets, wipeD], fun Q' q' => ?_⟩
    simp [-Bool.exists_bool]
    exact .inr ⟨a, b, Dn.flat a f1, Dn.flat b f2, o1, o2, al, nn, q'⟩
  · intro p hp
    refine r_all (bs := (xs.zip (xs.drop 1)).map fun p => ltD p.1 p.2) up_same ?_ ?_
    · unfold zipD
      rw [← List.map_uncurry_zip_eq_zipWith, List.map_map, List.map_map]
      rfl
    · refine fgs (Sub.new hp) ?_
      rw [List.all_map]
      exact q
end RD

set_option Elab.async false
set_option linter.all false
set_option maxRecDepth 20000
/-! M4: doors, lots, stands; spots. -/
namespace RD
open PySem DL
theorem aget_no {k : D} : ∀ {kvs : List (D × D)}, k ∉ kvs.map (·.1) → aget kvs k = none
  | [], _ => rfl
  | p :: r, h => by
    unfold aget
    rw [List.map_cons, List.mem_cons, not_or] at h
    rw [if_neg (fun c => h.1 c.symm)]
    exact aget_no h.2
theorem aget_mem {α : Type} (key val : α → D) (inj : ∀ a b, key a = key b → a = b) : ∀ {l : List α} {a : α}, a ∈ l → aget (l.map fun a => (key a, val a)) (key a) = some (val a)
  | [], _, h => by cases h
  | b :: l, a, h => by
    rw [List.map_cons]
    unfold aget
    by_cases e : key b = key a
    · rw [if_pos e, inj _ _ e]
    · rw [if_neg e]
      exact aget_mem key val inj ((List.mem_cons.mp h).resolve_left fun c => e (by rw [c]))
theorem then_yes {α : Type} {bd : BD α} {δ : DS} {acc : α} {M : MH} {R : α → MH → Prop} (h : bd δ acc M R) : thenB dYes bd δ acc M R := by
  show (if true = true then bd δ acc M R else R acc M)
  rw [if_pos rfl]
  exact h
/-- a dict comprehension's pairs, all keys new -/
theorem put_new {al : MH → Prop} {g : Tg} {δ : DS} {tk tv : DTE} {M : MH} {R : List (D × D) → MH → Prop} (key val : D → D) (hal : al M) : ∀ {items : List D} {acc : List (D × D)}, acc.length + items.length ≤ 1000 → (items.map key).Nodup → (∀ x ∈ items, key x ∉ acc.map (·.1)) →
    (∀ x ∈ items, ∃ δ', tset g x δ = some δ' ∧ (∀ Q : DQ, Q (key x) M → tk W0 δ' M Q) ∧ (∀ Q : DQ, Q (val x) M → tv W0 δ' M Q) ∧ okKey (key x) = true) → R (acc ++ items.map fun x => (key x, val x)) M → accG al g δ (thenB dYes (bdPut tk tv)) items acc M R
  | [], acc, _, _, _, _, h => ⟨hal, by simpa using h⟩
  | x :: items, acc, hl, nd, hn, hs, h => by
    obtain ⟨δ', h1, h2, h3, h4⟩ := hs x List.mem_cons_self
    rw [List.map_cons, List.nodup_cons] at nd
    rw [List.length_cons] at hl
    refine ⟨hal, δ', h1, then_yes ?_⟩
    refine h2 _ (h3 _ ⟨h4, by simp; omega, ?_⟩)
    rw [aput_none (aget_no (hn x List.mem_cons_self))]
    refine put_new key val hal (by simp; omega) nd.2 (fun y hy => ?_) (fun y hy => hs y (List.mem_cons_of_mem _ hy)) (by simpa using h)
    rw [List.map_append, List.mem_append, not_or]
    refine ⟨hn y (List.mem_cons_of_mem _ hy), ?_⟩
    simp only [List.map_cons, List.map_nil, List.mem_singleton]
    intro c
    exact nd.1 (by rw [← c]; exact List.mem_map.mpr ⟨y, hy, rfl⟩)
theorem comparable_of_map {α : Type} (f : α → D) (h : ∀ a, flatD (f a) = true ∧ okP (f a) = true ∧ f a ≠ .non) (h2 : ∀ a b, alikeD (f a) (f b) = true) (l : List α) : comparable (l.map f) = true := by
  unfold comparable
  rw [Bool.and_eq_true, Bool.and_eq_true, Bool.and_eq_true]
  refine ⟨⟨⟨?_, ?_⟩, ?_⟩, ?_⟩
  · rw [flatDs_all, List.all_eq_true]
    intro x hx
    obtain ⟨a, _, rfl⟩ := List.mem_map.mp hx
    exact (h a).1
  · rw [List.all_eq_true]
    intro x hx
    obtain ⟨a, _, rfl⟩ := List.mem_map.mp hx
    exact (h a).2.1
  · rw [List.all_eq_true]
    intro x hx
    obtain ⟨a, _, rfl⟩ := List.mem_map.mp hx
    rw [List.all_eq_true]
    intro y hy
    obtain ⟨b, _, rfl⟩ := List.mem_map.mp hy
    exact h2 a b
  · rw [List.all_eq_true]
    intro x hx
    obtain ⟨a, _, rfl⟩ := List.mem_map.mp hx
    exact decide_eq_true (h a).2.2
theorem cmp_doors (l : List (Sp × Sp)) : comparable (l.map eD) = true := comparable_of_map eD (fun a => ⟨rfl, ok_eD a, by unfold eD; exact fun c => by cases c⟩) (fun a b => rfl) l
theorem cmp_nats (l : List Nat) : comparable (l.map eN) = true := comparable_of_map eN (fun a => ⟨rfl, ok_small (k := 0) rfl (by decide), by unfold eN; exact fun c => by cases c⟩) (fun a b => rfl) l
theorem cmp_spots (l : List Sp) : comparable (l.map eS) = true := comparable_of_map eS (fun a => ⟨rfl, ok_eS a, by unfold eS; exact fun c => by cases c⟩) (fun a b => rfl) l
theorem m_is_lot : Meets sp_is_lot N_is_lot P_is_lot t_is_lot := by
  rintro ds M Q W ⟨w, l, rfl, g, gl, q⟩
  refine ⟨rfl, ?_⟩
  have hll : l.length ≤ 6 := by
    have nd : l.Nodup := by
      have gen : ∀ (k : Nat) (l : List Nat), l.length = k → Asc (· < ·) l → List.Pairwise (· < ·) l := by
        intro k l _ asc
        rw [List.pairwise_iff_getElem]
        have key : ∀ d i (hi : i + 1 + d < l.length), l[i] < l[i + 1 + d] := by
          intro d
          induction d with
          | zero => intro i hi; exact asc i _ _ (List.getElem?_eq_getElem (by omega)) (List.getElem?_eq_getElem hi)
          | succ d ih =>
            intro i hi
            have a := ih i (by omega)
            have b := asc (i + 1 + d) l[i + 1 + d] l[i + 1 + d + 1] (List.getElem?_eq_getElem (by omega)) (List.getElem?_eq_getElem (by omega))
            exact Nat.lt_trans a b
        intro i j hi hj hij
        have e : j = i + 1 + (j - i - 1) := by omega
        have z := key (j - i - 1) i (by omega)
        simpa [← e] using z
      exact (gen _ l rfl gl.asc).imp (fun h => Nat.ne_of_lt h)
    have z := len_of_sub nd (S := List.range w.doors.length) fun i hi => List.mem_range.mpr (gl.lt i hi)
    rw [List.length_range] at z
    have := g.dl
    omega
  simp [-Bool.exists_bool, t_is_lot, dstart, N_is_lot, eL, isaT]
  refine acc_map (fun _ => .bl true) trivial (by simp; omega) ?_ ?_
  · intro x hx
    obtain ⟨n, hn, rfl⟩ := List.mem_map.mp hx
    refine ⟨_, rfl, fun Q' q' => ?_⟩
    simp [-Bool.exists_bool, wipeD, eW]
    refine ⟨_, _, _, .int, rfl, rfl, ?_⟩
    have := gl.lt n hn
    have z : inW (eN n) 0 ((w.doors.length : Int) - 1) = true := by simp [inW, eN]; omega
    rw [z]
    exact q'
  · intro p hp
    refine all_true ?_
    simp [-Bool.exists_bool]
    refine ⟨_, rfl, by simp; omega, cmp_nats l, ?_⟩
    rw [adj_of eN (lt := (· < ·)) (fun a b h => by rw [lt_nat]; exact decide_eq_true h) gl.asc]
    exact fgs (Sub.new hp) q
theorem ends_take {ds : List (Sp × Sp)} {i : Nat} {d : Sp × Sp} (h : ds[i]? = some d) : ends (ds.take (i + 1)) = ends (ds.take i) ++ [d.1, d.2] := by
  unfold ends
  rw [List.take_add_one, h, List.flatMap_append]
  rfl
theorem m_are_doors : Meets sp_are_doors N_are_doors P_are_doors t_are_doors := by
  rintro ds M Q W ⟨w, rfl, g, q⟩
  refine ⟨rfl, ?_⟩
  have hdl := g.dl
  have z6 : ¬ ((6 : Int) < w.doors.length) := by omega
  simp [-Bool.exists_bool, t_are_doors, dstart, N_are_doors, isaT, z6]
  refine acc_map (fun _ => .bl true) trivial (by simp; omega) ?_ ?_
  · intro x hx
    obtain ⟨d, hd, rfl⟩ := List.mem_map.mp hx
    refine ⟨_, rfl, fun Q' q' => ?_⟩
    simp [-Bool.exists_bool, wipeD]
    have z := g.on d hd
    exact ⟨w.rings, d, rfl, z.1, z.2.1, z.2.2, q'⟩
  · intro p hp
    refine all_true ?_
    simp [-Bool.exists_bool]
    refine ⟨_, rfl, by simp; omega, cmp_doors _, _, rfl, ?_⟩
    rw [adj_of eD (lt := drLt) (fun a b h => by rw [lt_door]; exact decide_eq_true h) g.asc, if_pos rfl]
    refine accG_inv (fun i acc M' => acc = (ends (w.doors.take i)).map (fun s => (eS s, D.bl true)) ∧ M' = up M p (.lst (w.doors.map fun _ => .bl true))) ⟨rfl, rfl⟩ (fun _ _ _ _ _ => trivial) ?_ ?_
    · rintro i x acc M' hx ⟨rfl, rfl⟩
      rw [List.getElem?_map, Option.map_eq_some_iff] at hx
      obtain ⟨d, hd, rfl⟩ := hx
      refine ⟨_, rfl, fun R hR => then_yes ?_⟩
      show diSeq (dVar 3) W0 _ _ _
      simp [-Bool.exists_bool, wipeD, eD]
      have ea := ends_take hd
      have lt := (List.getElem?_eq_some_iff.mp hd).1
      have nd : (ends (w.doors.take (i + 1))).Nodup := by
        have e : w.doors = w.doors.take (i + 1) ++ w.doors.drop (i + 1) := (List.take_append_drop _ _).symm
        have z := g.nd
        rw [e] at z
        unfold ends at z ⊢
        rw [List.flatMap_append] at z
        exact (List.nodup_append.mp z).1
      rw [ea, List.nodup_append] at nd
      obtain ⟨n1, n2, n3⟩ := nd
      refine put_new id (fun _ => .bl true) trivial ?_ ?_ ?_ ?_ ?_
      · have zl := ends_len (w.doors.take i)
        rw [List.length_map, zl, List.length_take]
        simp
        omega
      · simp [eS_eq]
        simpa using n2
      · intro x hx hm
        rw [List.map_map] at hm
        obtain ⟨s, hs, e⟩ := List.mem_map.mp hm
        simp at hx
        rcases hx with rfl | rfl
        · exact n3 s hs d.1 (by simp) (eS_inj e)
        · exact n3 s hs d.2 (by simp) (eS_inj e)
      · intro x hx
        refine ⟨_, rfl, fun Q' q' => ?_, fun Q' q' => q', ?_⟩
        · simpa using q'
        · simp at hx
          rcases hx with rfl | rfl <;> rfl
      · refine hR _ _ ⟨?_, rfl⟩
        rw [ea, List.map_append]
        rfl
    · rintro acc M' ⟨rfl, rfl⟩
      rw [List.length_map, List.take_length]
      intro r hr
      refine r_lenD up_same ?_
      simp [-Bool.exists_bool]
      refine r_mul (.inl (by decide)) ?_
      simp [-Bool.exists_bool]
      have zl := ends_len w.doors
      rw [zl]
      have e : (((2 * w.doors.length : Nat) : Int) = 2 * (w.doors.length : Int)) := by omega
      rw [decide_eq_true e]
      exact fgs ((Sub.new hp).trans (Sub.new hr)) q
theorem at_le {rings : List Nat} {st : List (List Nat)} (g : GoodT rings st) {i : Nat} {n : Nat} {r : List Nat} (h1 : rings[i]? = some n) (h2 : st[i]? = some r) : r.length = n ∧ ∀ x ∈ r, x ≤ 999 := by
  have z := g.sh
  rw [← z, List.getElem?_map, h2] at h1
  exact ⟨Option.some.inj h1, g.le r (List.mem_of_getElem? h2)⟩
theorem m_is_stand : Meets sp_is_stand N_is_stand P_is_stand t_is_stand := by
  rintro ds M Q W ⟨w, st, rfl, g, gt, q⟩
  refine ⟨rfl, ?_⟩
  have hl : st.length = w.rings.length := by rw [← gt.sh, List.length_map]
  simp [-Bool.exists_bool, t_is_stand, dstart, N_is_stand, eW, eT, eL, isaT, hl]
  refine ⟨_, _, ⟨rfl, rfl⟩, _, rfl, _, rfl, ?_⟩
  refine for_inv (fun i δ M' => Sub M M' ∧ ∃ x y z, δ = [some (.tup [.tup (w.rings.map eN), .tup (w.doors.map eD)]), some (.tup (st.map eL)), some (.tup (w.rings.map eN)), x, y, z]) ⟨Sub.refl M, none, none, none, rfl⟩ (fun _ _ _ _ _ => ⟨trivial, trivial⟩) ?_ ?_
  · rintro i x δ M' hx ⟨sb, x1, y1, z1, rfl⟩
    unfold zipD at hx
    rw [List.getElem?_zipWith_eq_some] at hx
    obtain ⟨a, b, ha, hb, rfl⟩ := hx
    rw [List.getElem?_map, Option.map_eq_some_iff] at ha hb
    obtain ⟨n, hn, rfl⟩ := ha
    obtain ⟨r, hr, rfl⟩ := hb
    obtain ⟨e1, e2⟩ := at_le gt hn hr
    have n40 := (g.each n (List.mem_of_getElem? hn)).2
    refine ⟨_, rfl, fun N hN => ?_⟩
    simp [-Bool.exists_bool, isaT, eN, eL, e1]
    refine acc_map (fun _ => .bl true) trivial (by simp; omega) ?_ ?_
    · intro x hx
      obtain ⟨k, hk, rfl⟩ := List.mem_map.mp hx
      refine ⟨_, rfl, fun Q' q' => ?_⟩
      simp [-Bool.exists_bool, wipeD]
      refine ⟨_, _, _, .int, rfl, rfl, ?_⟩
      have := e2 k hk
      have z : inW (eN k) 0 999 = true := by simp [inW, eN]; omega
      rw [z]
      exact q'
    · intro p hp
      refine all_true ?_
      simp [-Bool.exists_bool]
      exact hN _ _ ⟨sb.up (sb.none hp), _, _, _, rfl⟩
  · rintro δ M' ⟨sb, x1, y1, z1, rfl⟩
    simp
    exact fgs sb q
end RD

set_option Elab.async false
set_option linter.all false
set_option maxRecDepth 20000
/-! M5: spots; rounds, gone through. -/
namespace RD
open PySem DL
theorem le_sum : ∀ {l : List Nat} {n : Nat}, n ∈ l → n ≤ l.sum
  | [], _, h => by cases h
  | m :: l, n, h => by
    rw [List.sum_cons]
    rcases List.mem_cons.mp h with e | e
    · omega
    · have := le_sum e; omega
theorem from_append : ∀ (a b : List Nat) (r : Nat), spotsFrom r (a ++ b) = spotsFrom r a ++ spotsFrom (r + a.length) b
  | [], b, r => by simp [spotsFrom]
  | n :: a, b, r => by
    have e : r + 1 + a.length = r + (n :: a).length := by rw [List.length_cons]; omega
    rw [List.cons_append, spotsFrom, spotsFrom, from_append a b (r + 1), e, List.append_assoc]
theorem spots_take {rings : List Nat} {i n : Nat} (h : rings[i]? = some n) : spotsOf (rings.take (i + 1)) = spotsOf (rings.take i) ++ (List.range n).map fun p => (i, p) := by
  have hl := (List.getElem?_eq_some_iff.mp h).1
  have e : rings.take (i + 1) = rings.take i ++ [n] := by rw [List.take_add_one, h]; rfl
  have z : (rings.take i).length = i := by rw [List.length_take]; omega
  unfold spotsOf
  rw [e, from_append, z, Nat.zero_add]
  simp [spotsFrom]
theorem take_sum (rings : List Nat) (i : Nat) : (rings.take i).sum ≤ rings.sum := by
  have e : rings = rings.take i ++ rings.drop i := (List.take_append_drop _ _).symm
  have z := congrArg List.sum e
  rw [List.sum_append] at z
  omega
theorem enum_at {l : List Nat} {i : Nat} {y : D} (h : (enumD 0 (l.map eN))[i]? = some y) : ∃ n, l[i]? = some n ∧ y = .tup [.int (i : Nat), eN n] := by
  obtain ⟨d, h1, h2⟩ := enumD_get 0 i _ y h
  rw [List.getElem?_map, Option.map_eq_some_iff] at h1
  obtain ⟨n, hn, rfl⟩ := h1
  exact ⟨n, hn, by rw [h2, Nat.zero_add]⟩
/-- items appended, one a source's item -/
theorem app_new {al : MH → Prop} {g : Tg} {δ : DS} {te : DTE} {M : MH} {R : List D → MH → Prop} (f : D → D) (hal : al M) : ∀ {items acc : List D}, acc.length + items.length ≤ 1000 →
    (∀ x ∈ items, ∃ δ', tset g x δ = some δ' ∧ ∀ Q : DQ, Q (f x) M → te W0 δ' M Q) → R (acc ++ items.map f) M → accG al g δ (thenB dYes (bdApp te)) items acc M R
  | [], acc, _, _, h => ⟨hal, by simpa using h⟩
  | x :: items, acc, hl, hs, h => by
    obtain ⟨δ', h1, h2⟩ := hs x List.mem_cons_self
    rw [List.length_cons] at hl
    exact ⟨hal, δ', h1, then_yes (h2 _ ⟨by simp; omega, app_new f hal (by simp; omega) (fun y hy => hs y (List.mem_cons_of_mem _ hy)) (by simpa using h)⟩)⟩
theorem m_spots_of : Meets sp_spots_of N_spots_of P_spots_of t_spots_of := by
  rintro ds M Q W ⟨rings, rfl, hs, hl, q⟩
  refine ⟨rfl, ?_⟩
  simp [-Bool.exists_bool, t_spots_of, dstart, N_spots_of, eL]
  refine accG_inv (fun i acc M' => acc = (spotsOf (rings.take i)).map eS ∧ M' = M) ⟨rfl, rfl⟩ (fun _ _ _ _ _ => trivial) ?_ ?_
  · rintro i x acc M' hx ⟨rfl, rfl⟩
    obtain ⟨n, hn, rfl⟩ := enum_at hx
    have hsum : n ≤ rings.sum := le_sum (List.mem_of_getElem? hn)
    refine ⟨[some (.tup (rings.map eN)), some (.int (i : Nat)), some (eN n), none], by simp [tset, tsets, wipeD], fun R hR => then_yes ?_⟩
    show diR1 (dCons (dVar 2) dNil) W0 _ _ _
    simp [-Bool.exists_bool, wipeD]
    refine ⟨n, rfl, by omega, by omega, ?_⟩
    rw [Int.toNat_natCast, rng_eq]
    refine app_new (fun d => match d with | .int p => .tup [.int (i : Nat), .int p] | _ => .non) trivial ?_ ?_ ?_
    · have z := take_sum rings i
      rw [List.length_map, spots_len]
      simp
      omega
    · intro x hx
      obtain ⟨p, hp, rfl⟩ := List.mem_map.mp hx
      refine ⟨_, rfl, fun Q' q' => ?_⟩
      simp [-Bool.exists_bool]
      exact q'
    · refine hR _ _ ⟨?_, rfl⟩
      rw [spots_take hn, List.map_append, List.map_map, List.map_map]
      rfl
  · rintro acc M' ⟨rfl, rfl⟩
    intro p hp
    have e : (enumD 0 (rings.map eN)).length = rings.length := by rw [enumD_len, List.length_map]
    rw [e, List.take_length]
    exact fg (q p hp)
theorem m_law_spots : Meets sp_law_spots N_law_spots P_law_spots t_law_spots := by
  rintro ds M Q W ⟨rings, rfl, hs, hl, q⟩
  refine ⟨rfl, ?_⟩
  simp [-Bool.exists_bool, t_law_spots, dstart, N_law_spots, eL]
  intro p0 hp0
  refine for_inv (fun i δ M' => Sub M M' ∧ ∃ p x y z, M p = none ∧ M' p = some (.lst ((spotsOf (rings.take i)).map eS)) ∧ δ = [some (.tup (rings.map eN)), some (.ref p), x, y, z]) ⟨Sub.new hp0, p0, none, none, none, hp0, by rw [up_same]; rfl, rfl⟩ (fun _ _ _ _ _ => trivial) ?_ ?_
  · rintro i x δ M' hx ⟨sb, p, x1, y1, z1, hp, hM, rfl⟩
    obtain ⟨n, hn, rfl⟩ := enum_at hx
    have hsum : n ≤ rings.sum := le_sum (List.mem_of_getElem? hn)
    refine ⟨[some (.tup (rings.map eN)), some (.ref p), some (.int (i : Nat)), some (eN n), z1], by simp [tset, tsets], fun N hN => ?_⟩
    simp [-Bool.exists_bool, wipeD]
    refine ⟨n, rfl, by omega, by omega, ?_⟩
    rw [Int.toNat_natCast, rng_eq]
    refine acc_map (fun d => match d with | .int p => .tup [.int (i : Nat), .int p] | _ => .non) trivial (by simp; omega) ?_ ?_
    · intro x hx
      obtain ⟨k, hk, rfl⟩ := List.mem_map.mp hx
      refine ⟨_, rfl, fun Q' q' => ?_⟩
      simp [-Bool.exists_bool]
      exact q'
    · intro r hr
      have hpr : p ≠ r := by intro c; rw [c, hr] at hM; cases hM
      refine r_addL (by rw [up_ne hpr]; exact hM) up_same ?_ fun u hu => ?_
      · have z := take_sum rings i
        rw [List.length_map, spots_len]
        simp
        omega
      · have hr0 := sb.none hr
        have hu0 : M' u = none := by
          by_cases c : u = r
          · rw [c]; exact hr
          · rw [up_ne c] at hu; exact hu
        refine hN _ _ ⟨(sb.up hr0).up (sb.none hu0), u, _, _, _, sb.none hu0, ?_, rfl⟩
        rw [up_same, spots_take hn, List.map_append, List.map_map, List.map_map]
        rfl
  · rintro δ M' ⟨sb, p, x1, y1, z1, hp, hM, rfl⟩
    have e : (enumD 0 (rings.map eN)).length = rings.length := by rw [enumD_len, List.length_map]
    rw [e, List.take_length] at hM
    simp
    refine ⟨_, ?_, q p hp⟩
    intro a o h
    by_cases c : a = p
    · rw [c, up_same] at h; cases h; rw [c]; exact hM
    · rw [up_ne c] at h; exact sb a o h
theorem m_common : Meets sp_common N_common P_common t_common := by
  rintro ds M Q W ⟨a, b, rfl, ha, hb, hb2, q⟩
  refine ⟨rfl, ?_⟩
  simp [-Bool.exists_bool, t_common, dstart, N_common, eN]
  refine r_mul (.inr ⟨by omega, by omega⟩) ?_
  refine ⟨a, b, rfl, ?_⟩
  have gp : 1 ≤ Nat.gcd a b := Nat.gcd_pos_of_pos_left b ha
  have gl : Nat.gcd a b ≤ b := Nat.gcd_le_right a hb
  refine r_div (by omega) (by omega) ?_
  refine fg ?_
  have e : ((a : Int) * (b : Int)).fdiv ((Nat.gcd a b : Nat) : Int) = ((Nat.lcm a b : Nat) : Int) := by
    rw [Int.fdiv_eq_ediv_of_nonneg _ (Int.natCast_nonneg _)]
    show ((a : Int) * (b : Int)) / ((Nat.gcd a b : Nat) : Int) = ((a * b / Nat.gcd a b : Nat) : Int)
    rw [Int.natCast_ediv, Int.natCast_mul]
  rw [e]
  exact q
end RD

set_option Elab.async false
set_option linter.all false
set_option maxRecDepth 20000
/-! M6: rounds. -/
namespace RD
open PySem DL
section
variable {α : Type} [DecidableEq α] {f : α → α} {S : List α}
/-- rs found, rest still to be looked at -/
structure RI (f : α → α) (S : List α) (rs : List (List α)) (rest : List α) : Prop where
  eqn : rounds f S = rs ++ rnd f S.length S.length (rest.filter fun t => decide (t ∉ rs.flatten))
  cy : ∀ r ∈ rs, ∃ s ∈ S, r = cyc f S.length s
  nd : rs.flatten.Nodup
  sub : ∀ s ∈ rest, s ∈ S
  len : rest.length ≤ S.length
theorem RI.start : RI f S [] S := ⟨by
  have e : S.filter (fun t => decide (t ∉ ([] : List (List α)).flatten)) = S := List.filter_eq_self.mpr fun t _ => by simp
  rw [e]; rfl, fun r h => (by cases h), List.nodup_nil, fun s h => h, Nat.le_refl _⟩
theorem RI.in_S {rs : List (List α)} {rest : List α} (h : Perm f S) (r : RI f S rs rest) : ∀ s ∈ rs.flatten, s ∈ S := by
  intro s hs
  obtain ⟨c, hc, hsc⟩ := List.mem_flatten.mp hs
  obtain ⟨t, ht, rfl⟩ := r.cy c hc
  obtain ⟨k, e⟩ := (h.mem_cyc ht).mp hsc
  rw [← e]
  exact h.it_on k ht
theorem RI.skip {rs : List (List α)} {s : α} {rest : List α} (r : RI f S rs (s :: rest)) (hs : s ∈ rs.flatten) : RI f S rs rest := by
  refine ⟨?_, r.cy, r.nd, fun t ht => r.sub t (List.mem_cons_of_mem _ ht), by have := r.len; rw [List.length_cons] at this; omega⟩
  have e := r.eqn
  rw [List.filter_cons, if_neg (by simpa using hs)] at e
  exact e
theorem RI.new {rs : List (List α)} {s : α} {rest : List α} (h : Perm f S) (r : RI f S rs (s :: rest)) (hs : s ∉ rs.flatten) (k : Nat) : it f k s ∉ rs.flatten := by
  intro hk
  obtain ⟨c, hc, hsc⟩ := List.mem_flatten.mp hk
  obtain ⟨t, ht, rfl⟩ := r.cy c hc
  have sS := r.sub s List.mem_cons_self
  have z : s ∈ cyc f S.length (it f k s) := h.cyc_symm sS ((h.mem_cyc sS).mpr ⟨k, rfl⟩)
  exact hs (List.mem_flatten.mpr ⟨_, hc, h.cyc_trans ht hsc z⟩)
theorem RI.take {rs : List (List α)} {s : α} {rest : List α} (h : Perm f S) (r : RI f S rs (s :: rest)) (hs : s ∉ rs.flatten) : RI f S (rs ++ [cyc f S.length s]) rest := by
  have sS := r.sub s List.mem_cons_self
  have hl := r.len
  rw [List.length_cons] at hl
  refine ⟨?_, ?_, ?_, fun t ht => r.sub t (List.mem_cons_of_mem _ ht), by omega⟩
  · have e := r.eqn
    rw [List.filter_cons, if_pos (by simpa using hs)] at e
    obtain ⟨n, hn⟩ : ∃ n, S.length = n + 1 := ⟨S.length - 1, by omega⟩
    generalize hN : S.length = N at e hn ⊢
    rw [hn, rnd, ← hn] at e
    rw [e, List.append_assoc]
    congr 1
    rw [List.singleton_append]
    congr 1
    have ef : ((s :: rest.filter fun t => decide (t ∉ rs.flatten)).filter fun t => decide (t ∉ cyc f N s)) = rest.filter fun t => decide (t ∉ (rs ++ [cyc f N s]).flatten) := by
      rw [List.filter_cons, if_neg (by simp [self_cyc]), List.filter_filter]
      refine List.filter_congr fun t _ => ?_
      rw [List.flatten_append, List.flatten_singleton]
      by_cases c1 : t ∈ cyc f N s <;> by_cases c2 : t ∈ rs.flatten <;> simp [c1, c2]
    rw [ef]
    have lf : (rest.filter fun t => decide (t ∉ (rs ++ [cyc f N s]).flatten)).length ≤ n := Nat.le_trans (List.length_filter_le _ _) (by omega)
    rw [rnd_more lf (show n ≤ N by omega)]
  · intro c hc
    rcases List.mem_append.mp hc with c1 | c1
    · exact r.cy c c1
    · rw [List.mem_singleton.mp c1]
      exact ⟨s, sS, rfl⟩
  · rw [List.flatten_append, List.flatten_singleton, List.nodup_append]
    refine ⟨r.nd, h.cyc_nd sS, fun a ha b hb e => ?_⟩
    subst e
    obtain ⟨k, rfl⟩ := (h.mem_cyc sS).mp hb
    exact r.new h hs k ha
theorem RI.done {rs : List (List α)} (r : RI f S rs []) : rounds f S = rs := by
  have e := r.eqn
  rw [e]
  have z : rnd f S.length S.length (([] : List α).filter fun t => decide (t ∉ rs.flatten)) = [] := by
    show rnd f S.length S.length [] = []
    cases S.length <;> rfl
  rw [z, List.append_nil]
end
theorem perm_step {w : Wo} {l : List Nat} (g : GoodW w) (gl : GoodL w l) : Perm (step w l) (spotsOf w.rings) :=
  ⟨spots_nd _, fun s hs => mem_spots.mpr (step_on g gl (mem_spots.mp hs)), fun s hs t ht e => step_inj g gl (mem_spots.mp hs) (mem_spots.mp ht) e⟩
theorem aget_some {v : D} {t : Sp} : ∀ {l : List Sp}, (aget (l.map fun s => (eS s, v)) (eS t)).isSome = decide (t ∈ l)
  | [] => rfl
  | s :: l => by
    rw [List.map_cons]
    unfold aget
    by_cases e : s = t
    · rw [if_pos (by rw [e])]; simp [e]
    · rw [if_neg (fun c => e (eS_inj c)), aget_some]
      have e2 : ¬ t = s := fun c => e c.symm
      simp [e2]
theorem aput_new {v : D} {t : Sp} {l : List Sp} (h : t ∉ l) : aput (l.map fun s => (eS s, v)) (eS t) v = (l ++ [t]).map fun s => (eS s, v) := by
  have z : aget (l.map fun s => (eS s, v)) (eS t) = none := by
    cases e : aget (l.map fun s => (eS s, v)) (eS t) with
    | none => rfl
    | some y =>
      have q := aget_some (v := v) (t := t) (l := l)
      rw [e, decide_eq_false h] at q
      cases q
  rw [aput_none z, List.map_append]
  rfl
theorem range_snoc (f : Sp → Sp) (s : Sp) (k : Nat) : ((List.range (k + 1)).map fun j => it f j s) = ((List.range k).map fun j => it f j s) ++ [it f k s] := by
  rw [List.range_succ, List.map_append]
  rfl
/-- the first k of a round -/
def upTo (f : Sp → Sp) (s : Sp) (k : Nat) : List Sp := (List.range k).map fun j => it f j s
def seenO (L : List Sp) : MO := .dct (L.map fun s => (eS s, D.bl true))
def lstO (L : List Sp) : MO := .lst (L.map eS)
theorem r_ixW {w : Wo} {M : MH} {Q : DQ} (q : Q (eL w.rings) M) : ruleIx (eW w) (.int 0) M Q := by
  simp [eW]
  exact q
theorem m_rounds_by : Meets sp_rounds_by N_rounds_by P_rounds_by t_rounds_by := by
  rintro ds M Q W ⟨w, l, rfl, g, gl, q⟩
  refine ⟨rfl, ?_⟩
  have hp := perm_step g gl
  have hlen : (spotsOf w.rings).length ≤ 100 := by rw [spots_len]; exact g.sum
  simp [-Bool.exists_bool, t_rounds_by, dstart, N_rounds_by]
  intro pf hf ps hps
  have nfs : ps ≠ pf := by intro c; rw [c, up_same] at hps; cases hps
  rw [up_ne nfs] at hps
  refine r_ixW ⟨w.rings, rfl, g.sum, g.l4, fun p1 h1 => ?_⟩
  have n1s : p1 ≠ ps := by intro c; rw [c, up_same] at h1; cases h1
  rw [up_ne n1s] at h1
  have n1f : p1 ≠ pf := by intro c; rw [c, up_same] at h1; cases h1
  rw [up_ne n1f] at h1
  refine ⟨_, itemsL up_same, ?_⟩
  generalize hf0 : step w l = f at hp
  generalize hS : spotsOf w.rings = S at hp hlen
  refine for_inv (fun i δ M' => Sub M M' ∧ M' p1 = some (.lst (S.map eS)) ∧ ∃ (rs : List (List Sp)) (qs : List Nat) (x y : Option D), RI f S rs (S.drop i) ∧ (p1 :: pf :: ps :: qs).Nodup ∧ (∀ a ∈ qs, M a = none) ∧ M' pf = some (.lst (qs.map D.ref)) ∧ M' ps = some (.dct (rs.flatten.map fun s => (eS s, D.bl true))) ∧ qs.length = rs.length ∧ (∀ (i q : Nat) (r : List Sp), qs[i]? = some q → rs[i]? = some r → M' q = some (.lst (r.map eS))) ∧ δ = [some (eW w), some (eL l), some (.ref pf), some (.ref ps), x, y])
    ⟨((Sub.new hf).up hps).up h1, up_same, [], [], none, none, by simpa using RI.start, by simp [nfs.symm, n1s, n1f], by simp, by rw [up_ne n1f.symm, up_ne nfs.symm, up_same]; rfl, by rw [up_ne n1s.symm, up_same]; rfl, rfl, by simp, rfl⟩ ?_ ?_ ?_
  · rintro i δ M' _ ⟨_, h, _⟩
    show M' p1 = up _ p1 _ p1
    rw [h, up_same]
  · rintro i x δ M' hx ⟨sb, m1, rs, qs, x4, x5, ri, nd, fr, mf, ms, ql, mq, rfl⟩
    rw [List.getElem?_map, Option.map_eq_some_iff] at hx
    obtain ⟨s, hs, rfl⟩ := hx
    have hlt := (List.getElem?_eq_some_iff.mp hs).1
    have ed : S.drop i = s :: S.drop (i + 1) := by rw [List.drop_eq_getElem_cons hlt, (List.getElem?_eq_some_iff.mp hs).2]
    rw [ed] at ri
    have sS := ri.sub s List.mem_cons_self
    have flen : rs.flatten.length ≤ S.length := len_of_sub ri.nd fun t ht => ri.in_S hp t ht
    refine ⟨_, rfl, fun N hN => ?_⟩
    simp [-Bool.exists_bool]
    refine r_notInD (.inl ms) (okKey_eS s) ?_
    rw [aget_some]
    refine ⟨_, rfl, ?_⟩
    by_cases c : s ∈ rs.flatten
    · rw [if_neg (by simp [c])]
      exact hN _ _ ⟨sb, m1, rs, qs, _, _, ri.skip c, nd, fr, mf, ms, ql, mq, rfl⟩
    · rw [if_pos (by simp [c])]
      intro q hq
      have nq1 : q ≠ p1 := by intro z; rw [z, m1] at hq; cases hq
      have nqf : q ≠ pf := by intro z; rw [z, mf] at hq; cases hq
      have nqs : q ≠ ps := by intro z; rw [z, ms] at hq; cases hq
      have nqq : q ∉ qs := by
        intro z
        obtain ⟨j, hj⟩ := List.getElem?_of_mem z
        have hjl := (List.getElem?_eq_some_iff.mp hj).1
        have hr : rs[j]? = some rs[j] := List.getElem?_eq_getElem (by omega)
        rw [mq j q _ hj hr] at hq
        cases hq
      refine ⟨fun n δ M2 => ∃ k, n = per f s S.length - k ∧ k ≤ per f s S.length ∧ δ = [some (eW w), some (eL l), some (.ref pf), some (.ref ps), some (eS (it f k s)), some (.ref q)] ∧ (∀ a, a ≠ ps → a ≠ q → M2 a = M' a) ∧ M2 ps = some (seenO (rs.flatten ++ upTo f s k)) ∧ M2 q = some (lstO (upTo f s k)), ⟨_, 0, rfl, Nat.zero_le _, rfl, fun a h1 h2 => up_ne h2, by rw [up_ne nqs.symm, ms]; simp [seenO, upTo], up_same⟩, ?_⟩
      rintro n δ M2 ⟨k, rfl, hk, rfl, same, m2s, m2q⟩
      simp [-Bool.exists_bool]
      refine r_notInD (.inl m2s) (okKey_eS _) ?_
      rw [aget_some]
      refine ⟨_, rfl, ?_⟩
      have memk : it f k s ∈ (rs.flatten ++ upTo f s k) ↔ k = per f s S.length := by
        rw [List.mem_append]
        constructor
        · rintro (h | h)
          · exact absurd h (ri.new hp c k)
          · obtain ⟨j, hj, e⟩ := List.mem_map.mp h
            rw [List.mem_range] at hj
            apply Classical.byContradiction
            intro hne
            have e2 : k = (k - j) + j := by omega
            rw [e2, it_add] at e
            exact hp.per_least sS (k := k - j) (by omega) (by omega) (hp.it_inj j sS (hp.it_on (k - j) sS) e).symm
        · rintro rfl
          right
          rw [hp.per_back sS]
          exact List.mem_map.mpr ⟨0, List.mem_range.mpr (per_pos _ _ _), rfl⟩
      by_cases ck : k = per f s S.length
      · rw [decide_eq_true (memk.mpr ck), if_neg (by decide)]
        subst ck
        have m2f : M2 pf = some (.lst (qs.map D.ref)) := by rw [same pf nfs.symm nqf.symm]; exact mf
        refine ⟨ty_l m2f, r_app m2f ?_ ?_⟩
        · have z := ri.len
          have zz : qs.length ≤ rs.flatten.length := by
            rw [ql]
            have gen : ∀ (rs : List (List Sp)), (∀ r ∈ rs, 1 ≤ r.length) → rs.length ≤ rs.flatten.length := by
              intro rs
              induction rs with
              | nil => intro _; exact Nat.le_refl _
              | cons r rs ih =>
                intro h
                have a := h r List.mem_cons_self
                have b := ih fun r hr => h r (List.mem_cons_of_mem _ hr)
                rw [List.length_cons, List.flatten_cons, List.length_append]
                omega
            refine gen rs fun r hr => ?_
            obtain ⟨t, _, rfl⟩ := ri.cy r hr
            rw [cyc_len]
            exact per_pos _ _ _
          simp
          omega
        · have nd' := nd
          rw [List.nodup_cons, List.nodup_cons, List.nodup_cons] at nd'
          obtain ⟨d1, d2, d3, d4⟩ := nd'
          have upq : ∀ a, a ≠ pf → up M2 pf (.lst (qs.map D.ref ++ [.ref q])) a = M2 a := fun a h => up_ne h
          refine hN _ _ ⟨?_, ?_, rs ++ [cyc f S.length s], qs ++ [q], _, _, ri.take hp c, ?_, ?_, ?_, ?_, by simp [ql], ?_, rfl⟩
          · intro a o ha
            have naf : a ≠ pf := by intro z; rw [z, hf] at ha; cases ha
            have nas : a ≠ ps := by intro z; rw [z, hps] at ha; cases ha
            have naq : a ≠ q := by
              intro z
              rw [z] at ha
              rw [sb _ _ ha] at hq
              cases hq
            rw [up_ne naf, same a nas naq]
            exact sb a o ha
          · rw [up_ne n1f, same p1 n1s nq1.symm]
            exact m1
          · simp only [List.mem_cons, not_or] at d1 d2 d3
            simp only [List.nodup_cons, List.mem_cons, List.mem_append, List.mem_singleton, not_or]
            refine ⟨⟨d1.1, d1.2.1, d1.2.2, nq1.symm, List.not_mem_nil⟩, ⟨d2.1, d2.2, nqf.symm, List.not_mem_nil⟩, ⟨d3, nqs.symm, List.not_mem_nil⟩, ?_⟩
            rw [List.nodup_append]
            refine ⟨d4, by simp, fun a ha b hb e => ?_⟩
            rw [List.mem_singleton] at hb
            subst hb
            exact nqq (by rw [← e]; exact ha)
          · intro a ha
            rcases List.mem_append.mp ha with h | h
            · exact fr a h
            · rw [List.mem_singleton.mp h]
              exact sb.none hq
          · rw [up_same, List.map_append]
            rfl
          · rw [up_ne nfs, m2s, List.flatten_append, List.flatten_singleton]
            rfl
          · intro j q' r hj hr
            by_cases lj : j < qs.length
            · rw [List.getElem?_append_left lj] at hj
              rw [List.getElem?_append_left (by omega)] at hr
              have hm := List.mem_of_getElem? hj
              have e1 : q' ≠ pf := fun z => by
                rw [z] at hm
                simp only [List.mem_cons, not_or] at d2
                exact d2.2 hm
              have e2 : q' ≠ ps := fun z => by rw [z] at hm; exact d3 hm
              have e3 : q' ≠ q := fun z => by rw [z] at hm; exact nqq hm
              rw [up_ne e1, same q' e2 e3]
              exact mq j q' r hj hr
            · rw [List.getElem?_append_right (by omega)] at hj
              rw [List.getElem?_append_right (by omega)] at hr
              have z1 : j - qs.length = 0 := by
                have := (List.getElem?_eq_some_iff.mp hj).1
                simp at this
                omega
              rw [z1] at hj
              rw [show j - rs.length = 0 by omega] at hr
              simp at hj hr
              subst hj hr
              rw [up_ne nqf, m2q]
              rfl
      · rw [decide_eq_false fun h => ck (memk.mp h), if_pos (by decide)]
        have notm := fun h => ck (memk.mp h)
        have lenk : (rs.flatten ++ upTo f s k).length ≤ 200 := by
          have := hp.per_le sS
          unfold upTo
          rw [List.length_append, List.length_map, List.length_range]
          omega
        refine r_setD m2s (okKey_eS _) (by rw [List.length_map]; simp only [sz_]; omega) ?_
        have lq : up M2 ps (.dct (aput ((rs.flatten ++ upTo f s k).map fun s => (eS s, D.bl true)) (eS (it f k s)) (.bl true))) q = some (lstO (upTo f s k)) := by
          rw [up_ne nqs]; exact m2q
        refine ⟨ty_l lq, r_app lq (by have := hp.per_le sS; simp [upTo]; omega) ?_⟩
        refine ⟨w, l, _, rfl, g, gl, mem_spots.mp (by rw [hS]; exact hp.it_on k sS), ?_⟩
        refine ⟨per f s S.length - (k + 1), by omega, k + 1, rfl, by omega, ?_, ?_, ?_, ?_⟩
        · rw [hf0, it_succ]
        · intro a h1 h2
          rw [up_ne h2, up_ne h1]
          exact same a h1 h2
        · rw [up_ne nqs.symm, up_same, aput_new notm]
          unfold seenO upTo
          rw [range_snoc, List.append_assoc]
        · rw [up_same]
          unfold lstO upTo
          rw [range_snoc, List.map_append]
          rfl
  · rintro δ M' ⟨sb, m1, rs, qs, x4, x5, ri, nd, fr, mf, ms, ql, mq, rfl⟩
    rw [List.length_map, List.drop_length] at ri
    have er := ri.done
    simp
    refine fg (q pf M' sb hf ⟨qs, mf, ?_, ?_, ?_⟩ fun qs' e a ha => ?_)
    · rw [List.nodup_cons, List.nodup_cons, List.nodup_cons] at nd
      obtain ⟨d1, d2, d3, d4⟩ := nd
      simp only [List.mem_cons, not_or] at d2
      exact List.nodup_cons.mpr ⟨d2.2, d4⟩
    · unfold roundsW
      rw [hf0, hS, er, List.length_map]
      exact ql
    · intro i q' r hi hr
      unfold roundsW at hr
      rw [hf0, hS, er, List.getElem?_map, Option.map_eq_some_iff] at hr
      obtain ⟨r', hr', rfl⟩ := hr
      exact mq i q' r' hi hr'
    · rw [mf] at e
      injection e with e
      injection e with e
      have e2 : qs = qs' := (List.map_inj_right fun a b h => by cases h; rfl).mp e
      rw [← e2] at ha
      exact fr a ha
end RD

set_option Elab.async false
set_option linter.all false
set_option maxRecDepth 20000
/-! M7: tables, where things are led. -/
namespace RD
open PySem DL
section
variable {α : Type} [DecidableEq α] {f : α → α} {S : List α}
theorem ri_all (h : Perm f S) : ∀ (rest : List α) (rs : List (List α)), RI f S rs rest → (∀ s ∈ S, s ∈ rest ∨ s ∈ rs.flatten) → ∃ rs', RI f S rs' [] ∧ ∀ s ∈ S, s ∈ rs'.flatten
  | [], rs, r, c => ⟨rs, r, fun s hs => (c s hs).resolve_left List.not_mem_nil⟩
  | s :: rest, rs, r, c => by
    by_cases hs : s ∈ rs.flatten
    · exact ri_all h rest rs (r.skip hs) fun t ht => by
        rcases c t ht with z | z
        · rcases List.mem_cons.mp z with e | e
          · exact .inr (by rw [e]; exact hs)
          · exact .inl e
        · exact .inr z
    · refine ri_all h rest _ (r.take h hs) fun t ht => ?_
      rw [List.flatten_append, List.flatten_singleton, List.mem_append]
      rcases c t ht with z | z
      · rcases List.mem_cons.mp z with e | e
        · exact .inr (.inr (by rw [e]; exact self_cyc _ _ _))
        · exact .inl e
      · exact .inr (.inl z)
theorem rounds_ok (h : Perm f S) : (∀ r ∈ rounds f S, ∃ s ∈ S, r = cyc f S.length s) ∧ (rounds f S).flatten.Nodup ∧ ∀ s, s ∈ (rounds f S).flatten ↔ s ∈ S := by
  obtain ⟨rs, r, c⟩ := ri_all h S [] RI.start fun s hs => .inl hs
  rw [r.done]
  exact ⟨r.cy, r.nd, fun s => ⟨r.in_S h s, c s⟩⟩
theorem Perm.per_it (h : Perm f S) {s : α} (hs : s ∈ S) (j : Nat) : per f (it f j s) S.length = per f s S.length := by
  have ht := h.it_on j hs
  have b1 : it f (per f s S.length) (it f j s) = it f j s := by rw [← it_add, Nat.add_comm, it_add, h.per_back hs]
  have b2 : it f (per f (it f j s) S.length) s = s := by
    have z := h.per_back ht
    rw [← it_add, Nat.add_comm, it_add] at z
    exact h.it_inj j (h.it_on _ hs) hs z
  have l1 : ¬ per f s S.length < per f (it f j s) S.length := fun c => h.per_least ht (per_pos _ _ _) c b1
  have l2 : ¬ per f (it f j s) S.length < per f s S.length := fun c => h.per_least hs (per_pos _ _ _) c b2
  omega
theorem Perm.surj (h : Perm f S) {t : α} (ht : t ∈ S) : it f (per f t S.length - 1) t ∈ S ∧ f (it f (per f t S.length - 1) t) = t := by
  refine ⟨h.it_on _ ht, ?_⟩
  rw [← it_succ f]
  have e : per f t S.length - 1 + 1 = per f t S.length := by have := per_pos f t S.length; omega
  rw [e]
  exact h.per_back ht
end
theorem m_rounds : Meets sp_rounds N_rounds P_rounds t_rounds := by
  rintro ds M Q W ⟨w, l, rfl, g, gl, q⟩
  refine ⟨rfl, ?_⟩
  simp [-Bool.exists_bool, t_rounds, dstart, N_rounds]
  exact ⟨w, l, rfl, g, gl, w, l, rfl, g, gl, fun p M' sb h ll fr => fg (q p M' sb h ll fr)⟩
theorem cyc_bound {w : Wo} {l : List Nat} (g : GoodW w) (gl : GoodL w l) : ∀ r ∈ roundsW w l, 1 ≤ r.length ∧ r.length ≤ 100 ∧ ∃ s, onR w.rings s ∧ r = cyc (step w l) (spotsOf w.rings).length s := by
  intro r hr
  have hp := perm_step g gl
  obtain ⟨s, hs, rfl⟩ := (rounds_ok hp).1 r hr
  have z := hp.per_le hs
  have z2 : (spotsOf w.rings).length ≤ 100 := by rw [spots_len]; exact g.sum
  rw [cyc_len]
  exact ⟨per_pos _ _ _, by omega, s, mem_spots.mp hs, rfl⟩
theorem ll_get {M : MH} {p : Nat} {rs : List (List D)} {qs : List Nat} (hq : qs.length = rs.length) (h : ∀ (i q : Nat) (r : List D), qs[i]? = some q → rs[i]? = some r → M q = some (.lst r)) {i : Nat} {x : D} (hx : (qs.map D.ref)[i]? = some x) : ∃ q r, x = .ref q ∧ qs[i]? = some q ∧ rs[i]? = some r ∧ M q = some (.lst r) := by
  rw [List.getElem?_map, Option.map_eq_some_iff] at hx
  obtain ⟨q, hq', rfl⟩ := hx
  have hl := (List.getElem?_eq_some_iff.mp hq').1
  have hr : rs[i]? = some rs[i] := List.getElem?_eq_getElem (by omega)
  exact ⟨q, _, rfl, hq', hr, h i q _ hq' hr⟩
theorem m_again : Meets sp_again N_again P_again t_again := by
  rintro ds M Q W ⟨w, l, rfl, g, gl, q⟩
  refine ⟨rfl, ?_⟩
  simp [-Bool.exists_bool, t_again, dstart, N_again]
  refine ⟨w, l, rfl, g, gl, w, l, rfl, g, gl, fun p M' sb hp ⟨qs, mp, nd, ql, mq⟩ _ => ?_⟩
  refine ⟨_, itemsL mp, ?_⟩
  have cb := cyc_bound g gl
  refine for_inv (fun i δ M2 => M2 = M' ∧ ∃ x y, 1 ≤ x ∧ x = ((roundsW w l).take i).foldl (fun a r => Nat.lcm a r.length) 1 ∧ δ = [some (eW w), some (eL l), some (eN x), y]) ⟨rfl, 1, none, Nat.le_refl _, rfl, rfl⟩ ?_ ?_ ?_
  · rintro i δ M2 _ ⟨rfl, _⟩; rfl
  · rintro i x δ M2 hx ⟨rfl, n, y, n1, e, rfl⟩
    obtain ⟨q1, r1, rfl, hq1, hr1, mq1⟩ := ll_get (p := p) ql mq hx
    rw [List.getElem?_map, Option.map_eq_some_iff] at hr1
    obtain ⟨r, hr, rfl⟩ := hr1
    obtain ⟨b1, b2, _⟩ := cb r (List.mem_of_getElem? hr)
    refine ⟨_, rfl, fun N hN => ?_⟩
    simp [-Bool.exists_bool]
    refine r_lenL mq1 ⟨n, r.length, by simp [eN], n1, b1, by omega, ?_⟩
    refine hN _ _ ⟨rfl, _, _, Nat.lcm_pos n1 b1, ?_, rfl⟩
    rw [List.take_add_one, hr, List.foldl_append, ← e]
    rfl
  · rintro δ M2 ⟨rfl, n, y, n1, e, rfl⟩
    have el : (qs.map D.ref).length = (roundsW w l).length := by rw [List.length_map, ql, List.length_map]
    rw [el, List.take_length] at e
    simp
    exact fgs sb (by rw [e]; exact q)
theorem toNat_mod (a : Int) (n : Nat) (h : 1 ≤ n) : 0 ≤ a % (n : Int) ∧ (a % (n : Int)).toNat < n := by
  have h1 := Int.emod_nonneg a (show (n : Int) ≠ 0 by omega)
  have h2 := Int.emod_lt_of_pos a (show (0 : Int) < n by omega)
  omega
/-- where the j-th of a round is led by t ticks -/
theorem led_cyc {w : Wo} {l : List Nat} (g : GoodW w) (gl : GoodL w l) {s : Sp} (hs : onR w.rings s) {j : Nat} (t : Int) {n : Nat} (hn : n = per (step w l) s (spotsOf w.rings).length) : ledI w l t (it (step w l) j s) = it (step w l) (((j : Int) + t) % (n : Int)).toNat s := by
  have hp := perm_step g gl
  have sS := mem_spots.mpr hs
  unfold ledI
  rw [hp.per_it sS j, ← hn, ← it_add, it_mod _ (hp.per_back sS), ← hn]
  have n1 : 1 ≤ n := by rw [hn]; exact per_pos _ _ _
  congr 1
  obtain ⟨a1, a2⟩ := toNat_mod t n n1
  obtain ⟨b1, b2⟩ := toNat_mod ((j : Int) + t) n n1
  have e1 : (((j + (t % (n : Int)).toNat) % n : Nat) : Int) = (((j : Int) + t) % (n : Int)) := by
    rw [Int.natCast_emod, Int.natCast_add, Int.toNat_of_nonneg a1, Int.add_emod_emod]
  omega
def tb (w : Wo) (l : List Nat) (t : Int) (L : List Sp) : List (D × D) := L.map fun s => (eS s, eS (ledI w l t s))
def tbO (w : Wo) (l : List Nat) (t : Int) (L : List Sp) : MO := .dct (tb w l t L)
theorem tb_put {w : Wo} {l : List Nat} {t : Int} {L : List Sp} {s : Sp} (h : s ∉ L) : aput (tb w l t L) (eS s) (eS (ledI w l t s)) = tb w l t (L ++ [s]) := by
  rw [aput_none (aget_no fun c => ?_)]
  · unfold tb
    rw [List.map_append]; rfl
  · unfold tb at c
    rw [List.map_map] at c
    obtain ⟨t', h1, h2⟩ := List.mem_map.mp c
    exact h (by rw [← eS_inj h2]; exact h1)
theorem enum_s {L : List Sp} {i : Nat} {y : D} (h : (enumD 0 (L.map eS))[i]? = some y) : ∃ s, L[i]? = some s ∧ y = .tup [.int (i : Nat), eS s] := by
  obtain ⟨d, h1, h2⟩ := enumD_get 0 i _ y h
  rw [List.getElem?_map, Option.map_eq_some_iff] at h1
  obtain ⟨n, hn, rfl⟩ := h1
  exact ⟨n, hn, by rw [h2, Nat.zero_add]⟩
theorem m_table_by : Meets sp_table_by N_table_by P_table_by t_table_by := by
  rintro ds M Q W ⟨w, l, t, rfl, g, gl, q⟩
  refine ⟨rfl, ?_⟩
  have hp := perm_step g gl
  have hlen : (spotsOf w.rings).length ≤ 100 := by rw [spots_len]; exact g.sum
  obtain ⟨_, fnd, fall⟩ := rounds_ok hp
  have flen : (roundsW w l).flatten.length ≤ 100 := Nat.le_trans (len_of_sub fnd fun s hs => (fall s).mp hs) hlen
  simp [-Bool.exists_bool, t_table_by, dstart, N_table_by]
  intro pd hd
  refine ⟨w, l, rfl, g, gl, fun p M' sb hp1 ⟨qs, mp, nd, ql, mq⟩ _ => ?_⟩
  refine ⟨_, itemsL mp, ?_⟩
  have cb := cyc_bound g gl
  have md : M' pd = some (.dct []) := sb pd _ up_same
  have npd : p ≠ pd := by intro z; rw [z, up_same] at hp1; cases hp1
  refine for_inv (fun i δ M2 => (∀ a, a ≠ pd → M2 a = M' a) ∧ M2 pd = some (tbO w l t ((roundsW w l).take i).flatten) ∧ ∃ x y z, δ = [some (eW w), some (eL l), some (.int t), some (.ref pd), x, y, z]) ⟨fun _ _ => rfl, md, none, none, none, rfl⟩ ?_ ?_ ?_
  · rintro i δ M2 _ ⟨h, _⟩; exact h p npd
  · rintro i x δ M2 hx ⟨same, m2, x1, y1, z1, rfl⟩
    obtain ⟨q1, r1, rfl, hq1, hr1, mq1⟩ := ll_get (p := p) ql mq hx
    rw [List.getElem?_map, Option.map_eq_some_iff] at hr1
    obtain ⟨r, hr, rfl⟩ := hr1
    obtain ⟨b1, b2, s0, on0, er⟩ := cb r (List.mem_of_getElem? hr)
    have nq : q1 ≠ pd := by intro z; rw [z, md] at mq1; cases mq1
    have m2q : M2 q1 = some (.lst (r.map eS)) := by rw [same q1 nq]; exact mq1
    refine ⟨_, rfl, fun N hN => ?_⟩
    simp [-Bool.exists_bool]
    refine ⟨_, itemsL m2q, ?_⟩
    have eflat : ((roundsW w l).take (i + 1)).flatten = ((roundsW w l).take i).flatten ++ r := by rw [List.take_add_one, hr]; simp
    have fsub : (((roundsW w l).take i).flatten ++ r).Nodup ∧ (((roundsW w l).take i).flatten ++ r).length ≤ 100 := by
      have e : roundsW w l = (roundsW w l).take (i + 1) ++ (roundsW w l).drop (i + 1) := (List.take_append_drop _ _).symm
      have fnd' : (roundsW w l).flatten.Nodup := fnd
      rw [e, List.flatten_append, eflat] at fnd' flen
      exact ⟨(List.nodup_append.mp fnd').1, by rw [List.length_append] at flen; omega⟩
    have rl : r.length = per (step w l) s0 (spotsOf w.rings).length := by rw [er, cyc_len]
    refine for_inv (fun j δ M3 => (∀ a, a ≠ pd → M3 a = M' a) ∧ M3 pd = some (tbO w l t (((roundsW w l).take i).flatten ++ r.take j)) ∧ ∃ y z, δ = [some (eW w), some (eL l), some (.int t), some (.ref pd), some (.ref q1), y, z]) ⟨same, by simpa using m2, _, _, rfl⟩ ?_ ?_ ?_
    · rintro j δ M3 _ ⟨h, _⟩
      show M3 q1 = M2 q1
      rw [h q1 nq, same q1 nq]
    · rintro j x δ M3 hx ⟨same3, m3, y3, z3, rfl⟩
      obtain ⟨s, hs, rfl⟩ := enum_s hx
      have jl := (List.getElem?_eq_some_iff.mp hs).1
      have m3q : M3 q1 = some (.lst (r.map eS)) := by rw [same3 q1 nq]; exact mq1
      refine ⟨[some (eW w), some (eL l), some (.int t), some (.ref pd), some (.ref q1), some (.int (j : Nat)), some (eS s)], by simp [tset, tsets], fun N' hN' => ?_⟩
      simp [-Bool.exists_bool]
      refine r_lenL m3q ?_
      rw [List.length_map]
      simp [-Bool.exists_bool]
      refine ⟨by intro z; rw [z] at b1; simp at b1, ?_⟩
      obtain ⟨k0, k1⟩ := toNat_mod ((j : Int) + t) r.length b1
      have es : s = it (step w l) j s0 := by
        rw [er, cyc_get (by rw [← rl]; exact jl)] at hs
        exact (Option.some.inj hs).symm
      have ev : r[(((j : Int) + t) % (r.length : Int)).toNat]? = some (ledI w l t s) := by
        have z := cyc_get (f := step w l) (N := (spotsOf w.rings).length) (s := s0) (k := (((j : Int) + t) % (r.length : Int)).toNat) (by rw [← rl]; exact k1)
        rw [es, led_cyc g gl on0 t rl]
        rw [← er] at z
        exact z
      have ei : (((j : Int) + t).fmod (r.length : Int)) = (((((j : Int) + t) % (r.length : Int)).toNat : Nat) : Int) := by
        rw [Int.fmod_eq_emod_of_nonneg _ (Int.natCast_nonneg _), Int.toNat_of_nonneg k0]
      refine r_ixL (d := eS (ledI w l t s)) m3q (by rw [ei, atI_n, List.getElem?_map, ev]; rfl) ?_
      have rt : r.take (j + 1) = r.take j ++ [s] := by rw [List.take_add_one, hs]; rfl
      have nin : s ∉ ((roundsW w l).take i).flatten ++ r.take j := by
        have z := fsub.1
        rw [← List.take_append_drop (j + 1) r, rt, ← List.append_assoc, ← List.append_assoc] at z
        have z2 := (List.nodup_append.mp z).1
        rw [List.nodup_append] at z2
        intro c
        exact z2.2.2 s c s (by simp) rfl
      refine r_setD m3 (okKey_eS s) ?_ ?_
      · have z := fsub.2
        unfold tb
        rw [List.length_append] at z
        rw [List.length_map, List.length_append, List.length_take]
        simp only [sz_]
        omega
      · refine hN' _ _ ⟨fun a ha => by rw [up_ne ha]; exact same3 a ha, ?_, _, _, rfl⟩
        rw [up_same, tb_put nin, rt, ← List.append_assoc]
        rfl
    · rintro δ M3 ⟨same3, m3, y3, z3, rfl⟩
      have e : (enumD 0 (r.map eS)).length = r.length := by rw [enumD_len, List.length_map]
      rw [e, List.take_length, ← eflat] at m3
      exact hN _ _ ⟨same3, m3, _, _, _, rfl⟩
  · rintro δ M2 ⟨same, m2, x1, y1, z1, rfl⟩
    have el : (qs.map D.ref).length = (roundsW w l).length := by rw [List.length_map, ql, List.length_map]
    rw [el, List.take_length] at m2
    simp
    refine fg (q pd M2 (fun a o ha => ?_) hd m2)
    have na : a ≠ pd := by intro z; rw [z, hd] at ha; cases ha
    rw [same a na]
    exact sb a o (by rw [up_ne na]; exact ha)
theorem tbl_get {w : Wo} {l : List Nat} (g : GoodW w) (gl : GoodL w l) {t : Int} {s : Sp} (hs : onR w.rings s) : aget (tblW w l t) (eS s) = some (eS (ledI w l t s)) :=
  aget_mem eS (fun s => eS (ledI w l t s)) (fun a b h => eS_inj h) (((rounds_ok (perm_step g gl)).2.2 s).mpr (mem_spots.mpr hs))
theorem m_led : Meets sp_led N_led P_led t_led := by
  rintro ds M Q W ⟨w, l, t, s, rfl, g, gl, hs, h1, h2, q⟩
  refine ⟨rfl, ?_⟩
  simp [-Bool.exists_bool, t_led, dstart, N_led]
  refine ⟨w, l, rfl, g, gl, r_pow (by decide) (by decide) (by decide) ?_⟩
  simp [-Bool.exists_bool]
  refine ⟨t, _, rfl, ?_, h2, w, s, rfl, hs, w, l, t, rfl, g, gl, fun p M' sb hp mp => ?_⟩
  · exact h1
  · exact r_ixD (.inl mp) (okKey_eS s) (tbl_get g gl hs) (fgs sb q)
end RD

set_option Elab.async false
set_option linter.all false
set_option maxRecDepth 20000
/-! M8: stands led. -/
namespace RD
open PySem DL
def rowsT (V : Sp → Nat) : Nat → List Nat → List (List Nat)
  | _, [] => []
  | r, n :: ns => (List.range n).map (fun p => V (r, p)) :: rowsT V (r + 1) ns
theorem rowsT_get (V : Sp → Nat) : ∀ (ns : List Nat) (r i : Nat), (rowsT V r ns)[i]? = (ns[i]?).map fun n => (List.range n).map fun p => V (r + i, p)
  | [], r, i => by simp [rowsT]
  | n :: ns, r, 0 => by simp [rowsT]
  | n :: ns, r, i + 1 => by
    have e : r + 1 + i = r + (i + 1) := by omega
    rw [rowsT, List.getElem?_cons_succ, rowsT_get V ns (r + 1) i, List.getElem?_cons_succ]
    congr 1
    funext n
    congr 1
    funext p
    rw [e]
theorem rowsT_len (V : Sp → Nat) : ∀ (ns : List Nat) (r : Nat), (rowsT V r ns).map List.length = ns
  | [], r => rfl
  | n :: ns, r => by rw [rowsT, List.map_cons, rowsT_len V ns (r + 1), List.length_map, List.length_range]
theorem rowsT_at {V : Sp → Nat} {rings : List Nat} {s : Sp} (h : onR rings s) : at_ (rowsT V 0 rings) s = some (V s) := by
  obtain ⟨n, h1, h2⟩ := h
  unfold at_
  rw [rowsT_get, h1]
  show (((List.range n).map fun p => V (0 + s.1, p)))[s.2]? = _
  rw [List.getElem?_map, List.getElem?_range h2, Nat.zero_add]
  rfl
theorem rowsT_take (V : Sp → Nat) (rings : List Nat) (i : Nat) : rowsT V 0 (rings.take i) = (rowsT V 0 rings).take i := by
  apply List.ext_getElem?
  intro j
  rw [rowsT_get, List.getElem?_take, List.getElem?_take]
  split
  · rw [rowsT_get]
  · rfl
theorem at_on {rings : List Nat} {st : List (List Nat)} (g : GoodT rings st) {s : Sp} (h : onR rings s) : ∃ r x, st[s.1]? = some r ∧ r[s.2]? = some x ∧ at_ st s = some x ∧ x ≤ 999 := by
  obtain ⟨n, h1, h2⟩ := h
  have z := g.sh
  rw [← z, List.getElem?_map, Option.map_eq_some_iff] at h1
  obtain ⟨r, hr, rfl⟩ := h1
  have hx : r[s.2]? = some r[s.2] := List.getElem?_eq_getElem h2
  refine ⟨r, _, hr, hx, ?_, g.le r (List.mem_of_getElem? hr) _ (List.mem_of_getElem? hx)⟩
  unfold at_
  rw [hr]
  exact hx
/-- the stand led by g -/
theorem led_ex {rings : List Nat} {g : Sp → Sp} (hp : Perm g (spotsOf rings)) {st : List (List Nat)} (gt : GoodT rings st) : ∃ V : Sp → Nat, (∀ s, onR rings s → some (V (g s)) = at_ st s) ∧ LedT rings g st (rowsT V 0 rings) ∧ ∀ s, onR rings s → V s ≤ 999 := by
  refine ⟨fun t => (at_ st (it g (per g t (spotsOf rings).length - 1) t)).getD 0, ?_⟩
  have key : ∀ s, onR rings s → some ((fun t => (at_ st (it g (per g t (spotsOf rings).length - 1) t)).getD 0) (g s)) = at_ st s := by
    intro s hs
    have sS := mem_spots.mpr hs
    have gS := hp.on s sS
    obtain ⟨z1, z2⟩ := hp.surj gS
    have e := hp.inj _ z1 _ sS z2
    obtain ⟨r, x, _, _, hx, _⟩ := at_on gt hs
    show some ((at_ st (it g (per g (g s) (spotsOf rings).length - 1) (g s))).getD 0) = _
    rw [e, hx]
    rfl
  have le : ∀ s, onR rings s → (at_ st (it g (per g s (spotsOf rings).length - 1) s)).getD 0 ≤ 999 := by
    intro s hs
    obtain ⟨z1, z2⟩ := hp.surj (mem_spots.mpr hs)
    obtain ⟨r, x, _, _, hx, hle⟩ := at_on gt (mem_spots.mp z1)
    rw [hx]
    exact hle
  refine ⟨key, ⟨⟨rowsT_len _ _ _, fun r hr x hx => ?_⟩, fun s hs => ?_⟩, le⟩
  · obtain ⟨i, hi⟩ := List.getElem?_of_mem hr
    rw [rowsT_get, Option.map_eq_some_iff] at hi
    obtain ⟨n, hn, rfl⟩ := hi
    obtain ⟨p, hp', rfl⟩ := List.mem_map.mp hx
    refine le _ ⟨n, ?_, List.mem_range.mp hp'⟩
    rw [Nat.zero_add]
    exact hn
  · have on : onR rings (g s) := mem_spots.mp (hp.on s (mem_spots.mpr hs))
    rw [rowsT_at on]
    exact key s hs
/-- a stand led by g is one only -/
theorem led_one {rings : List Nat} {g : Sp → Sp} (hp : Perm g (spotsOf rings)) {st a b : List (List Nat)} (ha : LedT rings g st a) (hb : LedT rings g st b) : a = b := by
  apply List.ext_getElem?
  intro i
  have sa := ha.1.sh
  have sb := hb.1.sh
  have la : a.length = b.length := by rw [← List.length_map (as := a) (f := List.length), sa, ← sb, List.length_map]
  cases ea : a[i]? with
  | none =>
    rw [List.getElem?_eq_none_iff] at ea
    exact (List.getElem?_eq_none_iff.mpr (by omega)).symm
  | some r =>
    have hi := (List.getElem?_eq_some_iff.mp ea).1
    have eb : b[i]? = some b[i] := List.getElem?_eq_getElem (by omega)
    rw [eb]
    congr 1
    have lr : rings[i]? = some r.length := by rw [← sa, List.getElem?_map, ea]; rfl
    have lr2 : rings[i]? = some b[i].length := by rw [← sb, List.getElem?_map, eb]; rfl
    rw [lr] at lr2
    have ll := Option.some.inj lr2
    apply List.ext_getElem?
    intro j
    by_cases hj : j < r.length
    · have on : onR rings (i, j) := ⟨r.length, lr, hj⟩
      obtain ⟨z1, z2⟩ := hp.surj (mem_spots.mpr on)
      have q1 := ha.2 _ (mem_spots.mp z1)
      have q2 := hb.2 _ (mem_spots.mp z1)
      rw [z2] at q1 q2
      rw [← q2] at q1
      unfold at_ at q1
      simp only [ea, eb] at q1
      exact q1
    · rw [List.getElem?_eq_none (by omega), List.getElem?_eq_none (by omega)]
/-- the spot that a key is -/
def dS : D → Sp
  | .tup [.int a, .int b] => (a.toNat, b.toNat)
  | _ => (0, 0)
@[simp] theorem dS_eS (s : Sp) : dS (eS s) = s := by simp [dS, eS]
theorem b1_yes {te : DTE} {δ : DS} {acc : List D} {M : MH} {R : List D → MH → Prop} (h : te W0 δ M fun y M2 => acc.length < sizeLine ∧ R (acc ++ [y]) M2) : body1 dYes te δ acc M R := by
  show (if true = true then te W0 δ M (fun y M2 => acc.length < sizeLine ∧ R (acc ++ [y]) M2) else R acc M)
  rw [if_pos rfl]
  exact h
/-- a comprehension whose parts lay things that are let go -/
theorem acc_mapS {al : MH → Prop} {g : Tg} {δ : DS} {te : DTE} {items : List D} {M : MH} {R : List D → MH → Prop} (f : Nat → D → D) (hal : ∀ M', Sub M M' → al M') (hl : items.length ≤ 1000)
    (hs : ∀ i x, items[i]? = some x → ∃ δ', tset g x δ = some δ' ∧ ∀ M' (Q : DQ), Sub M M' → (∀ M'', Sub M' M'' → Q (f i x) M'') → te W0 δ' M' Q) (hR : ∀ M', Sub M M' → R (items.mapIdx f) M') : accR al g δ (body1 dYes te) items [] M R := by
  refine acc_inv (fun i acc M' => acc = (items.mapIdx f).take i ∧ Sub M M') ⟨rfl, Sub.refl M⟩ (fun i acc M' _ ⟨_, e⟩ => hal M' e) ?_ fun acc M' ⟨e1, e2⟩ => ?_
  · rintro i x acc M' hx ⟨rfl, sb⟩
    obtain ⟨δ', h1, h2⟩ := hs i x hx
    refine ⟨δ', h1, fun R' hR' => ?_⟩
    have lt : i < items.length := (List.getElem?_eq_some_iff.mp hx).1
    refine b1_yes (h2 M' _ sb fun M'' sb2 => ⟨by rw [List.length_take]; simp only [sizeLine_eq]; omega, hR' _ _ ⟨?_, sb.trans sb2⟩⟩)
    rw [List.take_add_one, List.getElem?_mapIdx, hx]
    rfl
  · have e : items.length = (items.mapIdx f).length := by rw [List.length_mapIdx]
    rw [e1, e, List.take_length]
    exact hR M' e2
theorem rows_tup (V : Sp → Nat) (rings : List Nat) : (enumD 0 (rings.map eN)).mapIdx (fun i _ => eL ((rowsT V 0 rings).getD i [])) = (rowsT V 0 rings).map eL := by
  apply List.ext_getElem?
  intro i
  rw [List.getElem?_mapIdx, List.getElem?_map]
  cases e : (enumD 0 (rings.map eN))[i]? with
  | none =>
    rw [List.getElem?_eq_none_iff, enumD_len, List.length_map] at e
    rw [rowsT_get, List.getElem?_eq_none e]
    rfl
  | some y =>
    obtain ⟨n, hn, rfl⟩ := enum_at e
    rw [List.getD_eq_getElem?_getD, rowsT_get, hn]
    rfl
theorem m_stand_led : Meets sp_stand_led N_stand_led P_stand_led t_stand_led := by
  rintro ds M Q W ⟨rings, a, L, g, st, rfl, ⟨r1, r4, reach, rsum⟩, gt, mt, ndL, memL, hp, q⟩
  refine ⟨rfl, ?_⟩
  have hlen : (spotsOf rings).length ≤ 100 := by rw [spots_len]; exact rsum
  have lenL : L.length ≤ 100 := Nat.le_trans (len_of_sub ndL fun s hs => mem_spots.mpr ((memL s).mp hs)) hlen
  obtain ⟨V, hV, led, hle⟩ := led_ex hp gt
  simp [-Bool.exists_bool, t_stand_led, dstart, N_stand_led]
  refine ⟨a, _, mt, _, up_same, ?_⟩
  have ek : akeys (L.map fun s => (eS s, eS (g s))) = L.map eS := by unfold akeys; rw [List.map_map]; rfl
  rw [ek]
  refine put_new (fun d => eS (g (dS d))) (fun d => eN (V (g (dS d)))) up_same ?_ ?_ (fun _ _ => by simp) ?_ ?_
  · simp; omega
  · rw [List.map_map]
    have e : ((fun d => eS (g (dS d))) ∘ eS) = fun s => eS (g s) := by funext s; simp
    rw [e, List.nodup_iff_pairwise_ne, List.pairwise_map]
    refine List.Pairwise.imp_of_mem ?_ ndL
    intro x y hx hy hne c
    exact hne (hp.inj x (mem_spots.mpr ((memL x).mp hx)) y (mem_spots.mpr ((memL y).mp hy)) (eS_inj c))
  · intro x hx
    obtain ⟨s, hs, rfl⟩ := List.mem_map.mp hx
    have on := (memL s).mp hs
    obtain ⟨r, x, h1, h2, h3, _⟩ := at_on gt on
    have ev : V (g s) = x := Option.some.inj ((hV s on).trans h3)
    refine ⟨_, rfl, fun Q' q' => ?_, fun Q' q' => ?_, by simp⟩
    · simp [-Bool.exists_bool, wipeD]
      refine r_ixD (.inr up_same) (okKey_eS s) (aget_mem eS (fun s => eS (g s)) (fun a b h => eS_inj h) hs) ?_
      simpa using q'
    · rw [dS_eS, ev] at q'
      simp [-Bool.exists_bool, wipeD, eS, eT, eL, h1, h2]
      exact q'
  · intro p hp'
    have npa : p ≠ a := by intro z; rw [z, up_same] at hp'; cases hp'
    rw [up_ne npa] at hp'
    refine ⟨by rw [up_ne npa.symm, up_same], ?_⟩
    have back : up (up (up M a (.rdc (L.map fun s => (eS s, eS (g s))))) p (.dct ([] ++ (L.map eS).map fun x => (eS (g (dS x)), eN (V (g (dS x))))))) a (.dct (L.map fun s => (eS s, eS (g s)))) = up M p (.dct (L.map fun s => (eS (g s), eN (V (g s))))) := by
      funext b
      by_cases c : b = a
      · rw [c, up_same, up_ne npa.symm, mt]
      · rw [up_ne c]
        by_cases c2 : b = p
        · rw [c2, up_same, up_same, List.nil_append, List.map_map]
          congr 2
          first | done | (funext s; simp)
        · rw [up_ne c2, up_ne c, up_ne c2]
    rw [back]
    refine ⟨_, rfl, ?_⟩
    refine acc_mapS (fun i _ => eL ((rowsT V 0 rings).getD i [])) (fun _ _ => trivial) (by rw [enumD_len]; simp; omega) ?_ ?_
    · intro i x hx
      obtain ⟨n, hn, rfl⟩ := enum_at hx
      refine ⟨[some (eL rings), some (.ref a), some (eT st), some (.ref p), none, some (.int (i : Nat)), some (eN n), none], by simp [tset, tsets, wipeD], fun M' Q' sb q' => ?_⟩
      have n40 := (reach n (List.mem_of_getElem? hn)).2
      simp [-Bool.exists_bool, wipeD]
      refine ⟨n, rfl, by omega, by omega, ?_⟩
      rw [Int.toNat_natCast, rng_eq]
      refine acc_map (fun d => match d with | .int k => eN (V (i, k.toNat)) | _ => .non) trivial (by simp; omega) ?_ ?_
      · intro x hx
        obtain ⟨k, hk, rfl⟩ := List.mem_map.mp hx
        rw [List.mem_range] at hk
        refine ⟨_, rfl, fun Q2 q2 => ?_⟩
        simp [-Bool.exists_bool]
        have on : onR rings (i, k) := ⟨n, hn, hk⟩
        obtain ⟨z1, z2⟩ := hp.surj (mem_spots.mpr on)
        have hs0 := (memL _).mpr (mem_spots.mp z1)
        have get : aget (L.map fun s => (eS (g s), eN (V (g s)))) (eS (i, k)) = some (eN (V (i, k))) := by
          rw [← z2]
          have gen : ∀ (L' : List Sp) (s : Sp), s ∈ L' → aget (L'.map fun s => (eS (g s), eN (V (g s)))) (eS (g s)) = some (eN (V (g s))) := by
            intro L'
            induction L' with
            | nil => intro s h; cases h
            | cons b L' ih =>
              intro s h
              rw [List.map_cons]
              unfold aget
              by_cases e : eS (g b) = eS (g s)
              · rw [if_pos e, eS_inj e]
              · rw [if_neg e]
                exact ih s ((List.mem_cons.mp h).resolve_left fun c => e (by rw [c]))
          exact gen L _ hs0
        refine r_ixD (.inl (sb _ _ up_same)) (okKey_eS (i, k)) get ?_
        simpa using q2
      · intro r hr
        refine r_tupL up_same ?_
        have e : (List.map (fun (i : Nat) => D.int (i : Int)) (List.range n)).map (fun d => match d with | .int k => eN (V (i, k.toNat)) | _ => .non) = ((rowsT V 0 rings).getD i []).map eN := by
          rw [List.getD_eq_getElem?_getD, rowsT_get, hn, List.map_map]
          show _ = ((List.range n).map fun p => V (0 + i, p)).map eN
          rw [List.map_map, Nat.zero_add]
          refine List.map_congr_left fun k _ => ?_
          simp
        rw [e]
        exact q' _ (Sub.new hr)
    · intro M' sb r hr
      refine r_tupL up_same ?_
      rw [rows_tup]
      refine fgs ?_ (q _ led)
      exact ((Sub.new hp').trans sb).trans (Sub.new hr)
end RD

set_option Elab.async false
set_option linter.all false
set_option maxRecDepth 20000
/-! M9: behind; the law's own rounds and stands. -/
namespace RD
open PySem DL
theorem nodup_get {α : Type} {l : List α} (h : l.Nodup) {i j : Nat} {a : α} (hi : l[i]? = some a) (hj : l[j]? = some a) : i = j := by
  obtain ⟨i1, i2⟩ := List.getElem?_eq_some_iff.mp hi
  obtain ⟨j1, j2⟩ := List.getElem?_eq_some_iff.mp hj
  rw [List.nodup_iff_pairwise_ne, List.pairwise_iff_getElem] at h
  rcases Nat.lt_trichotomy i j with c | c | c
  · exact absurd (i2.trans j2.symm) (h i j i1 j1 c)
  · exact c
  · exact absurd (j2.trans i2.symm) (h j i j1 i1 c)
theorem perm_led {w : Wo} {l : List Nat} (g : GoodW w) (gl : GoodL w l) (t : Int) : Perm (ledI w l t) (spotsOf w.rings) := by
  have hp := perm_step g gl
  refine ⟨spots_nd _, fun s hs => ?_, fun s hs u hu e => ?_⟩
  · unfold ledI; exact hp.it_on _ hs
  · unfold ledI at e
    have ps := per_pos (step w l) s (spotsOf w.rings).length
    have pu := per_pos (step w l) u (spotsOf w.rings).length
    have e1 := hp.per_it hs (t % (per (step w l) s (spotsOf w.rings).length : Int)).toNat
    have e2 := hp.per_it hu (t % (per (step w l) u (spotsOf w.rings).length : Int)).toNat
    rw [e] at e1
    have ep : per (step w l) s (spotsOf w.rings).length = per (step w l) u (spotsOf w.rings).length := e1.symm.trans e2
    rw [ep] at e
    exact hp.it_inj _ hs hu e
theorem m_behind : Meets sp_behind N_behind P_behind t_behind := by
  rintro ds M Q W ⟨w, l, t, st, rfl, g, gl, gt, h1, h2, q⟩
  refine ⟨rfl, ?_⟩
  have hp := perm_step g gl
  obtain ⟨_, fnd, fall⟩ := rounds_ok hp
  simp [-Bool.exists_bool, t_behind, dstart, N_behind]
  refine ⟨w, l, rfl, g, gl, r_pow (by decide) (by decide) (by decide) ?_⟩
  simp [-Bool.exists_bool]
  refine ⟨t, _, rfl, h1, h2, w, st, rfl, g, gt, ?_⟩
  refine r_ixW ⟨w, l, t, rfl, g, gl, fun p M' sb hp' mp => ?_⟩
  refine ⟨w.rings, p, (roundsW w l).flatten, ledI w l t, st, rfl, good_r g, gt, mp, fnd, fun s => ?_, perm_led g gl t, fun st' led => fgs sb (q st' led)⟩
  rw [← mem_spots]
  exact fall s
theorem m_law_gone : Meets sp_law_gone N_law_gone P_law_gone t_law_gone := by
  rintro ds M Q W ⟨w, l, st, rfl, g, gl, gt, q⟩
  refine ⟨rfl, ?_⟩
  have hp := perm_step g gl
  have hlen : (spotsOf w.rings).length ≤ 100 := by rw [spots_len]; exact g.sum
  obtain ⟨V, hV, led, hle⟩ := led_ex hp gt
  simp [-Bool.exists_bool, t_law_gone, dstart, N_law_gone]
  intro pd hd
  refine r_ixW ⟨w.rings, rfl, g.sum, g.l4, fun p1 h1 => ?_⟩
  have n1d : p1 ≠ pd := by intro z; rw [z, up_same] at h1; cases h1
  rw [up_ne n1d] at h1
  refine ⟨_, itemsL up_same, ?_⟩
  refine for_inv (fun i δ M' => Sub M M' ∧ M' p1 = some (lstO (spotsOf w.rings)) ∧ M' pd = some (.dct (((spotsOf w.rings).take i).map fun s => (eS (step w l s), eN (V (step w l s))))) ∧ ∃ x y z u, δ = [some (eW w), some (eL l), some (eT st), some (.ref pd), x, y, z, u]) ⟨(Sub.new hd).up h1, up_same, by rw [up_ne n1d.symm, up_same]; simp, none, none, none, none, rfl⟩ ?_ ?_ ?_
  · rintro i δ M' _ ⟨_, h, _⟩
    show M' p1 = up _ p1 _ p1
    rw [h, up_same]
    rfl
  · rintro i x δ M' hx ⟨sb, m1, md, x4, x5, x6, x7, rfl⟩
    rw [List.getElem?_map, Option.map_eq_some_iff] at hx
    obtain ⟨s, hs, rfl⟩ := hx
    have sS := List.mem_of_getElem? hs
    have on := mem_spots.mp sS
    obtain ⟨r, v, e1, e2, e3, _⟩ := at_on gt on
    have ev : V (step w l s) = v := Option.some.inj ((hV s on).trans e3)
    have il := (List.getElem?_eq_some_iff.mp hs).1
    refine ⟨[some (eW w), some (eL l), some (eT st), some (.ref pd), some (.int (s.1 : Nat)), some (.int (s.2 : Nat)), x6, x7], by simp [tset, tsets, eS], fun N hN => ?_⟩
    simp [-Bool.exists_bool, eT, eL, e1, e2]
    refine ⟨w, l, s, by simp [eL, eS], g, gl, on, ?_⟩
    have nin : eS (step w l s) ∉ (((spotsOf w.rings).take i).map fun s => (eS (step w l s), eN (V (step w l s)))).map (·.1) := by
      rw [List.map_map]
      intro c
      obtain ⟨u, hu, eu⟩ := List.mem_map.mp c
      have e : u = s := hp.inj u (List.mem_of_mem_take hu) s sS (eS_inj eu)
      subst e
      obtain ⟨j, hj⟩ := List.getElem?_of_mem hu
      rw [List.getElem?_take] at hj
      split at hj
      · rename_i lt
        have := nodup_get (spots_nd w.rings) hj hs
        omega
      · cases hj
    refine r_setD md (okKey_eS _) (by rw [List.length_map, List.length_take]; simp only [sz_]; omega) ?_
    have ndp : M pd = none := hd
    refine hN _ _ ⟨?_, by rw [up_ne n1d]; exact m1, ?_, _, _, _, _, rfl⟩
    · intro a o ha
      rw [up_ne (by intro z; rw [z, hd] at ha; cases ha)]
      exact sb a o ha
    · rw [up_same, aput_none (aget_no nin), List.take_add_one, hs, List.map_append]
      simp [ev, eN]
  · rintro δ M' ⟨sb, m1, md, x4, x5, x6, x7, rfl⟩
    rw [List.length_map, List.take_length] at md
    simp [-Bool.exists_bool]
    intro pr hr
    have hr0 := sb.none hr
    have nrd : pr ≠ pd := by intro z; rw [z, md] at hr; cases hr
    refine r_ixW ⟨_, rfl, ?_⟩
    have key : ∀ {i k n : Nat}, w.rings[i]? = some n → k < n → aget ((spotsOf w.rings).map fun s => (eS (step w l s), eN (V (step w l s)))) (eS (i, k)) = some (eN (V (i, k))) := by
      intro i k n hn hk
      have on : onR w.rings (i, k) := ⟨n, hn, hk⟩
      obtain ⟨z1, z2⟩ := hp.surj (mem_spots.mpr on)
      rw [← z2]
      have gen : ∀ (L' : List Sp) (s : Sp), s ∈ L' → aget (L'.map fun s => (eS (step w l s), eN (V (step w l s)))) (eS (step w l s)) = some (eN (V (step w l s))) := by
        intro L'
        induction L' with
        | nil => intro s h; cases h
        | cons b L' ih =>
          intro s h
          rw [List.map_cons]
          unfold aget
          by_cases e : eS (step w l b) = eS (step w l s)
          · rw [if_pos e, eS_inj e]
          · rw [if_neg e]
            exact ih s ((List.mem_cons.mp h).resolve_left fun c => e (by rw [c]))
      exact gen _ _ z1
    refine for_inv (fun i δ M2 => Sub M M2 ∧ M2 pd = some (.dct ((spotsOf w.rings).map fun s => (eS (step w l s), eN (V (step w l s))))) ∧ M2 pr = some (.lst (((rowsT V 0 w.rings).take i).map eL)) ∧ ∃ x y z, δ = [some (eW w), some (eL l), some (eT st), some (.ref pd), x, y, some (.ref pr), z]) ⟨sb.up hr0, by rw [up_ne nrd.symm]; exact md, by rw [up_same]; rfl, _, _, _, rfl⟩ (fun _ _ _ _ _ => trivial) ?_ ?_
    · rintro i x δ M2 hx ⟨sb2, m2d, m2r, y4, y5, y7, rfl⟩
      obtain ⟨n, hn, rfl⟩ := enum_at hx
      have n40 := (g.each n (List.mem_of_getElem? hn)).2
      refine ⟨[some (eW w), some (eL l), some (eT st), some (.ref pd), some (.int (i : Nat)), y5, some (.ref pr), some (eN n)], by simp [tset, tsets], fun N hN => ?_⟩
      simp [-Bool.exists_bool]
      refine ⟨ty_l m2r, n, rfl, by omega, by omega, ?_⟩
      rw [Int.toNat_natCast, rng_eq]
      refine acc_map (fun d => match d with | .int k => eN (V (i, k.toNat)) | _ => .non) trivial (by simp; omega) ?_ ?_
      · intro x hx
        obtain ⟨k, hk, rfl⟩ := List.mem_map.mp hx
        rw [List.mem_range] at hk
        refine ⟨_, rfl, fun Q2 q2 => ?_⟩
        simp [-Bool.exists_bool, wipeD]
        refine r_ixD (.inl m2d) (okKey_eS (i, k)) (key hn hk) ?_
        simpa using q2
      · intro u hu
        refine r_tupL up_same ?_
        have nur : u ≠ pr := by intro z; rw [z, m2r] at hu; cases hu
        have nud : u ≠ pd := by intro z; rw [z, m2d] at hu; cases hu
        have rlen := rowsT_len V w.rings 0
        have hrow : (rowsT V 0 w.rings)[i]? = some ((List.range n).map fun p => V (i, p)) := by rw [rowsT_get, hn, Nat.zero_add]; rfl
        refine r_app (by rw [up_ne nur.symm]; exact m2r) (by rw [List.length_map, List.length_take]; have := g.l4; have z := congrArg List.length rlen; rw [List.length_map] at z; simp only [sz_]; omega) ?_
        refine hN _ _ ⟨?_, ?_, ?_, _, _, _, rfl⟩
        · intro a o ha
          rw [up_ne (by intro z; rw [z, hr0] at ha; cases ha), up_ne (by intro z; rw [z] at ha; rw [sb2 _ _ ha] at hu; cases hu)]
          exact sb2 a o ha
        · rw [up_ne nrd.symm, up_ne nud.symm]; exact m2d
        · rw [up_same, List.take_add_one, hrow, List.map_append]
          congr 3
          simp [eL]
    · rintro δ M2 ⟨sb2, m2d, m2r, y4, y5, y7, rfl⟩
      have e : (enumD 0 (w.rings.map eN)).length = (rowsT V 0 w.rings).length := by
        rw [enumD_len, List.length_map]
        have z := congrArg List.length (rowsT_len V w.rings 0)
        rw [List.length_map] at z
        exact z.symm
      have m2r' : M2 pr = some (.lst ((rowsT V 0 w.rings).map eL)) := by
        rw [m2r]
        first
          | (rw [e, List.take_length])
          | (show some (MO.lst (((rowsT V 0 w.rings).take (enumD 0 (w.rings.map eN)).length).map eL)) = _; rw [e, List.take_length])
      simp [-Bool.exists_bool]
      exact r_tupL m2r' (fgs sb2 (q _ led))
end RD

set_option Elab.async false
set_option linter.all false
set_option maxRecDepth 20000
/-! M10: wells, bags, what is taken out. -/
namespace RD
open PySem DL
theorem m_law_well : Meets sp_law_well N_law_well P_law_well t_law_well := by
  rintro ds M Q W ⟨c, t, rfl, q⟩
  refine ⟨rfl, ?_⟩
  simp [-Bool.exists_bool, t_law_well, dstart, N_law_well]
  refine r_pow (by decide) (by decide) (by decide) ?_
  simp [-Bool.exists_bool]
  split
  · refine r_pow (by decide) (by decide) (by decide) ?_
    simp [-Bool.exists_bool]
    intro p hp
    exact fg (q p _ _ hp)
  · intro p hp
    exact fg (q p _ _ hp)
theorem r_divW {M : MH} {Q : DQ} {i j : Int} (h0 : 0 < j) (h : j.natAbs.log2 < 9000) (q : Q (.int (i / j)) M) : ruleBin .FloorDiv (.int i) (.int j) M Q := .inr ⟨i, j, rfl, rfl, ⟨h0, h⟩, q⟩
theorem log_small {n : Nat} (h : n < 2 ^ 200) : (n : Int).natAbs.log2 < 9000 := by
  rw [Int.natAbs_natCast]
  by_cases z : n = 0
  · rw [z]; decide
  · exact Nat.lt_of_lt_of_le ((Nat.log2_lt z).mpr h) (by decide)
theorem m_law_take : Meets sp_law_take N_law_take P_law_take t_law_take := by
  rintro ds M Q W ⟨a, n, b, rfl, ⟨x, y, z, hM, z0, zb⟩, hb, n1, n2, q⟩
  refine ⟨rfl, ?_⟩
  have nn : (n : Int) ≠ 0 := by omega
  have fin : ∀ (v : Int) (o : MO), (∃ x y z : Int, o = .lst [.int x, .int y, .int z] ∧ 0 ≤ z ∧ z ≤ ((b + 1 : Nat) : Int)) → Fg Q (.int (v.fmod (n : Int))) (up M a o) := by
    intro v o ⟨x', y', z', e, h1, h2⟩
    have p : (0 : Int) < n := by omega
    have e1 : v.fmod (n : Int) = ((v.fmod (n : Int)).toNat : Int) := by rw [Int.toNat_of_nonneg (Int.fmod_nonneg_of_pos v p)]
    have lt : (v.fmod (n : Int)).toNat < n := by have := Int.fmod_lt_of_pos v p; omega
    rw [e1]
    exact fg (q _ o lt ⟨x', y', z', by rw [up_same, e], h1, h2⟩)
  simp [-Bool.exists_bool, t_law_take, dstart, N_law_take, eN]
  refine r_ixL hM rfl ?_
  simp [-Bool.exists_bool]
  split
  · refine r_ixL hM rfl ?_
    simp [-Bool.exists_bool]
    refine ⟨by omega, r_ixL hM rfl (r_divW (by omega) (log_small n2) ?_)⟩
    refine r_setL (n := 0) hM (Nat.zero_lt_succ _) ?_
    exact fin x _ ⟨_, y, z, rfl, z0, by omega⟩
  · refine r_ixL hM rfl ?_
    simp [-Bool.exists_bool]
    refine r_setL (n := 2) hM (show 2 < 3 by decide) ?_
    generalize hM2 : up M a (.lst ([D.int x, .int y, .int z].set 2 (.int (z + 1)))) = M2
    have m2 : M2 a = some (.lst [.int x, .int y, .int (z + 1)]) := by rw [← hM2, up_same]; rfl
    refine r_ixL m2 rfl (r_ixL m2 rfl (r_mul (.inl (by decide)) ?_))
    simp [-Bool.exists_bool]
    generalize e1 : (y + 1000003 * (z + 1)).fmod 2305843009213693951 = u
    have u0 : 0 ≤ u := by rw [← e1]; exact Int.fmod_nonneg_of_pos _ (by decide)
    have u1 : u < 2305843009213693951 := by rw [← e1]; exact Int.fmod_lt_of_pos _ (by decide)
    refine r_mul (.inl (by omega)) (r_ixL m2 rfl (r_pow (by decide) (by decide) (by omega) (r_mul (.inl (by decide)) ?_)))
    simp [-Bool.exists_bool]
    generalize e2 : (u * u + 7919 * (z + 1) ^ 2 + 5).fmod 2305843009213693951 = v
    have v0 : 0 ≤ v := by rw [← e2]; exact Int.fmod_nonneg_of_pos _ (by decide)
    have v1 : v < 2305843009213693951 := by rw [← e2]; exact Int.fmod_lt_of_pos _ (by decide)
    refine r_pow (by decide) (by decide) (by omega) ?_
    simp [-Bool.exists_bool]
    refine r_div (by decide) (by decide) ?_
    simp [-Bool.exists_bool]
    refine ⟨by omega, ?_⟩
    rw [← hM2]
    exact fin _ _ ⟨x, y, z + 1, rfl, by omega, by omega⟩
theorem cut_ints (ns : List Int) (lo hi : Option Int) : ∃ ns' : List Int, cutD (ns.map D.int) lo hi = ns'.map D.int ∧ ns'.length ≤ ns.length := by
  unfold cutD
  rw [← List.map_drop, ← List.map_take]
  refine ⟨_, rfl, ?_⟩
  rw [List.length_take, List.length_drop]
  omega
theorem m_law_bags : Meets sp_law_bags N_law_bags P_law_bags t_law_bags := by
  rintro ds M Q W ⟨ns, k, rfl, hn, hk, q⟩
  refine ⟨rfl, ?_⟩
  simp [-Bool.exists_bool, t_law_bags, dstart, N_law_bags, eN]
  refine ⟨_, rfl, .inr ⟨(fun es c => by cases c), fun p1 h1 => ?_⟩⟩
  obtain ⟨ns', e', hn'⟩ := cut_ints ns none (some (k : Int))
  rw [e']
  intro p2 h2
  have n21 : p2 ≠ p1 := by intro c; rw [c, up_same] at h2; cases h2
  rw [up_ne n21] at h2
  refine r_addL (by rw [up_ne n21.symm, up_same]) up_same (by simp; omega) fun p3 h3 => ?_
  have n32 : p3 ≠ p2 := by intro c; rw [c, up_same] at h3; cases h3
  rw [up_ne n32] at h3
  have n31 : p3 ≠ p1 := by intro c; rw [c, up_same] at h3; cases h3
  rw [up_ne n31] at h3
  refine ⟨_, itemsL up_same, ?_⟩
  have e2 : List.map D.int ns' ++ [D.int 0] = (ns' ++ [0]).map D.int := by simp
  rw [e2]
  generalize hL : ns' ++ [(0 : Int)] = L
  have lL : L.length ≤ 64 := by rw [← hL]; simp; omega
  generalize hM0 : up (up (up M p1 (.lst (ns'.map D.int))) p2 (.lst [.int 0])) p3 (.lst (L.map D.int)) = M0
  have s0 : Sub M M0 := by rw [← hM0]; exact (((Sub.new h1).up h2).up h3)
  have m03 : M0 p3 = some (.lst (L.map D.int)) := by rw [← hM0, up_same]
  refine acc_inv (fun i acc M' => ∃ as : List Nat, acc = as.map D.ref ∧ as.length = i ∧ Sub M0 M' ∧ as.Nodup ∧ ∀ a ∈ as, M0 a = none ∧ Bag M' a (2 ^ 30)) ⟨[], rfl, rfl, Sub.refl M0, List.nodup_nil, fun a h => by cases h⟩ ?_ ?_ ?_
  · rintro i acc M' _ ⟨as, _, _, sb, _⟩
    show M' p3 = M0 p3
    rw [m03]
    exact sb _ _ m03
  · rintro i x acc M' hx ⟨as, rfl, la, sb, nd, hb⟩
    obtain ⟨d, hd, rfl⟩ := enumD_get 0 i _ x hx
    rw [List.getElem?_map, Option.map_eq_some_iff] at hd
    obtain ⟨c, hc, rfl⟩ := hd
    have il := (List.getElem?_eq_some_iff.mp hc).1
    refine ⟨[some (.cst (ns.map D.int)), some (.int (k : Nat)), some (.int ((0 + i : Nat) : Int)), some (.int c)], by simp [tset, tsets, wipeD], fun R hR => b1_yes ?_⟩
    simp [-Bool.exists_bool]
    refine r_mul (.inl (by decide)) ⟨c, _, rfl, fun p x y hp => ⟨by omega, ?_⟩⟩
    refine hR _ _ ⟨as ++ [p], by simp, by simp [la], sb.trans (Sub.new hp), ?_, ?_⟩
    · rw [List.nodup_append]
      refine ⟨nd, by simp, fun a ha b hbb e => ?_⟩
      rw [List.mem_singleton] at hbb
      subst e
      subst hbb
      obtain ⟨_, x1, y1, z1, e1, _⟩ := hb a ha
      rw [e1] at hp
      cases hp
    · intro a ha
      rcases List.mem_append.mp ha with h | h
      · obtain ⟨f1, x1, y1, z1, e1, r1⟩ := hb a h
        exact ⟨f1, x1, y1, z1, Sub.new hp _ _ e1, r1⟩
      · rw [List.mem_singleton.mp h]
        exact ⟨sb.none hp, x, y, _, up_same, by omega, by omega⟩
  · rintro acc M' ⟨as, rfl, la, sb, nd, hb⟩
    intro p hp
    have hp0 := s0.none (sb.none hp)
    refine fg (q p as _ ⟨(s0.trans sb).trans (Sub.new hp), up_same, hp0, ?_, fun a ha => ?_⟩)
    · rw [List.nodup_cons]
      refine ⟨fun c => ?_, nd⟩
      obtain ⟨_, x1, y1, z1, e1, _⟩ := hb p c
      rw [e1] at hp
      cases hp
    · obtain ⟨f1, x1, y1, z1, e1, r1⟩ := hb a ha
      exact ⟨s0.none f1, x1, y1, z1, Sub.new hp _ _ e1, r1⟩
theorem dns_get {M : MH} : ∀ {xs ds : List D} {i : Nat} {x : D}, Dns M xs ds → xs[i]? = some x → ∃ d, ds[i]? = some d ∧ Dn M x d
  | _, _, _, _, .nil, h => by simp at h
  | _, _, 0, _, .cons h _, e => by simp at e; subst e; exact ⟨_, rfl, h⟩
  | _, _, i + 1, x, .cons _ t, e => by
    obtain ⟨d, h1, h2⟩ := dns_get (i := i) (x := x) t (by simpa using e)
    exact ⟨d, by simpa using h1, h2⟩
theorem dns_len {M : MH} : ∀ {xs ds : List D}, Dns M xs ds → xs.length = ds.length
  | _, _, .nil => rfl
  | _, _, .cons _ t => by rw [List.length_cons, List.length_cons, dns_len t]
theorem r_isi2 {M : MH} {Q : DQ} {x : D} {t : TyN} (h : tyOf M x = some t) (q : Q (.bl ([TyN.bool, .list, .tuple].any (isaT t))) M) : rIsi2 [x, .tup [.ty .bool, .ty .list, .ty .tuple]] M Q := ⟨x, _, [.bool, .list, .tuple], t, rfl, rfl, h, q⟩
theorem r_isN {M : MH} {Q : DQ} (q : Q (.bl true) M) : ruleCmp .Is .non .non M Q := ⟨rfl, q⟩
theorem depth_get {ds : List D} {i : Nat} {d : D} (h : ds[i]? = some d) : (toP d).depth ≤ PyData.depthAll (toPs ds) := by
  induction ds generalizing i with
  | nil => simp at h
  | cons e ds ih =>
    rw [toPs]
    simp only [PyData.depthAll]
    cases i with
    | zero => simp at h; subst h; omega
    | succ i => have := ih (i := i) (by simpa using h); omega
theorem lay_get {ds : List D} {i : Nat} {d : D} (h : ds[i]? = some d) (c : PyData.canLayAll0 (toPs ds) = true) : (toP d).canLay0 = true := by
  induction ds generalizing i with
  | nil => simp at h
  | cons e ds ih =>
    rw [toPs, PyData.canLayAll0, Bool.and_eq_true] at c
    cases i with
    | zero => simp at h; subst h; exact c.1
    | succ i => exact ih (i := i) (by simpa using h) c.2
theorem dn_list {M : MH} {x : D} {es : List D} (h : Dn M x (.cst es)) : ∃ xs, itemsOf M x = some xs ∧ Dns M xs es ∧ tyOf M x = some .list ∧ lenOf M x = some xs.length ∧ still M x M := by
  cases h with
  | cst t => exact ⟨_, rfl, t, rfl, rfl, trivial⟩
  | lst h t => exact ⟨_, itemsL h, t, by simp [tyOf, h], by simp [lenOf, h], rfl⟩
theorem m_law_same (n : Nat) (hn : n ≤ 60) : Meets (spSame (n + 1)) N_law_same P_law_same (t_law_same (spSame n)) := by
  rintro ds M Q W ⟨x, y, d, rfl, nx, ny, od, pd, hd, q⟩
  refine ⟨rfl, ?_⟩
  -- two rows of things
  have seq : ∀ {xs ys es : List D} {m : Nat}, n = m + 1 → Dns M xs es → Dns M ys es → (es.length ≤ 1000 ∧ ∀ e ∈ es, sizedD m e = true) → PyData.canLayAll0 (toPs es) = true → PyData.depthAll (toPs es) + 1 ≤ 64 → (∀ e ∈ es, plD e = true) → ∀ {al : MH → Prop}, al M →
      accR al (.tup [.name 2, .name 3]) (wipeD [some x, some y, none, none] [2, 3]) (body1 dYes (dCall (spSame n) (dCons (dVar 2) (dCons (dVar 3) dNil)))) (zipD xs ys) [] M (fun acc M2 => ∀ p, M2 p = none → rAllD [.ref p] (up M2 p (.lst acc)) (Fg Q)) := by
    intro xs ys es m en hx hy ⟨hl, sz⟩ lay dep pl al hal
    have hxl := dns_len hx
    refine acc_map (fun _ => .bl true) hal (by rw [zipD_len]; simp only [sz_]; omega) ?_ fun p hp => all_true (fgs (Sub.new hp) q)
    intro z hz
    unfold zipD at hz
    obtain ⟨i, hi⟩ := List.getElem?_of_mem hz
    rw [List.getElem?_zipWith_eq_some] at hi
    obtain ⟨a, b, ha, hb, rfl⟩ := hi
    obtain ⟨e1, h1, n1⟩ := dns_get hx ha
    obtain ⟨e2, h2, n2⟩ := dns_get hy hb
    rw [h1] at h2
    cases h2
    refine ⟨[some x, some y, some a, some b], by simp [tset, tsets, wipeD], fun Q' q' => ?_⟩
    simp [-Bool.exists_bool]
    subst en
    have dg := depth_get h1
    have me := List.mem_of_getElem? h1
    refine ⟨a, b, e1, rfl, n1, n2, ?_, pl e1 me, sz e1 me, q'⟩
    show (PyData.canLay0 (toP e1) && decide (PyData.depth (toP e1) ≤ 64)) = true
    rw [lay_get h1 lay, decide_eq_true (by omega)]
    rfl
  have okd : PyData.canLay0 (toP d) = true ∧ PyData.depth (toP d) ≤ 64 := by
    have z : (PyData.canLay0 (toP d) && decide (PyData.depth (toP d) ≤ 64)) = true := od
    rw [Bool.and_eq_true] at z
    exact ⟨z.1, of_decide_eq_true z.2⟩
  have lists : ∀ es, d = .cst es → t_law_same (spSame n) W (fnEnds Q) (dstart N_law_same [x, y]) M := by
    rintro es rfl
    obtain ⟨xs, ix, tx, yx, lx, sx⟩ := dn_list nx
    obtain ⟨ys, iy, ty, yy, ly, sy⟩ := dn_list ny
    obtain ⟨m, rfl⟩ : ∃ m, n = m + 1 := by
      cases n with
      | zero => cases hd
      | succ m => exact ⟨m, rfl⟩
    have zx := dns_len tx
    have zy := dns_len ty
    simp only [toP, PyData.canLay0, PyData.depth] at okd
    simp only [sizedD, Bool.and_eq_true, decide_eq_true_eq, List.all_eq_true] at hd
    simp only [plD, plDs_all, List.all_eq_true] at pd
    simp [-Bool.exists_bool, t_law_same, dstart, N_law_same]
    refine r_isi yx ⟨_, rfl, ?_⟩
    rw [if_pos (by decide)]
    refine r_isi yy ⟨_, rfl, ?_⟩
    rw [if_pos (by decide)]
    refine ⟨x, _, rfl, lx, y, _, rfl, ly, ?_⟩
    simp [-Bool.exists_bool]
    rw [if_pos (by omega)]
    refine ⟨_, _, ⟨rfl, rfl⟩, _, ix, _, iy, ?_⟩
    exact seq rfl tx ty hd okd.1 okd.2 pd ⟨sx, sy⟩
  cases nx with
  | non =>
    cases ny
    simp [-Bool.exists_bool, t_law_same, dstart, N_law_same]
    refine r_isi rfl ⟨_, rfl, ?_⟩
    rw [if_neg (by decide)]
    refine r_isi rfl ⟨_, rfl, ?_⟩
    rw [if_neg (by decide)]
    refine r_isi2 rfl ⟨_, rfl, ?_⟩
    rw [if_neg (by decide)]
    refine r_isi2 rfl ⟨_, rfl, ?_⟩
    rw [if_neg (by decide)]
    refine r_isi rfl ⟨_, rfl, ?_⟩
    rw [if_neg (by decide)]
    refine r_isi rfl ⟨_, rfl, ?_⟩
    rw [if_neg (by decide)]
    refine r_isi rfl ⟨_, rfl, ?_⟩
    rw [if_neg (by decide)]
    refine r_isi rfl ⟨_, rfl, ?_⟩
    rw [if_neg (by decide)]
    refine r_isN ⟨_, rfl, ?_⟩
    rw [if_pos rfl]
    exact r_isN (fg q)
  | int i =>
    cases ny
    simp [-Bool.exists_bool, t_law_same, dstart, N_law_same, isaT]
    refine r_isi2 (t := .int) rfl ⟨_, rfl, ?_⟩
    rw [if_neg (by decide)]
    refine r_isi2 (t := .int) rfl ⟨_, rfl, ?_⟩
    rw [if_neg (by decide)]
    exact fg q
  | str z =>
    cases ny
    simp [-Bool.exists_bool, t_law_same, dstart, N_law_same]
    refine r_isi rfl ⟨_, rfl, ?_⟩
    rw [if_neg (by decide)]
    refine r_isi rfl ⟨_, rfl, ?_⟩
    rw [if_neg (by decide)]
    refine r_isi2 rfl ⟨_, rfl, ?_⟩
    rw [if_neg (by decide)]
    refine r_isi2 rfl ⟨_, rfl, ?_⟩
    rw [if_neg (by decide)]
    refine r_isi rfl ⟨_, rfl, ?_⟩
    rw [if_neg (by decide)]
    refine r_isi rfl ⟨_, rfl, ?_⟩
    rw [if_neg (by decide)]
    refine r_isi rfl ⟨_, rfl, ?_⟩
    rw [if_pos (by decide)]
    refine r_isi rfl ⟨_, rfl, ?_⟩
    rw [if_pos (by decide)]
    refine r_isi rfl ⟨_, rfl, ?_⟩
    rw [if_pos (by decide)]
    refine r_eqF rfl rfl rfl rfl od od ?_
    rw [decide_eq_true rfl]
    exact fg q
  | bl b => cases pd
  | tup tx =>
    cases ny with
    | tup ty =>
      obtain ⟨m, rfl⟩ : ∃ m, n = m + 1 := by
        cases n with
        | zero => cases hd
        | succ m => exact ⟨m, rfl⟩
      have lx := dns_len tx
      have ly := dns_len ty
      simp only [toP, PyData.canLay0, PyData.depth] at okd
      simp only [sizedD, Bool.and_eq_true, decide_eq_true_eq, List.all_eq_true] at hd
      simp only [plD, plDs_all, List.all_eq_true] at pd
      simp [-Bool.exists_bool, t_law_same, dstart, N_law_same, isaT]
      rw [if_pos (by omega)]
      refine ⟨_, _, ⟨rfl, rfl⟩, _, rfl, _, rfl, ?_⟩
      exact seq rfl tx ty hd okd.1 okd.2 pd ⟨trivial, trivial⟩
  | cst tx => exact lists _ rfl
  | lst h tx => exact lists _ rfl
end RD

set_option Elab.async false
set_option linter.all false
set_option maxRecDepth 20000
/-! M11: the law's own rounds. -/
namespace RD
open PySem DL
section
variable {α : Type} [DecidableEq α]
/-- what is left behind a round -/
def restOf (f : α → α) (N : Nat) (s : α) (l : List α) : List α := (s :: l).filter fun t => decide (t ∉ cyc f N s)
theorem rest_len (f : α → α) (N : Nat) (s : α) (l : List α) : (restOf f N s l).length ≤ l.length := filter_shorter
theorem rest_mem {f : α → α} {N : Nat} {s t : α} {l : List α} (h : t ∈ restOf f N s l) : t ∈ s :: l := (List.mem_filter.mp h).1
theorem rnd_cons {f : α → α} {N : Nat} {s : α} {l : List α} (h : (s :: l).length ≤ N) : rnd f N N (s :: l) = cyc f N s :: rnd f N N (restOf f N s l) := by
  have hl : l.length + 1 ≤ N := h
  have lf := rest_len f N s l
  have key : ∀ n, rnd f N (n + 1) (s :: l) = cyc f N s :: rnd f N n (restOf f N s l) := fun n => by rw [rnd]; rfl
  obtain ⟨n, hn⟩ : ∃ n, N = n + 1 := ⟨N - 1, by omega⟩
  have e1 : rnd f N N (s :: l) = rnd f N (n + 1) (s :: l) := by rw [← hn]
  rw [e1, key, rnd_more (n := n) (m := N) (by omega) (by omega)]
end
theorem rest_eS {f : Sp → Sp} {N : Nat} {s : Sp} {l : List Sp} {C : List D} (hC : C = (cyc f N s).map eS) : (((s :: l).map eS).filter fun x => !decide (x ∈ C)) = (restOf f N s l).map eS := by
  unfold restOf
  rw [List.filter_map]
  congr 1
  refine List.filter_congr fun t _ => ?_
  rw [Bool.eq_iff_iff]
  subst hC
  simp only [Function.comp, Bool.not_eq_true', decide_eq_false_iff_not, decide_eq_true_eq]
  constructor
  · intro h c; exact h (List.mem_map.mpr ⟨t, c, rfl⟩)
  · intro h c
    obtain ⟨u, hu, e⟩ := List.mem_map.mp c
    rw [eS_inj e] at hu
    exact h hu
theorem flat_all (l : List Sp) : (l.map eS).all flatD = true := by
  rw [List.all_eq_true]
  intro x hx
  obtain ⟨s, _, rfl⟩ := List.mem_map.mp hx
  rfl
theorem pl_all (l : List Sp) : ∀ d ∈ l.map eS, plD d = true := by
  intro x hx
  obtain ⟨s, _, rfl⟩ := List.mem_map.mp hx
  rfl
theorem ok_spots (l : List Sp) : okP (.cst (l.map eS)) = true := by
  refine ok_small (k := 2) ?_ (by decide)
  show (l.map eS).all (smallD 1) = true
  rw [List.all_eq_true]
  intro x hx
  obtain ⟨s, _, rfl⟩ := List.mem_map.mp hx
  rfl
theorem mem_eS {s : Sp} {l : List Sp} : eS s ∈ l.map eS ↔ s ∈ l := by
  constructor
  · intro h
    obtain ⟨t, ht, e⟩ := List.mem_map.mp h
    rw [← eS_inj e]; exact ht
  · intro h; exact List.mem_map.mpr ⟨s, h, rfl⟩
theorem upTo_last (f : Sp → Sp) (s : Sp) (k : Nat) : ((upTo f s (k + 1)).map eS).getLast? = some (eS (it f k s)) := by
  unfold upTo
  rw [range_snoc, List.map_append, List.map_singleton, List.getLast?_concat]
theorem upTo_head (f : Sp → Sp) (s : Sp) (k : Nat) : ((upTo f s (k + 1)).map eS)[0]? = some (eS s) := by
  unfold upTo
  rw [List.map_map, List.getElem?_map, List.getElem?_range (by omega)]
  rfl
theorem upTo_per {f : Sp → Sp} {S : List Sp} {s : Sp} : upTo f s (per f s S.length) = cyc f S.length s := rfl
theorem filter_eS (p : Sp → Bool) (q : D → Bool) (h : ∀ s, q (eS s) = p s) (l : List Sp) : (l.map eS).filter q = (l.filter p).map eS := by
  rw [List.filter_map]
  congr 1
  refine List.filter_congr fun s _ => ?_
  exact h s
theorem m_law_rounds : Meets sp_law_rounds N_law_rounds P_law_rounds t_law_rounds := by
  rintro ds M Q W ⟨w, l, rfl, g, gl, q⟩
  refine ⟨rfl, ?_⟩
  have hp := perm_step g gl
  have hlen : (spotsOf w.rings).length ≤ 100 := by rw [spots_len]; exact g.sum
  simp [-Bool.exists_bool, t_law_rounds, dstart, N_law_rounds, -w_lc]
  refine r_ixW ⟨w.rings, rfl, g.sum, g.l4, fun p1 h1 pf hf => ?_⟩
  have n1f : p1 ≠ pf := by intro z; rw [z, up_same] at hf; cases hf
  rw [up_ne n1f.symm] at hf
  generalize hf0 : step w l = f at hp
  generalize hS : spotsOf w.rings = S at hp hlen
  obtain ⟨I, hI⟩ : ∃ I : Nat → DS → MH → Prop, ∀ n δ M', I n δ M' ↔ (Sub M M' ∧ ∃ (left : List Sp) (rs : List (List Sp)) (pl : Nat) (qs : List Nat) (x y : Option D), n = left.length ∧ rounds f S = rs ++ rnd f S.length S.length left ∧ (∀ s ∈ left, s ∈ S) ∧ left.length ≤ S.length ∧ rs.length + left.length ≤ 100 ∧ M' pl = some (lstO left) ∧ pl ≠ pf ∧ M' pf = some (.lst (qs.map D.ref)) ∧ (pf :: qs).Nodup ∧ qs.length = rs.length ∧ (∀ (i q : Nat) (r : List Sp), qs[i]? = some q → rs[i]? = some r → M' q = some (lstO r)) ∧ δ = [some (eW w), some (eL l), some (.ref pl), some (.ref pf), x, y]) := ⟨_, fun _ _ _ => Iff.rfl⟩
  refine ⟨I,
    ⟨S.length, (hI _ _ _).mpr ⟨(Sub.new h1).up hf, S, [], p1, [], none, none, rfl, rfl, fun s h => h, Nat.le_refl _, by simp; omega, by rw [up_ne n1f, up_same]; rfl, n1f, by rw [up_same]; rfl, by simp, rfl, by simp, rfl⟩⟩, ?_⟩
  intro n δ M' hh
  obtain ⟨sb, left, rs, pl, qs, x, y, rfl, er, lS, ll, rl, ml, nlf, mf, nd, ql, mq, rfl⟩ := (hI _ _ _).mp hh
  simp [-Bool.exists_bool, -w_lc]
  intro pe he
  have he' : M' pe = none := he
  have nel : pl ≠ pe := by intro z; rw [z, he'] at ml; cases ml
  refine r_neR (d := .cst (left.map eS)) (e := .cst []) (.lst (by rw [up_ne nel]; exact ml) (Dn.flats _ (by rw [flatDs_all]; exact flat_all left))) (.lst up_same .nil) (by show plDs _ = true; rw [plDs_all, List.all_eq_true]; exact pl_all left) rfl (ok_spots left) (ok_small (k := 1) rfl (by decide)) ?_
  refine ⟨_, rfl, ?_⟩
  have sbe : Sub M' (up M' pe (.lst [])) := Sub.new he'
  cases left with
  | nil =>
    rw [if_neg (by simp)]
    refine fg (q pf _ (sb.trans sbe) hf ⟨qs, sbe _ _ mf, nd, ?_, ?_⟩)
    · have e : rounds f S = rs := by rw [er]; cases S.length <;> simp [rnd]
      unfold roundsW
      rw [hf0, hS, e, List.length_map]
      exact ql
    · intro i q' r hi hr
      have e : rounds f S = rs := by rw [er]; cases S.length <;> simp [rnd]
      unfold roundsW at hr
      rw [hf0, hS, e, List.getElem?_map, Option.map_eq_some_iff] at hr
      obtain ⟨r', hr', rfl⟩ := hr
      exact sbe _ _ (mq i q' r' hi hr')
  | cons s left =>
    rw [if_pos (by simp)]
    have sS := lS s List.mem_cons_self
    generalize hM1 : up M' pe (.lst []) = M1 at sbe
    have ml1 := sbe _ _ ml
    refine r_ixL (d := eS s) ml1 (by simp) ?_
    intro pq hq
    have hq0 := sbe.none hq
    have nql : pq ≠ pl := by intro z; rw [z, ml1] at hq; cases hq
    have nqf : pq ≠ pf := by intro z; rw [z, sbe _ _ mf] at hq; cases hq
    have nqq : pq ∉ qs := by
      intro z
      obtain ⟨j, hj⟩ := List.getElem?_of_mem z
      have hjl := (List.getElem?_eq_some_iff.mp hj).1
      rw [sbe _ _ (mq j pq _ hj (List.getElem?_eq_getElem (by omega)))] at hq
      cases hq
    have pl1 := hp.per_le sS
    obtain ⟨J, hJ⟩ : ∃ J : Nat → DS → MH → Prop, ∀ n δ M2, J n δ M2 ↔ (∃ k, n = per f s S.length - (k + 1) ∧ k + 1 ≤ per f s S.length ∧ (∀ a, a ≠ pq → M2 a = M1 a) ∧ M2 pq = some (lstO (upTo f s (k + 1))) ∧ δ = [some (eW w), some (eL l), some (.ref pl), some (.ref pf), some (.ref pq), y]) := ⟨_, fun _ _ _ => Iff.rfl⟩
    refine ⟨J, ⟨_, (hJ _ _ _).mpr ⟨0, rfl, per_pos _ _ _, fun a h => up_ne h, up_same, rfl⟩⟩, ?_⟩
    intro n δ M2 hh2
    obtain ⟨k, rfl, hk, same, m2q, rfl⟩ := (hJ _ _ _).mp hh2
    simp [-Bool.exists_bool, -w_lc]
    refine r_ixL (d := eS (it f k s)) m2q (by rw [atI_m1]; exact upTo_last f s k) ?_
    refine ⟨w, l, _, rfl, g, gl, mem_spots.mp (by rw [hS]; exact hp.it_on k sS), ?_⟩
    refine r_ixL (d := eS s) m2q (by rw [atI_0]; exact upTo_head f s k) ?_
    refine r_neS ?_
    refine ⟨_, rfl, ?_⟩
    rw [hf0, ← it_succ f]
    by_cases ck : k + 1 = per f s S.length
    · have eb : it f (k + 1) s = s := by rw [ck]; exact hp.per_back sS
      rw [decide_eq_true eb, if_neg (by decide)]
      have m2l : M2 pl = some (lstO (s :: left)) := by rw [same pl nql.symm]; exact ml1
      have m2q' : M2 pq = some (.lst ((cyc f S.length s).map eS)) := by rw [m2q, ck]; rfl
      show dLc _ _ _ _ _ _ _ _ _
      simp only [w_lc, i_seq, w_varS, w_var0]
      refine ⟨_, itemsL m2l, ?_⟩
      refine acc_fm (fun x => !decide (x ∈ (cyc f S.length s).map eS)) id rfl (by simp at rl ll; simp; omega) ?_ ?_
      · intro x hx
        obtain ⟨t, ht, rfl⟩ := List.mem_map.mp hx
        refine ⟨_, rfl, fun QT qt => ?_, fun _ Q' q' => ?_⟩
        · simp [-Bool.exists_bool, wipeD]
          refine r_notInL m2q' rfl rfl (ok_eS t) (flat_all _) (pl_all _) (ok_spots _) ?_
          exact ⟨_, rfl, qt⟩
        · simpa [wipeD] using q'
      · intro pn hn
        have nnq : pn ≠ pq := by intro z; rw [z, m2q] at hn; cases hn
        have nnf : pn ≠ pf := by intro z; rw [z, same pf nqf.symm, sbe _ _ mf] at hn; cases hn
        have hn1 : M1 pn = none := by rw [← same pn nnq]; exact hn
        have m2f : up M2 pn (.lst ((List.filter (fun x => !decide (x ∈ (cyc f S.length s).map eS)) ((s :: left).map eS)).map id)) pf = some (.lst (qs.map D.ref)) := by rw [up_ne nnf.symm, same pf nqf.symm]; exact sbe _ _ mf
        have ef : (List.filter (fun x => !decide (x ∈ (cyc f S.length s).map eS)) ((s :: left).map eS)).map id = (restOf f S.length s left).map eS := by rw [List.map_id]; exact rest_eS rfl
        refine ⟨ty_l m2f, r_app m2f ?_ ?_⟩
        · simp at rl
          simp
          omega
        · have hlf := rest_len f S.length s left
          rw [List.length_cons] at rl
          refine ⟨(restOf f S.length s left).length, by omega, (hI _ _ _).mpr ⟨?_, restOf f S.length s left, rs ++ [cyc f S.length s], pn, qs ++ [pq], _, _, rfl, ?_, ?_, ?_, ?_, ?_, nnf, ?_, ?_, by simp [ql], ?_, rfl⟩⟩
          · intro a o ha
            have naf : a ≠ pf := by intro z; rw [z, hf] at ha; cases ha
            have naq : a ≠ pq := by intro z; rw [z] at ha; rw [sb _ _ ha] at hq0; cases hq0
            have nan : a ≠ pn := by intro z; rw [z] at ha; rw [(sb.trans sbe) _ _ ha] at hn1; cases hn1
            rw [up_ne naf, up_ne nan, same a naq]
            exact (sb.trans sbe) a o ha
          · rw [er, rnd_cons ll, List.append_assoc]
            rfl
          · intro t ht
            exact lS t (rest_mem ht)
          · rw [List.length_cons] at ll
            omega
          · rw [List.length_append, List.length_singleton]
            omega
          · rw [up_ne nnf, up_same, ef]
            rfl
          · rw [up_same, List.map_append]
            rfl
          · rw [List.nodup_cons] at nd ⊢
            refine ⟨fun c => ?_, ?_⟩
            · rcases List.mem_append.mp c with z | z
              · exact nd.1 z
              · exact nqf (List.mem_singleton.mp z).symm
            · rw [List.nodup_append]
              refine ⟨nd.2, by simp, fun a ha b hb e => ?_⟩
              rw [List.mem_singleton] at hb
              subst hb
              exact nqq (by rw [← e]; exact ha)
          · intro j q' r hj hr
            by_cases lj : j < qs.length
            · rw [List.getElem?_append_left lj] at hj
              rw [List.getElem?_append_left (by omega)] at hr
              have hm := List.mem_of_getElem? hj
              have e1 : q' ≠ pf := fun z => by rw [z] at hm; exact (List.nodup_cons.mp nd).1 hm
              have e2 : q' ≠ pq := fun z => by rw [z] at hm; exact nqq hm
              have m1q := sbe _ _ (mq j q' r hj hr)
              have e3 : q' ≠ pn := fun z => by rw [z, hn1] at m1q; cases m1q
              rw [up_ne e1, up_ne e3, same q' e2]
              exact m1q
            · rw [List.getElem?_append_right (by omega)] at hj
              rw [List.getElem?_append_right (by omega)] at hr
              have z1 : j - qs.length = 0 := by
                have := (List.getElem?_eq_some_iff.mp hj).1
                simp at this
                omega
              rw [z1] at hj
              rw [show j - rs.length = 0 by omega] at hr
              simp at hj hr
              subst hj hr
              rw [up_ne nqf, up_ne nnq.symm]
              exact m2q'
    · have eb : it f (k + 1) s ≠ s := hp.per_least sS (by omega) (by omega)
      rw [decide_eq_false eb, if_pos (by decide)]
      refine ⟨ty_l m2q, ?_⟩
      refine r_ixL (d := eS (it f k s)) m2q (by rw [atI_m1]; exact upTo_last f s k) ?_
      refine ⟨w, l, _, rfl, g, gl, mem_spots.mp (by rw [hS]; exact hp.it_on k sS), ?_⟩
      refine r_app m2q (by simp [upTo]; omega) ?_
      refine ⟨per f s S.length - (k + 1 + 1), by omega, (hJ _ _ _).mpr ⟨k + 1, rfl, by omega, fun a h => by rw [up_ne h]; exact same a h, ?_, rfl⟩⟩
      rw [up_same, hf0, ← it_succ f]
      unfold lstO upTo
      rw [range_snoc f s (k + 1), List.map_append]
      rfl
end RD

set_option Elab.async false
set_option linter.all false
set_option maxRecDepth 20000
/-! M12: ticks till all is back, as the law counts them; lots, stands drawn. -/
namespace RD
open PySem DL
theorem dvd_fmod {a b : Nat} : (((a : Int).fmod (b : Int)) = 0) ↔ b ∣ a := by
  rw [fmod_nat]
  constructor
  · intro h; exact Nat.dvd_of_mod_eq_zero (by omega)
  · intro h; rw [Nat.mod_eq_zero_of_dvd h]; rfl
/-- counting up by steps ends at the least common multiple -/
theorem lcm_end {s n m : Nat} (hs : 1 ≤ s) (hn : 1 ≤ n) (hm : m * s ≤ Nat.lcm s n) (m1 : 1 ≤ m) (hd : n ∣ m * s) : m * s = Nat.lcm s n := by
  have d : Nat.lcm s n ∣ m * s := Nat.lcm_dvd (Nat.dvd_mul_left s m) hd
  have p : 0 < m * s := Nat.mul_pos m1 hs
  exact Nat.le_antisymm hm (Nat.le_of_dvd p d)
theorem lcm_step {s n m : Nat} (hs : 1 ≤ s) (hm : m * s ≤ Nat.lcm s n) (hd : ¬ n ∣ m * s) : (m + 1) * s ≤ Nat.lcm s n := by
  obtain ⟨k, hk⟩ := Nat.dvd_lcm_left s n
  have ne : m * s ≠ Nat.lcm s n := fun e => hd (by rw [e]; exact Nat.dvd_lcm_right s n)
  rw [hk] at hm ne ⊢
  have lt : m * s < k * s := by rw [Nat.mul_comm k s]; omega
  have lt2 := Nat.lt_of_mul_lt_mul_right lt
  rw [Nat.mul_comm s k]
  exact Nat.mul_le_mul_right s lt2
theorem m_law_all_back : Meets sp_law_all_back N_law_all_back P_law_all_back t_law_all_back := by
  rintro ds M Q W ⟨w, l, rfl, g, gl, q⟩
  refine ⟨rfl, ?_⟩
  simp [-Bool.exists_bool, t_law_all_back, dstart, N_law_all_back]
  refine ⟨w, l, rfl, g, gl, fun p M' sb hp ⟨qs, mp, nd, ql, mq⟩ => ?_⟩
  refine ⟨_, itemsL mp, ?_⟩
  have cb := cyc_bound g gl
  refine for_inv (fun i δ M2 => M2 = M' ∧ ∃ x y z, 1 ≤ x ∧ x = ((roundsW w l).take i).foldl (fun a r => Nat.lcm a r.length) 1 ∧ δ = [some (eW w), some (eL l), some (eN x), y, z]) ⟨rfl, 1, none, none, Nat.le_refl _, rfl, rfl⟩ ?_ ?_ ?_
  · rintro i δ M2 _ ⟨rfl, _⟩; rfl
  · rintro i x δ M2 hx ⟨rfl, n, y, z, n1, e, rfl⟩
    obtain ⟨q1, r1, rfl, hq1, hr1, mq1⟩ := ll_get (p := p) ql mq hx
    rw [List.getElem?_map, Option.map_eq_some_iff] at hr1
    obtain ⟨r, hr, rfl⟩ := hr1
    obtain ⟨b1, b2, _⟩ := cb r (List.mem_of_getElem? hr)
    refine ⟨_, rfl, fun N hN => ?_⟩
    simp [-Bool.exists_bool]
    obtain ⟨J, hJ⟩ : ∃ J : Nat → DS → MH → Prop, ∀ k δ M3, J k δ M3 ↔ (M3 = M2 ∧ ∃ m, 1 ≤ m ∧ m * n ≤ Nat.lcm n r.length ∧ k = Nat.lcm n r.length - m * n ∧ δ = [some (eW w), some (eL l), some (eN (m * n)), some (.ref q1), some (eN n)]) := ⟨_, fun _ _ _ => Iff.rfl⟩
    refine ⟨J, ⟨_, (hJ _ _ _).mpr ⟨rfl, 1, Nat.le_refl _, by rw [Nat.one_mul]; exact Nat.le_of_dvd (Nat.lcm_pos n1 b1) (Nat.dvd_lcm_left _ _), rfl, by rw [Nat.one_mul]⟩⟩, ?_⟩
    intro k δ M3 hh
    obtain ⟨rfl, m, m1, hm, rfl, rfl⟩ := (hJ _ _ _).mp hh
    simp [-Bool.exists_bool]
    refine r_lenL mq1 ?_
    rw [List.length_map]
    simp [-Bool.exists_bool, eN]
    refine ⟨by intro z; rw [z] at b1; simp at b1, ?_⟩
    have ec : ((((m : Int) * (n : Int)).fmod (r.length : Int)) = 0) ↔ r.length ∣ m * n := by rw [← dvd_fmod, Int.natCast_mul]
    by_cases c : r.length ∣ m * n
    · have z1 := ec.mpr c
      simp [z1]
      refine hN _ _ ⟨rfl, m * n, some (.ref q1), some (.int (n : Nat)), Nat.mul_pos m1 n1, ?_, by simp [eN]⟩
      rw [lcm_end n1 b1 hm m1 c, List.take_add_one, hr, List.foldl_append, ← e]
      rfl
    · have z1 : ¬ (((m : Int) * (n : Int)).fmod (r.length : Int)) = 0 := fun h => c (ec.mp h)
      have st := lcm_step n1 hm c
      simp [z1]
      refine ⟨_, ?_, (hJ _ _ _).mpr ⟨rfl, m + 1, by omega, st, rfl, ?_⟩⟩
      · have h1 : (m + 1) * n = m * n + n := Nat.succ_mul m n
        omega
      · have h1 : (((m + 1) * n : Nat) : Int) = (m : Int) * n + n := by rw [Nat.succ_mul, Int.natCast_add, Int.natCast_mul]
        simp [eN]
        rw [Int.add_mul, Int.one_mul]
  · rintro δ M2 ⟨rfl, n, y, z, n1, e, rfl⟩
    have el : (qs.map D.ref).length = (roundsW w l).length := by rw [List.length_map, ql, List.length_map]
    rw [el, List.take_length] at e
    simp
    exact fgs sb (by rw [e]; exact q)
/-- taken again and again: a bag only changes in its own place -/
theorem bag_up {M : MH} {a b : Nat} {o : MO} (h : Bag (up M a o) a b) (c : Nat) (hc : b ≤ c) : Bag (up M a o) a c := by
  obtain ⟨x, y, z, e, h1, h2⟩ := h
  exact ⟨x, y, z, e, h1, by omega⟩
theorem bag_self {M : MH} {a b : Nat} (h : Bag M a b) : ∃ o, M = up M a o ∧ M a = some o := by
  obtain ⟨x, y, z, e, _⟩ := h
  refine ⟨_, ?_, e⟩
  funext c
  by_cases hc : c = a
  · rw [hc, up_same, e]
  · rw [up_ne hc]
/-- all but a stands as it did -/
def Off (a : Nat) (M M' : MH) : Prop := ∀ c u, c ≠ a → M c = some u → M' c = some u
theorem Off.refl (a : Nat) (M : MH) : Off a M M := fun _ _ _ h => h
theorem Off.trans {a : Nat} {M M1 M2 : MH} (h : Off a M M1) (h2 : Off a M1 M2) : Off a M M2 := fun c u n e => h2 c u n (h c u n e)
theorem Off.up {a : Nat} {M : MH} {o : MO} : Off a M (DL.up M a o) := fun c u n e => by rw [up_ne n]; exact e
theorem Off.new {a : Nat} {M : MH} {p : Nat} {o : MO} (h : M p = none) : Off a M (DL.up M p o) := fun c u n e => by
  rw [up_ne (by intro z; rw [z, h] at e; cases e)]; exact e
theorem Off.fin {a b : Nat} {M M' : MH} (h : Off a M M') (hb : Bag M' a b) : ∃ o, Bag (DL.up M a o) a b ∧ Sub (DL.up M a o) M' := by
  obtain ⟨x, y, z, e, h1, h2⟩ := hb
  refine ⟨_, ⟨x, y, z, up_same, h1, h2⟩, fun c u hc => ?_⟩
  by_cases n : c = a
  · rw [n, up_same] at hc; cases hc; rw [n]; exact e
  · rw [up_ne n] at hc; exact h c u n hc
theorem Bag.ne {M : MH} {a b p : Nat} (h : Bag M a b) (hp : M p = none) : p ≠ a := by
  obtain ⟨x, y, z, e, _⟩ := h
  intro c; rw [c, e] at hp; cases hp
theorem Bag.new {M : MH} {a b p : Nat} {o : MO} (h : Bag M a b) (hp : M p = none) : Bag (DL.up M p o) a b := by
  have n := h.ne hp
  obtain ⟨x, y, z, e, r⟩ := h
  exact ⟨x, y, z, by rw [up_ne n.symm]; exact e, r⟩
theorem Bag.more {M : MH} {a b c : Nat} (h : Bag M a b) (hc : b ≤ c) : Bag M a c := by
  obtain ⟨x, y, z, e, h1, h2⟩ := h
  exact ⟨x, y, z, e, h1, by omega⟩
theorem off_free {a p : Nat} {M M' : MH} (h : Off a M M') (hp : M' p = none) (n : p ≠ a) : M p = none := by
  cases e : M p with
  | none => rfl
  | some o => rw [h p o n e] at hp; cases hp
/-- a row drawn -/
theorem draw_row {al : MH → Prop} {g : Tg} {δ : DS} {a k n b : Nat} {M : MH} {R : List D → MH → Prop} {te : DTE} (hal : ∀ M', al M') (hn : n ≤ 1000) (hb : Bag M a b) (hbb : b + n + 1 < 2 ^ 62) (hk1 : 1 ≤ k) (hk : k ≤ 1000) (f : Nat → D)
    (hs : ∀ (i : Nat), i < n → ∃ δ', tset g (.int (i : Nat)) δ = some δ' ∧ ∀ (M' : MH) (c : Nat) (Q : DQ), Bag M' a c → c < 2 ^ 62 → (∀ r o, r < k → Bag (DL.up M' a o) a (c + 1) → Q (f r) (DL.up M' a o)) → te W0 δ' M' Q)
    (hR : ∀ (xs : List Nat) M', xs.length = n → (∀ x ∈ xs, x < k) → Off a M M' → Bag M' a (b + n) → R (xs.map f) M') : accR al g δ (body1 dYes te) ((List.range n).map fun (i : Nat) => D.int (i : Int)) [] M R := by
  refine acc_inv (fun i acc M' => ∃ xs : List Nat, acc = xs.map f ∧ xs.length = i ∧ (∀ x ∈ xs, x < k) ∧ Off a M M' ∧ Bag M' a (b + i)) ⟨[], rfl, rfl, (fun x h => by cases h), Off.refl a M, hb⟩ (fun _ _ M' _ _ => hal M') ?_ ?_
  · rintro i x acc M' hx ⟨xs, rfl, hl, hlt, off, bag⟩
    rw [List.getElem?_map, Option.map_eq_some_iff] at hx
    obtain ⟨j, hj, rfl⟩ := hx
    have il := (List.getElem?_eq_some_iff.mp hj).1
    rw [List.length_range] at il
    rw [List.getElem?_range il] at hj
    cases hj
    obtain ⟨δ', h1, h2⟩ := hs i il
    refine ⟨δ', h1, fun R' hR' => b1_yes (h2 M' (b + i) _ bag (by omega) fun r o hr bo => ⟨by rw [List.length_map, hl]; simp only [sz_]; omega, ?_⟩)⟩
    refine hR' _ _ ⟨xs ++ [r], by simp, by simp [hl], fun x hx => ?_, off.trans Off.up, bo⟩
    rcases List.mem_append.mp hx with h | h
    · exact hlt x h
    · rw [List.mem_singleton.mp h]; exact hr
  · rintro acc M' ⟨xs, rfl, hl, hlt, off, bag⟩
    rw [List.length_map, List.length_range] at hl bag
    exact hR xs M' hl hlt off bag
theorem m_law_stand : Meets sp_law_stand N_law_stand P_law_stand t_law_stand := by
  rintro ds M Q W ⟨a, rings, k, b, rfl, ⟨r1, r4, each, sum⟩, k1, k2, hb, hbb, q⟩
  refine ⟨rfl, ?_⟩
  simp [-Bool.exists_bool, t_law_stand, dstart, N_law_stand, eL]
  intro pr hr
  have nra := hb.ne hr
  refine for_inv (fun i δ M' => ∃ (st : List (List Nat)) (x y : Option D), st.map List.length = rings.take i ∧ (∀ r ∈ st, ∀ x ∈ r, x ≤ 999) ∧ Off a M M' ∧ Bag M' a (b + (rings.take i).sum) ∧ M' pr = some (.lst (st.map eL)) ∧ δ = [some (.ref a), some (.tup (rings.map eN)), some (eN k), some (.ref pr), x, y]) ⟨[], none, none, rfl, (fun r h => by cases h), Off.new hr, by simpa using hb.new hr, by rw [up_same]; rfl, rfl⟩ (fun _ _ _ _ _ => trivial) ?_ ?_
  · rintro i x δ M' hx ⟨st, x4, x5, sh, le, off, bag, mr, rfl⟩
    rw [List.getElem?_map, Option.map_eq_some_iff] at hx
    obtain ⟨n, hn, rfl⟩ := hx
    have nm := List.mem_of_getElem? hn
    have n40 := (each n nm).2
    have ts := take_sum rings i
    have il := (List.getElem?_eq_some_iff.mp hn).1
    refine ⟨_, rfl, fun N hN => ?_⟩
    simp [-Bool.exists_bool]
    refine ⟨ty_l mr, n, rfl, by omega, by omega, ?_⟩
    rw [Int.toNat_natCast, rng_eq]
    refine draw_row (a := a) (k := k) (b := b + (rings.take i).sum) (fun _ => trivial) (by omega) bag (by omega) k1 k2 eN ?_ ?_
    · intro j hj
      refine ⟨_, rfl, fun M2 c Q2 b2 c2 q2 => ?_⟩
      simp [-Bool.exists_bool, wipeD]
      exact ⟨a, k, c, rfl, b2, c2, k1, by omega, q2⟩
    · intro xs M2 hl hlt off2 bag2 p hp
      refine r_tupL up_same ?_
      have npa := bag2.ne hp
      have m2r := off2 pr _ nra mr
      have npr : pr ≠ p := by intro z; rw [← z, m2r] at hp; cases hp
      have stl : st.length ≤ 4 := by
        have z := congrArg List.length sh
        rw [List.length_map, List.length_take] at z
        omega
      refine r_app (by rw [up_ne npr]; exact m2r) (by rw [List.length_map]; simp only [sz_]; omega) ?_
      refine hN _ _ ⟨st ++ [xs], _, _, ?_, ?_, ?_, ?_, ?_, rfl⟩
      · rw [List.map_append, sh, List.take_add_one, hn, List.map_singleton, hl]
        rfl
      · intro r hr' x hx
        rcases List.mem_append.mp hr' with h | h
        · exact le r h x hx
        · rw [List.mem_singleton.mp h] at hx
          have := hlt x hx
          omega
      · intro c u nc hc
        have ncr : c ≠ pr := by intro z; rw [z, hr] at hc; cases hc
        have ncp : c ≠ p := by intro z; rw [z] at hc; rw [(off.trans off2) p u npa hc] at hp; cases hp
        rw [up_ne ncr, up_ne ncp]
        exact (off.trans off2) c u nc hc
      · have e : (rings.take (i + 1)).sum = (rings.take i).sum + n := by rw [List.take_add_one, hn, List.sum_append]; simp
        rw [e, ← Nat.add_assoc]
        obtain ⟨x', y', z', e1, h1, h2⟩ := bag2
        exact ⟨x', y', z', by rw [up_ne nra.symm, up_ne npa.symm]; exact e1, h1, h2⟩
      · rw [up_same, List.map_append]
        rfl
  · rintro δ M' ⟨st, x4, x5, sh, le, off, bag, mr, rfl⟩
    rw [List.length_map, List.take_length] at sh bag
    simp
    refine r_tupL mr ?_
    obtain ⟨o, bo, so⟩ := off.fin (bag.more (show b + rings.sum ≤ b + 100 by omega))
    exact fgs so (q st o ⟨sh, le⟩ bo)
theorem asc_of {l : List Nat} (h : l.Pairwise (· < ·)) : Asc (· < ·) l := by
  intro i a b ha hb
  rw [List.pairwise_iff_getElem] at h
  obtain ⟨i1, e1⟩ := List.getElem?_eq_some_iff.mp ha
  obtain ⟨i2, e2⟩ := List.getElem?_eq_some_iff.mp hb
  have z := h i (i + 1) i1 i2 (Nat.lt_succ_self i)
  rw [e1, e2] at z
  exact z
theorem m_law_lot : Meets sp_law_lot N_law_lot P_law_lot t_law_lot := by
  rintro ds M Q W ⟨a, w, b, rfl, g, hb, hbb, q⟩
  refine ⟨rfl, ?_⟩
  have dl := g.dl
  simp [-Bool.exists_bool, t_law_lot, dstart, N_law_lot, eW]
  refine ⟨by omega, ?_⟩
  rw [rng_eq]
  refine acc_inv (fun i acc M' => ∃ l : List Nat, acc = l.map eN ∧ l.Pairwise (· < ·) ∧ (∀ x ∈ l, x < i) ∧ l.length ≤ i ∧ Off a M M' ∧ Bag M' a (b + i)) ⟨[], rfl, .nil, (fun x h => by cases h), Nat.le_refl _, Off.refl a M, hb⟩ (fun _ _ _ _ _ => trivial) ?_ ?_
  · rintro i x acc M' hx ⟨l, rfl, pw, lt, ll, off, bag⟩
    rw [List.getElem?_map, Option.map_eq_some_iff] at hx
    obtain ⟨j, hj, rfl⟩ := hx
    have il := (List.getElem?_eq_some_iff.mp hj).1
    rw [List.length_range] at il
    rw [List.getElem?_range il] at hj
    cases hj
    refine ⟨_, rfl, fun R hR => ?_⟩
    unfold body1
    simp [-Bool.exists_bool, wipeD]
    refine ⟨a, 3, b + i, rfl, bag, by omega, by decide, by decide, fun r o hr bo => ?_⟩
    simp [-Bool.exists_bool, eN]
    by_cases c : 0 < r
    · simp [c]
      refine ⟨by omega, hR _ _ ⟨l ++ [i], by simp [eN], ?_, ?_, by simp; omega, off.trans Off.up, bo⟩⟩
      · rw [List.pairwise_append]
        exact ⟨pw, by simp, fun x hx y hy => by rw [List.mem_singleton.mp hy]; exact lt x hx⟩
      · intro x hx
        rcases List.mem_append.mp hx with h | h
        · have := lt x h; omega
        · rw [List.mem_singleton.mp h]; omega
    · simp [c]
      exact hR _ _ ⟨l, rfl, pw, fun x hx => by have := lt x hx; omega, by omega, off.trans Off.up, bo⟩
  · rintro acc M' ⟨l, rfl, pw, lt, ll, off, bag⟩
    rw [List.length_map, List.length_range] at lt bag
    intro p hp
    refine r_tupL up_same ?_
    have bag' := (bag.more (show b + w.doors.length ≤ b + 6 by omega)).new (o := .lst (l.map eN)) hp
    have off' : Off a M (DL.up M' p (.lst (l.map eN))) := off.trans (Off.new hp)
    obtain ⟨o, bo, so⟩ := off'.fin bag'
    exact fgs so (q l o ⟨lt, asc_of pw⟩ bo)
theorem m_law_works : Meets sp_law_works N_law_works P_law_works t_law_works := by
  rintro ds M Q W ⟨a, r, n, m, b, rfl, r1, r4, n1, n40, rn, m6, hb, hbb, q⟩
  refine ⟨rfl, ?_⟩
  simp [-Bool.exists_bool, t_law_works, dstart, N_law_works]
  refine ⟨a, r, b, rfl, hb, by omega, r1, by omega, fun k o hk bo => ?_⟩
  simp [-Bool.exists_bool, eN]
  refine ⟨by omega, by omega, ?_⟩
  have e1 : (1 + (k : Int)).toNat = k + 1 := by omega
  rw [e1, rng_eq]
  refine draw_row (a := a) (k := n) (b := b + 1) (fun _ => trivial) (by omega) bo (by omega) n1 (by omega) (fun x => eN (x + 1)) ?_ ?_
  · intro j hj
    refine ⟨_, rfl, fun M2 c Q2 b2 c2 q2 => ?_⟩
    simp [-Bool.exists_bool, wipeD]
    refine ⟨a, n, c, rfl, b2, c2, n1, by omega, fun x o' hx bo' => ?_⟩
    simp [eN]
    have z := q2 x o' hx bo'
    have e : (1 + (x : Int)) = ((x + 1 : Nat) : Int) := by omega
    rw [e]
    exact z
  · intro xs M2 hl hlt off2 bag2 p hp
    refine r_tupL up_same ?_
    have npa := bag2.ne hp
    have bag3 := bag2.new (o := .lst (xs.map fun x => eN (x + 1))) hp
    have gr : GoodR (xs.map (· + 1)) := by
      refine ⟨by rw [List.length_map]; omega, by rw [List.length_map]; omega, fun y hy => ?_, ?_⟩
      · obtain ⟨x, hx, rfl⟩ := List.mem_map.mp hy
        have := hlt x hx
        omega
      · have gen : ∀ (l : List Nat), (∀ x ∈ l, x < n) → (l.map (· + 1)).sum ≤ l.length * n := by
          intro l
          induction l with
          | nil => intro _; simp
          | cons y l ih =>
            intro h
            have a1 := h y List.mem_cons_self
            have a2 := ih fun x hx => h x (List.mem_cons_of_mem _ hx)
            rw [List.map_cons, List.sum_cons, List.length_cons, Nat.succ_mul]
            omega
        have z := gen xs hlt
        rw [hl] at z
        have z2 : (k + 1) * n ≤ r * n := Nat.mul_le_mul_right n hk
        omega
    refine ⟨a, xs.map (· + 1), m, _, by simp [eL, eN], gr, m6, bag3, by omega, fun doors o' gw bo' => ?_⟩
    have off3 : Off a M (DL.up (DL.up M2 p (.lst (xs.map fun x => eN (x + 1)))) a o') := (Off.up.trans (off2.trans (Off.new hp))).trans Off.up
    obtain ⟨o2, b2, s2⟩ := off3.fin (bo'.more (show b + 1 + (k + 1) + 13 ≤ b + 18 by omega))
    have e : D.tup [D.tup (xs.map fun x => eN (x + 1)), D.tup (doors.map eD)] = eW ⟨xs.map (· + 1), doors⟩ := by
      unfold eW eL
      rw [List.map_map]
      rfl
    show Fg Q (D.tup [D.tup (xs.map fun x => eN (x + 1)), D.tup (doors.map eD)]) _
    rw [e]
    exact fgs s2 (q _ o2 gw b2)
end RD

set_option Elab.async false
set_option linter.all false
set_option maxRecDepth 20000
/-! M13: doors drawn. -/
namespace RD
open PySem DL
theorem least2 (x y : D) : leastD [x, y] = if ltD y x = true then y else x := by
  unfold leastD
  simp [argBest]
  split <;> rfl
theorem most2 (x y : D) : mostD [x, y] = if ltD x y = true then y else x := by
  unfold mostD
  simp [argBest]
  split <;> rfl
def doorOf (a b : Sp) : Sp × Sp := if a.1 < b.1 then (a, b) else (b, a)
theorem min_door {a b : Sp} (h : a.1 ≠ b.1) : leastD [eS a, eS b] = eS (doorOf a b).1 ∧ mostD [eS a, eS b] = eS (doorOf a b).2 := by
  rw [least2, most2, lt_spot, lt_spot]
  unfold doorOf spLt
  by_cases c : a.1 < b.1
  · have c2 : ¬ b.1 < a.1 := by omega
    have c3 : ¬ b.1 = a.1 := fun e => h e.symm
    simp [c, c2, c3]
  · have c2 : b.1 < a.1 := by omega
    simp [c, c2, h]
theorem seq_ix {n k : Nat} (h : k < n) : seqIndex? (k : Int) n = some k := by
  have e : L2.ixN n (k : Int) = some k := by
    unfold L2.ixN
    rw [if_pos (by omega), if_pos (by omega)]
    simp
  exact (L2.ixN_seq e).1
def leDr (d e : Sp × Sp) : Bool := !decide (drLt e d)
theorem sort_doors (l : List (Sp × Sp)) : sortD (l.map eD) = (l.mergeSort leDr).map eD := by
  unfold sortD
  refine (List.map_mergeSort fun a _ b _ => ?_).symm
  show leDr a b = (cond false (!PySem.W.dataLt (toP (eD a)) (toP (eD b))) (!PySem.W.dataLt (toP (eD b)) (toP (eD a))))
  have z : PySem.W.dataLt (toP (eD b)) (toP (eD a)) = decide (drLt b a) := lt_door
  rw [z]
  rfl
theorem dr_total {d e : Sp × Sp} (h : ¬ drLt e d) (hne : d ≠ e) : drLt d e := by
  unfold drLt spLt at h ⊢
  have key : ¬ (d.1.1 = e.1.1 ∧ d.1.2 = e.1.2 ∧ d.2.1 = e.2.1 ∧ d.2.2 = e.2.2) := fun c => hne (Prod.ext (Prod.ext c.1 c.2.1) (Prod.ext c.2.2.1 c.2.2.2))
  have e1 : (e.1 = d.1) ↔ (e.1.1 = d.1.1 ∧ e.1.2 = d.1.2) := ⟨fun h => by rw [h]; exact ⟨rfl, rfl⟩, fun h => Prod.ext h.1 h.2⟩
  have e2 : (d.1 = e.1) ↔ (d.1.1 = e.1.1 ∧ d.1.2 = e.1.2) := ⟨fun h => by rw [h]; exact ⟨rfl, rfl⟩, fun h => Prod.ext h.1 h.2⟩
  rw [e1] at h
  rw [e2]
  omega
theorem le_trans_dr (a b c : Sp × Sp) (h1 : leDr a b = true) (h2 : leDr b c = true) : leDr a c = true := by
  unfold leDr at *
  simp only [Bool.not_eq_true', decide_eq_false_iff_not] at *
  unfold drLt spLt at *
  have q : ∀ x y : Sp, (x = y) ↔ (x.1 = y.1 ∧ x.2 = y.2) := fun x y => ⟨fun h => by rw [h]; exact ⟨rfl, rfl⟩, fun h => Prod.ext h.1 h.2⟩
  simp only [q] at *
  omega
theorem le_total_dr (a b : Sp × Sp) : (leDr a b || leDr b a) = true := by
  unfold leDr
  by_cases h : drLt b a
  · have h2 : ¬ drLt a b := by
      unfold drLt spLt at *
      have q : ∀ x y : Sp, (x = y) ↔ (x.1 = y.1 ∧ x.2 = y.2) := fun x y => ⟨fun h => by rw [h]; exact ⟨rfl, rfl⟩, fun h => Prod.ext h.1 h.2⟩
      simp only [q] at *
      omega
    simp [h2]
  · simp [h]
theorem sorted_good {rings : List Nat} {l : List (Sp × Sp)} (gr : GoodR rings) (hl : l.length ≤ 6) (on : ∀ d ∈ l, onR rings d.1 ∧ onR rings d.2 ∧ d.1.1 < d.2.1) (nd : (ends l).Nodup) : GoodW ⟨rings, l.mergeSort leDr⟩ := by
  have pm := List.mergeSort_perm l leDr
  have ndl : l.Nodup := by
    clear hl on pm
    induction l with
    | nil => exact List.nodup_nil
    | cons d l ih =>
      have e : ends (d :: l) = [d.1, d.2] ++ ends l := rfl
      rw [e, List.nodup_append] at nd
      rw [List.nodup_cons]
      exact ⟨fun c => nd.2.2 d.1 (by simp) d.1 (mem_ends c).1 rfl, ih nd.2.1⟩
  refine ⟨gr.1, gr.2.1, gr.2.2.1, gr.2.2.2, by show (l.mergeSort leDr).length ≤ 6; rw [List.length_mergeSort]; exact hl, fun d hd => on d (pm.mem_iff.mp hd), ?_, ?_⟩
  · have sorted := List.pairwise_mergeSort le_trans_dr le_total_dr l
    have nds : (l.mergeSort leDr).Nodup := pm.nodup_iff.mpr ndl
    intro i a b ha hb
    rw [List.pairwise_iff_getElem] at sorted
    obtain ⟨i1, e1⟩ := List.getElem?_eq_some_iff.mp ha
    obtain ⟨i2, e2⟩ := List.getElem?_eq_some_iff.mp hb
    have z := sorted i (i + 1) i1 i2 (Nat.lt_succ_self i)
    rw [e1, e2] at z
    unfold leDr at z
    simp only [Bool.not_eq_true', decide_eq_false_iff_not] at z
    refine dr_total z fun c => ?_
    subst c
    have := nodup_get nds ha hb
    omega
  · have p2 : (ends (l.mergeSort leDr)).Perm (ends l) := pm.flatMap_right _
    exact p2.nodup_iff.mpr nd
end RD

set_option Elab.async false
set_option linter.all false
set_option maxRecDepth 20000
/-! M14: doors drawn, the walk. -/
namespace RD
open PySem DL
theorem r_addN {M : MH} {Q : DQ} {m : Nat} (q : Q (eN (m + 1)) M) : ruleBin .Add (eN m) (.int 1) M Q := by
  unfold eN at q ⊢
  rw [r_add]
  exact q
theorem r_ne_list {M : MH} {Q : DQ} {pl pe : Nat} {left : List Sp} (ml : M pl = some (.lst (left.map eS))) (me : M pe = some (.lst [])) (q : Q (.bl (!decide (left = []))) M) : ruleCmp .NotEq (.ref pl) (.ref pe) M Q := by
  refine r_neR (d := .cst (left.map eS)) (e := .cst []) (.lst ml (Dn.flats _ (by rw [flatDs_all]; exact flat_all left))) (.lst me .nil) (by show plDs _ = true; rw [plDs_all, List.all_eq_true]; exact pl_all left) rfl (ok_spots left) (ok_small (k := 1) rfl (by decide)) ?_
  have e : (D.cst (left.map eS) = D.cst []) ↔ left = [] := by simp
  simp only [e]
  exact q
theorem off_put {a p : Nat} {M M' : MH} {o : MO} (h : Off a M M') (hp : M p = none) : Off a M (up M' p o) := fun c u n e => by
  rw [up_ne (by intro z; rw [z, hp] at e; cases e)]; exact h c u n e
theorem bag_put {a b p : Nat} {M : MH} {o : MO} (h : Bag M a b) (n : p ≠ a) : Bag (up M p o) a b := by
  obtain ⟨x, y, z, e, r⟩ := h
  exact ⟨x, y, z, by rw [up_ne n.symm]; exact e, r⟩
theorem erase_at {l : List Sp} {i : Nat} {s : Sp} (nd : l.Nodup) (h : l[i]? = some s) : (∀ t, t ∈ l.eraseIdx i ↔ t ∈ l ∧ t ≠ s) ∧ (l.eraseIdx i).Nodup ∧ (l.eraseIdx i).length + 1 = l.length := by
  obtain ⟨hi, he⟩ := List.getElem?_eq_some_iff.mp h
  refine ⟨fun t => ?_, nd.sublist (List.eraseIdx_sublist _ _), by rw [List.length_eraseIdx_of_lt hi]; omega⟩
  rw [List.mem_eraseIdx_iff_getElem?]
  constructor
  · rintro ⟨j, hj, e⟩
    refine ⟨List.mem_of_getElem? e, fun c => ?_⟩
    subst c
    exact hj (nodup_get nd e h)
  · rintro ⟨hm, hne⟩
    obtain ⟨j, hj⟩ := List.getElem?_of_mem hm
    refine ⟨j, fun c => ?_, hj⟩
    subst c
    rw [h] at hj
    exact hne (Option.some.inj hj).symm
theorem r_rem {M : MH} {Q : DQ} {p i : Nat} {l : List Sp} {s : Sp} (nd : l.Nodup) (h : l[i]? = some s) (m : M p = some (.lst (l.map eS))) (q : Q .non (up M p (.lst ((l.eraseIdx i).map eS)))) : rRemD (.ref p) [eS s] M Q := by
  refine ⟨p, eS s, eS s, l.map eS, l.map eS, i, eS s, rfl, rfl, m, Dn.ofL m (by rw [flatDs_all]; exact flat_all l), Dn.flat _ rfl, ok_spots l, ok_eS s, by rw [List.getElem?_map, h]; rfl, ?_, ?_, ?_⟩
  · rw [eqD_plain rfl rfl]; simp
  · intro j z hj hz
    rw [List.getElem?_map, Option.map_eq_some_iff] at hz
    obtain ⟨t, ht, rfl⟩ := hz
    rw [eqD_plain rfl rfl]
    refine decide_eq_false fun c => ?_
    have e := eS_inj c
    subst e
    have := nodup_get nd ht h
    omega
  · have e : (l.map eS).eraseIdx i = (l.eraseIdx i).map eS := by
      apply List.ext_getElem?
      intro j
      rw [List.getElem?_map, List.getElem?_eraseIdx, List.getElem?_eraseIdx]
      split <;> rw [List.getElem?_map]
    rw [e]
    exact q
theorem m_law_doors : Meets sp_law_doors N_law_doors P_law_doors t_law_doors := by
  rintro ds M Q W ⟨a, rings, m, b, rfl, gr, m6, hb, hbb, q⟩
  refine ⟨rfl, ?_⟩
  have hlen : (spotsOf rings).length ≤ 100 := by rw [spots_len]; exact gr.2.2.2
  simp [-Bool.exists_bool, t_law_doors, dstart, N_law_doors, -w_lc]
  refine ⟨rings, rfl, gr.2.2.2, gr.2.1, fun pl hl pf hf => ?_⟩
  have nla := hb.ne hl
  have nfl : pf ≠ pl := by intro z; rw [z, up_same] at hf; cases hf
  rw [up_ne nfl] at hf
  have nfa := hb.ne hf
  have bag1 : Bag (up (up M pl (.lst ((spotsOf rings).map eS))) pf (.lst [])) a b := bag_put (bag_put hb nla) nfa
  refine r_addN ?_
  refine ⟨a, m + 1, b, rfl, bag1, by omega, by omega, by omega, fun cnt o hc bo => ?_⟩
  refine ⟨cnt, rfl, by omega, by omega, ?_⟩
  rw [Int.toNat_natCast, rng_eq]
  obtain ⟨I, hI⟩ : ∃ I : Nat → DS → MH → Prop, ∀ i δ M', I i δ M' ↔ ∃ (left : List Sp) (found : List (Sp × Sp)) (x5 x6 x7 x8 x9 : Option D), Off a M M' ∧ Bag M' a (b + 1 + 2 * i) ∧ M' pl = some (.lst (left.map eS)) ∧ M' pf = some (.lst (found.map eD)) ∧ left.Nodup ∧ (ends found).Nodup ∧ (∀ s ∈ left, onR rings s ∧ s ∉ ends found) ∧ (∀ d ∈ found, onR rings d.1 ∧ onR rings d.2 ∧ d.1.1 < d.2.1) ∧ found.length ≤ i ∧ left.length ≤ 100 ∧ δ = [some (.ref a), some (eL rings), some (eN m), some (.ref pl), some (.ref pf), x5, x6, x7, x8, x9] := ⟨_, fun _ _ _ => Iff.rfl⟩
  refine for_inv I ((hI _ _ _).mpr ⟨spotsOf rings, [], none, none, none, none, none, (off_put (off_put (Off.refl a M) hl) hf).trans Off.up, bo, by rw [up_ne nla, up_ne nfl.symm, up_same], by rw [up_ne nfa, up_same]; rfl, spots_nd _, List.nodup_nil, fun s hs => ⟨mem_spots.mp hs, by simp [ends]⟩, (fun d h => by cases h), Nat.zero_le _, hlen, rfl⟩) (fun _ _ _ _ _ => trivial) ?_ ?_
  · intro i x δ M' hx hh
    obtain ⟨left, found, x5, x6, x7, x8, x9, off, bag, ml, mf, nd, ndf, lon, fon, fl, ll, rfl⟩ := (hI _ _ _).mp hh
    have il := (List.getElem?_eq_some_iff.mp hx).1
    rw [List.length_map, List.length_range] at il
    refine ⟨_, rfl, fun N hN => ?_⟩
    simp [-Bool.exists_bool, -w_lc]
    intro pe he
    have npl : pe ≠ pl := by intro z; rw [z, ml] at he; cases he
    have npf : pe ≠ pf := by intro z; rw [z, mf] at he; cases he
    have bag0 := bag.new (o := .lst []) he
    have off0 : Off a M (up M' pe (.lst [])) := off.trans (Off.new he)
    have ml0 : up M' pe (.lst []) pl = some (.lst (left.map eS)) := by rw [up_ne npl.symm]; exact ml
    have mf0 : up M' pe (.lst []) pf = some (.lst (found.map eD)) := by rw [up_ne npf.symm]; exact mf
    refine r_ne_list ml0 up_same ?_
    refine ⟨_, rfl, ?_⟩
    generalize up M' pe (.lst []) = M1 at bag0 off0 ml0 mf0
    by_cases cl : left = []
    · rw [decide_eq_true cl, if_neg (by decide)]
      exact hN _ _ ((hI _ _ _).mpr ⟨left, found, _, _, _, _, _, off0, bag0.more (by omega), ml0, mf0, nd, ndf, lon, fon, by omega, ll, rfl⟩)
    · rw [decide_eq_false cl, if_pos (by decide)]
      have lp : 1 ≤ left.length := List.length_pos_iff.mpr cl
      refine ⟨ty_l ml0, r_lenL ml0 ?_⟩
      rw [List.length_map]
      refine ⟨a, left.length, _, rfl, bag0, by omega, lp, by omega, fun r o1 hr bo1 => ?_⟩
      have ml1 : up M1 a o1 pl = some (.lst (left.map eS)) := by rw [up_ne nla]; exact ml0
      have mf1 : up M1 a o1 pf = some (.lst (found.map eD)) := by rw [up_ne nfa]; exact mf0
      have off1 : Off a M (up M1 a o1) := off0.trans Off.up
      generalize hM2 : up M1 a o1 = M2 at bo1 ml1 mf1 off1
      have hone : left[r]? = some left[r] := List.getElem?_eq_getElem hr
      generalize left[r] = one at hone
      obtain ⟨em, end_, el⟩ := erase_at nd hone
      have onem := lon one (List.mem_of_getElem? hone)
      refine ⟨pl, left.map eS, r, r, eS one, rfl, rfl, ml1, by omega, by omega, by rw [List.length_map]; exact seq_ix hr, by rw [List.getElem?_map, hone]; rfl, ?_⟩
      have ee : (left.map eS).eraseIdx r = (left.eraseIdx r).map eS := by
        apply List.ext_getElem?
        intro j
        rw [List.getElem?_map, List.getElem?_eraseIdx, List.getElem?_eraseIdx]
        split <;> rw [List.getElem?_map]
      rw [ee]
      generalize hL1 : left.eraseIdx r = left1 at em end_ el
      have ml2 : up M2 pl (.lst (left1.map eS)) pl = some (.lst (left1.map eS)) := up_same
      have mf2 : up M2 pl (.lst (left1.map eS)) pf = some (.lst (found.map eD)) := by rw [up_ne nfl]; exact mf1
      have bag2 : Bag (up M2 pl (.lst (left1.map eS))) a (b + 1 + 2 * i + 1) := bag_put bo1 nla
      have off2 : Off a M (up M2 pl (.lst (left1.map eS))) := off_put off1 hl
      generalize up M2 pl (.lst (left1.map eS)) = M3 at ml2 mf2 bag2 off2
      show dLc _ _ _ _ _ _ _ _ _
      simp only [w_lc, i_seq, w_varS, w_var0]
      refine ⟨_, itemsL ml2, ?_⟩
      refine acc_fm (fun x => decide ((dS x).1 ≠ one.1)) id rfl (by rw [List.length_map]; simp only [sz_]; omega) ?_ ?_
      · intro x hx
        obtain ⟨t, ht, rfl⟩ := List.mem_map.mp hx
        refine ⟨_, rfl, fun QT qt => ?_, fun _ Q' q' => ?_⟩
        · rw [dS_eS] at qt
          simp [-Bool.exists_bool, wipeD, eS]
          refine ⟨decide (t.1 ≠ one.1), ?_, qt⟩
          by_cases c : t.1 = one.1
          · simp [c]
          · have c2 : ¬ ((t.1 : Int) = one.1) := by omega
            simp [c, c2]
        · simpa [wipeD] using q'
      · intro po ho
        have npa := bag2.ne ho
        have nopl : po ≠ pl := by intro z; rw [z, ml2] at ho; cases ho
        have nopf : po ≠ pf := by intro z; rw [z, mf2] at ho; cases ho
        have eo : ((left1.map eS).filter fun x => decide ((dS x).1 ≠ one.1)).map id = (left1.filter fun t => decide (t.1 ≠ one.1)).map eS := by
          rw [List.map_id]
          exact filter_eS _ _ (fun t => by rw [dS_eS]) _
        rw [eo]
        generalize hO : (left1.filter fun t => decide (t.1 ≠ one.1)) = others
        have om : ∀ t, t ∈ others ↔ t ∈ left1 ∧ t.1 ≠ one.1 := fun t => by rw [← hO, List.mem_filter]; simp
        have ol : others.length ≤ left1.length := by rw [← hO]; exact List.length_filter_le _ _
        have mo3 : up M3 po (.lst (others.map eS)) po = some (.lst (others.map eS)) := up_same
        have ml3 : up M3 po (.lst (others.map eS)) pl = some (.lst (left1.map eS)) := by rw [up_ne nopl.symm]; exact ml2
        have mf3 : up M3 po (.lst (others.map eS)) pf = some (.lst (found.map eD)) := by rw [up_ne nopf.symm]; exact mf2
        have bag3 := bag2.new (o := .lst (others.map eS)) ho
        have off3 : Off a M (up M3 po (.lst (others.map eS))) := off2.trans (Off.new ho)
        generalize up M3 po (.lst (others.map eS)) = M4 at mo3 ml3 mf3 bag3 off3
        intro pz hz
        have nzo : pz ≠ po := by intro z; rw [z, mo3] at hz; cases hz
        have nzl : pz ≠ pl := by intro z; rw [z, ml3] at hz; cases hz
        have nzf : pz ≠ pf := by intro z; rw [z, mf3] at hz; cases hz
        have mo4 : up M4 pz (.lst []) po = some (.lst (others.map eS)) := by rw [up_ne nzo.symm]; exact mo3
        have ml4 : up M4 pz (.lst []) pl = some (.lst (left1.map eS)) := by rw [up_ne nzl.symm]; exact ml3
        have mf4 : up M4 pz (.lst []) pf = some (.lst (found.map eD)) := by rw [up_ne nzf.symm]; exact mf3
        have bag4 := bag3.new (o := .lst []) hz
        have off4 : Off a M (up M4 pz (.lst [])) := off3.trans (Off.new hz)
        refine r_ne_list mo4 up_same ?_
        refine ⟨_, rfl, ?_⟩
        generalize up M4 pz (.lst []) = M5 at mo4 ml4 mf4 bag4 off4
        have lon1 : ∀ s ∈ left1, onR rings s ∧ s ∉ ends found := fun s hs => lon s ((em s).mp hs).1
        by_cases co : others = []
        · rw [decide_eq_true co, if_neg (by decide)]
          exact hN _ _ ((hI _ _ _).mpr ⟨left1, found, _, _, _, _, _, off4, bag4.more (by omega), ml4, mf4, end_, ndf, lon1, fon, by omega, by omega, rfl⟩)
        · rw [decide_eq_false co, if_pos (by decide)]
          have op : 1 ≤ others.length := List.length_pos_iff.mpr co
          refine r_lenL mo4 ?_
          rw [List.length_map]
          refine ⟨a, others.length, _, rfl, bag4, by omega, op, by omega, fun k o2 hk bo2 => ?_⟩
          have noa : po ≠ a := npa
          have mo5 : up M5 a o2 po = some (.lst (others.map eS)) := by rw [up_ne noa]; exact mo4
          have ml5 : up M5 a o2 pl = some (.lst (left1.map eS)) := by rw [up_ne nla]; exact ml4
          have mf5 : up M5 a o2 pf = some (.lst (found.map eD)) := by rw [up_ne nfa]; exact mf4
          have off5 : Off a M (up M5 a o2) := off4.trans Off.up
          generalize up M5 a o2 = M6 at bo2 mo5 ml5 mf5 off5
          have hoth : others[k]? = some others[k] := List.getElem?_eq_getElem hk
          generalize others[k] = other at hoth
          obtain ⟨oin, one_ne⟩ := (om other).mp (List.mem_of_getElem? hoth)
          have othm := lon1 other oin
          obtain ⟨j, hj⟩ := List.getElem?_of_mem oin
          obtain ⟨em2, end2, el2⟩ := erase_at end_ hj
          refine r_ixL (d := eS other) mo5 (by rw [atI_n, List.getElem?_map, hoth]; rfl) ?_
          refine ⟨ty_l ml5, r_rem end_ hj ml5 ?_⟩
          have ml6 : up M6 pl (.lst ((left1.eraseIdx j).map eS)) pl = some (.lst ((left1.eraseIdx j).map eS)) := up_same
          have mf6 : up M6 pl (.lst ((left1.eraseIdx j).map eS)) pf = some (.lst (found.map eD)) := by rw [up_ne nfl]; exact mf5
          have bag6 : Bag (up M6 pl (.lst ((left1.eraseIdx j).map eS))) a (b + 1 + 2 * i + 1 + 1) := bag_put bo2 nla
          have off6 : Off a M (up M6 pl (.lst ((left1.eraseIdx j).map eS))) := off_put off5 hl
          generalize up M6 pl (.lst ((left1.eraseIdx j).map eS)) = M7 at ml6 mf6 bag6 off6
          have hne : one.1 ≠ other.1 := fun c => one_ne c.symm
          obtain ⟨em1, em2'⟩ := min_door hne
          have cmp : comparable [eS one, eS other] = true := cmp_spots [one, other]
          refine ⟨ty_l mf6, ?_⟩
          refine ⟨_, _, rfl, cmp, ?_⟩
          rw [em1]
          refine ⟨_, _, rfl, cmp, ?_⟩
          rw [em2']
          refine r_app mf6 (by rw [List.length_map]; simp only [sz_]; omega) ?_
          have dmem : ∀ s, (s = (doorOf one other).1 ∨ s = (doorOf one other).2) ↔ (s = one ∨ s = other) := fun s => by
            unfold doorOf
            split
            · exact Iff.rfl
            · exact Or.comm
          have efound : ends (found ++ [doorOf one other]) = ends found ++ [(doorOf one other).1, (doorOf one other).2] := by
            unfold ends
            rw [List.flatMap_append]
            rfl
          have dlt : (doorOf one other).1.1 < (doorOf one other).2.1 := by
            unfold doorOf
            split
            · assumption
            · show other.1 < one.1
              omega
          refine hN _ _ ((hI _ _ _).mpr ⟨left1.eraseIdx j, found ++ [doorOf one other], _, _, _, _, _, off_put off6 hf, (bag_put bag6 nfa).more (by omega), by rw [up_ne nfl.symm]; exact ml6, by rw [up_same, List.map_append]; rfl, end2, ?_, ?_, ?_, by simp; omega, by omega, rfl⟩)
          · rw [efound, List.nodup_append]
            refine ⟨ndf, ?_, ?_⟩
            · have : (doorOf one other).1 ≠ (doorOf one other).2 := fun c => by rw [c] at dlt; exact Nat.lt_irrefl _ dlt
              simpa using this
            · rintro s hs t ht rfl
              have z : s = one ∨ s = other := (dmem s).mp (by simpa using ht)
              rcases z with z | z
              · rw [z] at hs; exact onem.2 hs
              · rw [z] at hs; exact othm.2 hs
          · intro s hs
            obtain ⟨h1, h2⟩ := (em2 s).mp hs
            obtain ⟨h3, h4⟩ := (em s).mp h1
            refine ⟨(lon1 s h1).1, fun c => ?_⟩
            rw [efound] at c
            rcases List.mem_append.mp c with c | c
            · exact (lon1 s h1).2 c
            · rcases (dmem s).mp (by simpa using c) with z | z
              · exact h4 z
              · exact h2 z
          · intro d hd
            rcases List.mem_append.mp hd with h | h
            · exact fon d h
            · rw [List.mem_singleton.mp h]
              refine ⟨?_, ?_, dlt⟩
              · rcases (dmem _).mp (.inl rfl) with z | z <;> rw [z]
                · exact onem.1
                · exact othm.1
              · rcases (dmem _).mp (.inr rfl) with z | z <;> rw [z]
                · exact onem.1
                · exact othm.1
  · intro δ M' hh
    obtain ⟨left, found, x5, x6, x7, x8, x9, off, bag, ml, mf, nd, ndf, lon, fon, fl, ll, rfl⟩ := (hI _ _ _).mp hh
    rw [List.length_map, List.length_range] at fl bag
    simp
    refine ⟨pf, found.map eD, rfl, mf, ?_, fun ps hs => ?_⟩
    · unfold sortable
      have c := cmp_doors found
      unfold comparable at c
      rw [Bool.and_eq_true, Bool.and_eq_true, Bool.and_eq_true] at c
      obtain ⟨⟨⟨c1, c2⟩, c3⟩, _⟩ := c
      rw [c1, c2, c3]
      simp [eD]
    · refine r_tupL up_same ?_
      rw [sort_doors]
      have off' : Off a M (up M' ps (.lst ((found.mergeSort leDr).map eD))) := off.trans (Off.new hs)
      have bag' := (bag.more (show b + 1 + 2 * cnt ≤ b + 13 by omega)).new (o := .lst ((found.mergeSort leDr).map eD)) hs
      obtain ⟨o', bo', so'⟩ := off'.fin bag'
      exact fgs so' (q _ o' (sorted_good gr (by omega) fon ndf) bo')
end RD

set_option Elab.async false
set_option linter.all false
set_option maxRecDepth 20000
/-! M15: the written one. -/
namespace RD
open PySem DL
def w0 : Wo := ⟨[2, 3], [((0, 0), (1, 1))]⟩
theorem good0 : GoodW w0 := by
  refine ⟨by decide, by decide, by decide, by decide, by decide, ?_, ?_, by decide⟩
  · intro d hd
    rw [List.mem_singleton.mp hd]
    exact ⟨⟨2, rfl, by decide⟩, ⟨3, rfl, by decide⟩, by decide⟩
  · intro i a b ha hb
    have := (List.getElem?_eq_some_iff.mp hb).1
    simp [w0] at this
theorem good00 : GoodL w0 [0] := by
  refine ⟨by decide, fun i a b ha hb => ?_⟩
  have := (List.getElem?_eq_some_iff.mp hb).1
  simp at this
theorem good01 : GoodL w0 [] := ⟨by decide, fun i a b ha hb => by simp at ha⟩
theorem rounds0 : roundsW w0 [0] = [[(0, 0), (1, 2), (1, 0), (1, 1), (0, 1)]] := by decide +kernel
theorem again00 : allBack w0 [0] = 5 := by decide +kernel
theorem again01 : allBack w0 [] = 6 := by decide +kernel
theorem led0 : LedT [2, 3] (ledI w0 [0] 1) [[1, 2], [3, 4, 5]] [[2, 4], [5, 3, 1]] := by
  refine ⟨⟨rfl, by decide⟩, fun s hs => ?_⟩
  have z : s ∈ spotsOf [2, 3] := mem_spots.mpr hs
  have all : ∀ s ∈ spotsOf [2, 3], at_ [[2, 4], [5, 3, 1]] (ledI w0 [0] 1 s) = at_ [[1, 2], [3, 4, 5]] s := by decide +kernel
  exact all s z
theorem dns_of {M : MH} : ∀ {qs : List Nat} {rs : List (List D)}, qs.length = rs.length → (∀ (i q : Nat) (r : List D), qs[i]? = some q → rs[i]? = some r → M q = some (.lst r)) → (∀ r ∈ rs, flatDs r = true) → Dns M (qs.map D.ref) (rs.map D.cst)
  | [], [], _, _, _ => .nil
  | [], _ :: _, h, _, _ => by simp at h
  | _ :: _, [], h, _, _ => by simp at h
  | q :: qs, r :: rs, h, h1, h2 => .cons (Dn.ofL (h1 0 q r rfl rfl) (h2 r List.mem_cons_self)) (dns_of (by simpa using h) (fun i q' r' a b => h1 (i + 1) q' r' (by simpa using a) (by simpa using b)) fun r' hr => h2 r' (List.mem_cons_of_mem _ hr))
theorem ll_dn {M : MH} {p : Nat} {L : List (List Sp)} (h : LL M p (L.map (·.map eS))) : Dn M (.ref p) (.cst ((L.map (·.map eS)).map D.cst)) := by
  obtain ⟨qs, mp, nd, ql, mq⟩ := h
  refine .lst mp (dns_of ql mq fun r hr => ?_)
  obtain ⟨r', _, rfl⟩ := List.mem_map.mp hr
  rw [flatDs_all]
  exact flat_all r'
theorem pl_ll (L : List (List Sp)) : plD (.cst ((L.map (·.map eS)).map D.cst)) = true := by
  rw [plD, plDs_all, List.all_eq_true]
  intro x hx
  obtain ⟨r, hr, rfl⟩ := List.mem_map.mp hx
  obtain ⟨r', _, rfl⟩ := List.mem_map.mp hr
  rw [plD, plDs_all, List.all_eq_true]
  exact pl_all r'
theorem sm_ll (L : List (List Sp)) : smallD 3 (.cst ((L.map (·.map eS)).map D.cst)) = true := by
  show ((L.map (·.map eS)).map D.cst).all (smallD 2) = true
  rw [List.all_eq_true]
  intro x hx
  obtain ⟨r, hr, rfl⟩ := List.mem_map.mp hx
  obtain ⟨r', _, rfl⟩ := List.mem_map.mp hr
  show (r'.map eS).all (smallD 1) = true
  rw [List.all_eq_true]
  intro y hy
  obtain ⟨s, _, rfl⟩ := List.mem_map.mp hy
  rfl
theorem ok_ll (L : List (List Sp)) : okP (.cst ((L.map (·.map eS)).map D.cst)) = true := ok_small (sm_ll L) (by decide)
theorem flat_eT (st : List (List Nat)) : flatD (eT st) = true := by
  rw [eT, flatD, flatDs_all, List.all_eq_true]
  intro x hx
  obtain ⟨r, _, rfl⟩ := List.mem_map.mp hx
  rw [eL, flatD, flatDs_all, List.all_eq_true]
  intro y hy
  obtain ⟨n, _, rfl⟩ := List.mem_map.mp hy
  rfl
theorem pl_eT (st : List (List Nat)) : plD (eT st) = true := by
  rw [eT, plD, plDs_all, List.all_eq_true]
  intro x hx
  obtain ⟨r, _, rfl⟩ := List.mem_map.mp hx
  rw [eL, plD, plDs_all, List.all_eq_true]
  intro y hy
  obtain ⟨n, _, rfl⟩ := List.mem_map.mp hy
  rfl
theorem sm_eT (st : List (List Nat)) : smallD 2 (eT st) = true := by
  show (st.map eL).all (smallD 1) = true
  rw [List.all_eq_true]
  intro x hx
  obtain ⟨r, _, rfl⟩ := List.mem_map.mp hx
  show (r.map eN).all (smallD 0) = true
  rw [List.all_eq_true]
  intro y hy
  obtain ⟨n, _, rfl⟩ := List.mem_map.mp hy
  rfl
theorem ok_eT (st : List (List Nat)) : okP (eT st) = true := ok_small (sm_eT st) (by decide)
theorem m_law_written : Meets sp_law_written N_law_written P_law_written t_law_written := by
  rintro ds M Q W ⟨rfl, q⟩
  refine ⟨rfl, ?_⟩
  simp [-Bool.exists_bool, t_law_written, dstart, N_law_written]
  intro pi hpi po hpo
  have nio : pi ≠ po := by intro z; rw [z, up_same] at hpo; simp at hpo
  have ew : D.tup [D.tup [D.int 2, D.int 3], D.tup [D.tup [D.tup [D.int 0, D.int 0], D.tup [D.int 1, D.int 1]]]] = eW w0 := rfl
  refine ⟨w0, [0], rfl, good0, good00, fun p M' sb hp ll _ => ?_⟩
  have mi : M' pi = some (.lst (([(0, 0), (1, 2), (1, 0), (1, 1), (0, 1)] : List Sp).map eS)) := sb _ _ (by rw [up_ne nio, up_same]; rfl)
  have mo : M' po = some (.lst [.ref pi]) := sb _ _ up_same
  have dd : Dn M' (.ref po) (.cst (([[(0, 0), (1, 2), (1, 0), (1, 1), (0, 1)]] : List (List Sp)).map (·.map eS) |>.map D.cst)) := .lst mo (.cons (Dn.ofL mi rfl) .nil)
  have dl := ll_dn ll
  rw [rounds0] at dl
  refine r_neR dl dd (pl_ll _) (pl_ll _) (ok_ll _) (ok_ll _) ?_
  have s0 : Sub M M' := by
    rw [up_ne nio.symm] at hpo
    exact ((Sub.new hpi).up hpo).trans sb
  refine ⟨_, rfl, ?_⟩
  rw [decide_eq_true rfl, if_neg (by decide)]
  refine ⟨w0, [0], rfl, good0, good00, ?_⟩
  rw [again00]
  simp [-Bool.exists_bool, eN]
  refine ⟨w0, [], rfl, good0, good01, ?_⟩
  rw [again01]
  simp [-Bool.exists_bool, eN]
  refine ⟨w0, [0], 1, [[1, 2], [3, 4, 5]], rfl, good0, good00, led0.1 |> fun _ => ⟨rfl, by decide⟩, by decide, by decide, fun st' h => ?_⟩
  have e : st' = [[2, 4], [5, 3, 1]] := led_one (perm_led good0 good00 1) h led0
  subst e
  refine r_eqF (flat_eT _) rfl (pl_eT _) rfl (ok_eT _) (ok_eT [[2, 4], [5, 3, 1]]) ?_
  have z : (eT [[2, 4], [5, 3, 1]] = D.tup [D.tup [D.int 2, D.int 4], D.tup [D.int 5, D.int 3, D.int 1]]) := rfl
  rw [decide_eq_true z]
  exact fgs s0 q
end RD

set_option Elab.async false
set_option linter.all false
set_option maxRecDepth 20000
/-! ML: what the laws lean on. -/
namespace RD
open PySem DL
theorem led_it {w : Wo} {l : List Nat} (g : GoodW w) (gl : GoodL w l) {s : Sp} (hs : onR w.rings s) (t : Nat) : ledI w l (t : Int) s = it (step w l) t s := by
  unfold ledI
  have z := it_mod (step w l) ((perm_step g gl).per_back (mem_spots.mpr hs)) t
  rw [z]
  congr 1
theorem led_undo {w : Wo} {l : List Nat} (g : GoodW w) (gl : GoodL w l) {s : Sp} (hs : onR w.rings s) (t : Nat) : ledI w l (-(t : Int)) (it (step w l) t s) = s := by
  rw [led_cyc g gl hs (-(t : Int)) rfl]
  have e : ((t : Int) + -(t : Int)) = 0 := by omega
  rw [e]
  simp [it]
theorem led_redo {w : Wo} {l : List Nat} (g : GoodW w) (gl : GoodL w l) {s : Sp} (hs : onR w.rings s) (t : Int) : ledI w l t (ledI w l (-t) s) = s := by
  have e : ledI w l (-t) s = it (step w l) ((-t) % (per (step w l) s (spotsOf w.rings).length : Int)).toNat s := rfl
  rw [e, led_cyc g gl hs t rfl]
  have p1 := per_pos (step w l) s (spotsOf w.rings).length
  have nn : 0 ≤ (-t) % (per (step w l) s (spotsOf w.rings).length : Int) := Int.emod_nonneg _ (by omega)
  rw [Int.toNat_of_nonneg nn, Int.emod_add_emod]
  have e : (-t + t) = 0 := by omega
  rw [e]
  simp [it]
theorem ledT_back {w : Wo} {l : List Nat} (g : GoodW w) (gl : GoodL w l) {t : Int} {st here : List (List Nat)} (gt : GoodT w.rings st) (h : LedT w.rings (ledI w l t) st here) : LedT w.rings (ledI w l (-t)) here st := by
  refine ⟨gt, fun s hs => ?_⟩
  have on : onR w.rings (ledI w l (-t) s) := mem_spots.mp ((perm_led g gl (-t)).on _ (mem_spots.mpr hs))
  have z := h.2 _ on
  rw [led_redo g gl hs t] at z
  exact z.symm
theorem it_onR {w : Wo} {l : List Nat} (g : GoodW w) (gl : GoodL w l) {s : Sp} (hs : onR w.rings s) (t : Nat) : onR w.rings (it (step w l) t s) := mem_spots.mp ((perm_step g gl).it_on t (mem_spots.mpr hs))
theorem ledT_next {w : Wo} {l : List Nat} (g : GoodW w) (gl : GoodL w l) {t : Nat} {st here st' : List (List Nat)} (h : LedT w.rings (ledI w l t) st here) (h2 : LedT w.rings (step w l) here st') : LedT w.rings (ledI w l ((t + 1 : Nat) : Int)) st st' := by
  refine ⟨h2.1, fun s hs => ?_⟩
  rw [led_it g gl hs, it_succ, h2.2 _ (it_onR g gl hs t), ← h.2 s hs, led_it g gl hs]
theorem ledT_0 {w : Wo} {l : List Nat} (g : GoodW w) (gl : GoodL w l) {st : List (List Nat)} (gt : GoodT w.rings st) : LedT w.rings (ledI w l ((0 : Nat) : Int)) st st := ⟨gt, fun s hs => by rw [led_it g gl hs]; rfl⟩
def nowD (w : Wo) (l : List Nat) (t : Nat) : List (D × D) := (spotsOf w.rings).map fun s => (eS s, eS (it (step w l) t s))
theorem now_get {w : Wo} {l : List Nat} {t : Nat} {s : Sp} (hs : onR w.rings s) : aget (nowD w l t) (eS s) = some (eS (it (step w l) t s)) :=
  aget_mem eS (fun s => eS (it (step w l) t s)) (fun a b h => eS_inj h) (mem_spots.mpr hs)
theorem aputs_new (v : Sp → D) : ∀ (L pre : List Sp), (pre ++ L).Nodup → aputs (pre.map fun s => (eS s, v s)) (L.map fun s => (eS s, v s)) = (pre ++ L).map fun s => (eS s, v s)
  | [], pre, _ => by rw [List.append_nil]; rfl
  | s :: L, pre, h => by
    have n : s ∉ pre := fun c => (List.nodup_append.mp h).2.2 s c s List.mem_cons_self rfl
    have e : aput (pre.map fun s => (eS s, v s)) (eS s) (v s) = (pre ++ [s]).map fun s => (eS s, v s) := by
      rw [aput_none, List.map_append]
      · rfl
      · clear h
        induction pre with
        | nil => rfl
        | cons t pre ih =>
          simp only [List.mem_cons, not_or] at n
          have ne : eS t ≠ eS s := fun c => n.1 (eS_inj c).symm
          simp only [List.map_cons, aget]
          rw [if_neg (by simpa using ne)]
          exact ih n.2
    show aputs (aput (pre.map fun s => (eS s, v s)) (eS s) (v s)) (L.map fun s => (eS s, v s)) = _
    rw [e, aputs_new v L (pre ++ [s]) (by simpa using h)]
    simp
theorem prs_map (v : Sp → D) : ∀ L : List Sp, prsOf (L.map fun s => .tup [eS s, v s]) = some (L.map fun s => (eS s, v s))
  | [] => rfl
  | s :: L => by
    rw [List.map_cons, prsOf, if_pos (okKey_eS s), prs_map v L]
    rfl
theorem r_dictS {M : MH} {Q : DQ} {a : Nat} {L : List Sp} {v : Sp → D} (nd : L.Nodup) (h : M a = some (.lst (L.map fun s => .tup [eS s, v s]))) (q : ∀ p, M p = none → Q (.ref p) (up M p (.dct (L.map fun s => (eS s, v s))))) : rDictD [.ref a] M Q := by
  refine ⟨a, _, _, rfl, h, prs_map v L, fun p hp => ?_⟩
  have z := aputs_new v L [] (by simpa using nd)
  rw [List.nil_append] at z
  rw [show aputs [] (L.map fun s => (eS s, v s)) = aputs (([] : List Sp).map fun s => (eS s, v s)) (L.map fun s => (eS s, v s)) from rfl, z]
  exact q p hp
theorem sz_eT {rings : List Nat} {st : List (List Nat)} (gr : rings.length ≤ 4) (each : ∀ n ∈ rings, n ≤ 40) (h : GoodT rings st) : sizedD 6 (eT st) = true := by
  have sl : st.length ≤ 4 := by
    have z := congrArg List.length h.sh
    rw [List.length_map] at z
    omega
  have e : eT st = .tup (st.map eL) := rfl
  rw [e]
  simp only [sizedD, Bool.and_eq_true, decide_eq_true_eq, List.all_eq_true, List.length_map]
  refine ⟨by omega, fun x hx => ?_⟩
  obtain ⟨r, hr, rfl⟩ := List.mem_map.mp hx
  have rl : r.length ≤ 40 := each _ (by rw [← h.sh]; exact List.mem_map.mpr ⟨r, hr, rfl⟩)
  have e : eL r = .tup (r.map eN) := rfl
  rw [e]
  simp only [sizedD, Bool.and_eq_true, decide_eq_true_eq, List.all_eq_true, List.length_map]
  refine ⟨by omega, fun y hy => ?_⟩
  obtain ⟨n, _, rfl⟩ := List.mem_map.mp hy
  rfl
theorem rounds_many {w : Wo} {l : List Nat} (g : GoodW w) (gl : GoodL w l) : (roundsW w l).length ≤ 100 := by
  have hp := perm_step g gl
  have ro := rounds_ok hp
  have z : (roundsW w l).flatten.length ≤ (spotsOf w.rings).length := len_of_sub ro.2.1 fun s hs => (ro.2.2 s).mp hs
  rw [spots_len] at z
  have z2 := g.sum
  have gen : ∀ (rs : List (List Sp)), (∀ r ∈ rs, 1 ≤ r.length) → rs.length ≤ rs.flatten.length := by
    intro rs
    induction rs with
    | nil => intro _; exact Nat.le_refl _
    | cons r rs ih =>
      intro h
      have a := h r List.mem_cons_self
      have b := ih fun r hr => h r (List.mem_cons_of_mem _ hr)
      rw [List.length_cons, List.flatten_cons, List.length_append]
      omega
  have := gen _ fun r hr => (cyc_bound g gl r hr).1
  omega
theorem rounds_any {w : Wo} {l : List Nat} (g : GoodW w) (gl : GoodL w l) (h1 : 1 ≤ (spotsOf w.rings).length) : 1 ≤ (roundsW w l).length := by
  have hp := perm_step g gl
  have ro := rounds_ok hp
  have z := (ro.2.2 (spotsOf w.rings)[0]).mpr (List.getElem_mem _)
  cases e : roundsW w l with
  | nil =>
    have e' : rounds (step w l) (spotsOf w.rings) = [] := e
    rw [e'] at z
    simp at z
  | cons r rs => simp
theorem sz_ll {w : Wo} {l : List Nat} (g : GoodW w) (gl : GoodL w l) : sizedD 6 (.cst (((roundsW w l).map (·.map eS)).map D.cst)) = true := by
  have z := rounds_many g gl
  simp only [sizedD, Bool.and_eq_true, decide_eq_true_eq, List.all_eq_true, List.length_map]
  refine ⟨by omega, fun x hx => ?_⟩
  obtain ⟨r, hr, rfl⟩ := List.mem_map.mp hx
  obtain ⟨r', hr', rfl⟩ := List.mem_map.mp hr
  have z2 := (cyc_bound g gl r' hr').2.1
  simp only [sizedD, Bool.and_eq_true, decide_eq_true_eq, List.all_eq_true, List.length_map]
  refine ⟨by omega, fun y hy => ?_⟩
  obtain ⟨s, _, rfl⟩ := List.mem_map.mp hy
  rfl
theorem LL.sub {M M' : MH} {p : Nat} {rs : List (List D)} (h : LL M p rs) (s : Sub M M') : LL M' p rs := by
  obtain ⟨qs, a, b, c, d⟩ := h
  exact ⟨qs, s _ _ a, b, c, fun i q r h1 h2 => s _ _ (d i q r h1 h2)⟩
theorem same_row {M : MH} {Q : DQ} {W : DW} {x y d : D} (a : Dn M x d) (b : Dn M y d) (o : okP d = true) (p : plD d = true) (z : sizedD 6 d = true) (q : Q (.bl true) M) : sp_law_same [x, y] M Q W := ⟨x, y, d, rfl, a, b, o, p, z, q⟩
/-- the walk over the bags, for any law: what one bag's turn has to keep -/
theorem law_loop {M M1 : MH} {p : Nat} {as : List Nat} {ns : List Int} {m : Nat} {tb : DTS} {En : DEnds} {ys : List (Option D)} (B : Bags M M1 p as) (hl : ys.length = m + 1)
    (body : ∀ (a : Nat) (M0 : MH) (ys : List (Option D)) (N : DS → MH → Prop), ys.length = m → Bag M0 a (2 ^ 30) → (∀ (ys' : List (Option D)) (M' : MH), ys'.length = m + 1 → Off a M0 M' → N (some (.cst (ns.map D.int)) :: ys') M') → tb W0 { nx := N, ct := N, bk := En.nx, rt := En.rt } (some (.cst (ns.map D.int)) :: some (.ref a) :: ys) M0)
    (fin : ∀ (ys : List (Option D)) (M' : MH), ys.length = m + 1 → En.nx (some (.cst (ns.map D.int)) :: ys) M') :
    forR (still M1 (.ref p)) (.name 1) tb En (as.map D.ref) (some (.cst (ns.map D.int)) :: ys) M1 := by
  obtain ⟨sb, mp, h0, nd, hb⟩ := B
  refine for_inv (fun n δ M' => (∃ ys : List (Option D), ys.length = m + 1 ∧ δ = some (.cst (ns.map D.int)) :: ys) ∧ M' p = some (.lst (as.map D.ref)) ∧ ∀ j a, n ≤ j → as[j]? = some a → Bag M' a (2 ^ 30)) ⟨⟨ys, hl, rfl⟩, mp, fun j a _ h => (hb a (List.mem_of_getElem? h)).2⟩ ?_ ?_ ?_
  · intro i δ M' _ h
    show M' p = M1 p
    rw [h.2.1, mp]
  · rintro i x δ M0 hx ⟨⟨ys, hy, rfl⟩, mp0, bags⟩
    rw [List.getElem?_map, Option.map_eq_some_iff] at hx
    obtain ⟨a, ha, rfl⟩ := hx
    match ys, hy with
    | y :: ys, hy =>
      refine ⟨_, rfl, fun N hN => ?_⟩
      refine body a M0 ys N (by simpa using hy) (bags i a (Nat.le_refl _) ha) fun ys' M' hy' offA => ?_
      refine hN _ _ ⟨⟨ys', hy', rfl⟩, ?_, fun j b hj hb' => ?_⟩
      · refine offA p _ ?_ mp0
        intro z
        rw [List.nodup_cons] at nd
        exact nd.1 (by rw [z]; exact List.mem_of_getElem? ha)
      · have nab : b ≠ a := by
          intro z
          rw [List.nodup_cons] at nd
          rw [z] at hb'
          have := nodup_get nd.2 ha hb'
          omega
        obtain ⟨x, y, z, e, e1, e2⟩ := bags j b (by omega) hb'
        exact ⟨x, y, z, offA b _ nab e, e1, e2⟩
  · rintro δ M' ⟨⟨ys, hy, rfl⟩, _, _⟩
    exact fin ys M' hy
end RD

set_option Elab.async false
set_option linter.all false
set_option maxRecDepth 20000
namespace RD
open PySem L2 PyProof.Rows DL
def N_law : List Str := ["script", "bag", "works1", "lot", "rings", "due", "turn", "told1", "stand", "here", "now", "ticks", "spot", "one"]
def P_law : List Str := ["script"]
def t_law : DTS := (dSeq (dIf (dNotT (dB (dCall sp_law_written dNil))) (dSeq (dRet (dC (.bl false)))
  dNext) dNext)
  (dSeq (dFor (diSeq (dCall sp_law_bags (dCons (dVar 0) (dCons (dC (.int 6)) dNil)))) (.name 1) (dSeq (dAsg (dCall sp_law_works (dCons (dVar 1) (dCons (dC (.int 4)) (dCons (dC (.int 12)) (dCons (dC (.int 6)) dNil))))) (.name 2))
  (dSeq (dAsg (dTup (dCons (dCall sp_law_lot (dCons (dVar 1) (dCons (dVar 2) dNil))) (dCons (dBin ruleIx (dVar 2) (dC (.int 0))) dNil))) (.tup [(.name 3), (.name 4)]))
  (dSeq (dAsg (dCall sp_law_rounds (dCons (dVar 2) (dCons (dVar 3) dNil))) (.name 5))
  (dSeq (dFor (diR1 (dCons (dC (.int 2)) dNil)) (.name 6) (dSeq (dAsg (dCall sp_rounds (dCons (dVar 2) (dCons (dVar 3) dNil))) (.name 7))
  (dSeq (dIf (dOrT (dNotT (dB (dCall sp_law_same (dCons (dVar 7) (dCons (dVar 5) dNil))))) (dB (dBin (ruleCmp .NotEq) (dCall sp_again (dCons (dVar 2) (dCons (dVar 3) dNil))) (dCall sp_law_all_back (dCons (dVar 2) (dCons (dVar 3) dNil)))))) (dSeq (dRet (dC (.bl false)))
  dNext) dNext)
  (dSeq (dDrop (dMt tyLst rAppD (dBin ruleIx (dVar 7) (dC (.int 0))) (dCons (dC .non) dNil)))
  dNext))))
  (dSeq (dAsg (dCall sp_law_stand (dCons (dVar 1) (dCons (dVar 4) (dCons (dBin ruleIx (dLst (dCons (dC (.int 2)) (dCons (dC (.int 1000)) dNil))) (dCall sp_law_take (dCons (dVar 1) (dCons (dC (.int 2)) dNil)))) dNil)))) (.name 8))
  (dSeq (dAsg (dTup (dCons (dVar 8) (dCons (dFn rDictD (dCons (dLc (diSeq (dCall sp_law_spots (dCons (dVar 4) dNil))) (.name 12) dYes (dTup (dCons (dVar 12) (dCons (dVar 12) dNil))) [12]) dNil)) dNil))) (.tup [(.name 9), (.name 10)]))
  (dSeq (dFor (diR1 (dCons (dC (.int 40)) dNil)) (.name 11) (dSeq (dIf (dOrT (dNotT (dB (dCall sp_law_same (dCons (dCall sp_behind (dCons (dVar 2) (dCons (dVar 3) (dCons (dVar 11) (dCons (dVar 8) dNil))))) (dCons (dVar 9) dNil))))) (dB (dBin (ruleCmp .NotEq) (dCall sp_behind (dCons (dVar 2) (dCons (dVar 3) (dCons (dUn (ruleUn .USub) (dVar 11)) (dCons (dVar 9) dNil))))) (dVar 8)))) (dSeq (dRet (dC (.bl false)))
  dNext) dNext)
  (dSeq (dAsg (dBin ruleIx (dCall sp_law_spots (dCons (dVar 4) dNil)) (dCall sp_law_take (dCons (dVar 1) (dCons (dFn rLenD (dCons (dVar 10) dNil)) dNil)))) (.name 12))
  (dSeq (dIf (dNotT (dB (dCall sp_law_same (dCons (dCall sp_led (dCons (dVar 2) (dCons (dVar 3) (dCons (dVar 11) (dCons (dVar 12) dNil))))) (dCons (dBin ruleIx (dVar 10) (dVar 12)) dNil))))) (dSeq (dRet (dC (.bl false)))
  dNext) dNext)
  (dSeq (dIf (dB (dBin (ruleCmp .NotEq) (dCall sp_led (dCons (dVar 2) (dCons (dVar 3) (dCons (dUn (ruleUn .USub) (dVar 11)) (dCons (dBin ruleIx (dVar 10) (dVar 12)) dNil))))) (dVar 12))) (dSeq (dRet (dC (.bl false)))
  dNext) dNext)
  (dSeq (dAsg (dCall sp_law_gone (dCons (dVar 2) (dCons (dVar 3) (dCons (dVar 9) dNil)))) (.name 9))
  (dSeq (dAsg (dFn rDictD (dCons (dLockE (dLc (diDict (dVar 10)) (.name 13) dYes (dTup (dCons (dVar 13) (dCons (dCall sp_law_tick (dCons (dVar 2) (dCons (dVar 3) (dCons (dBin ruleIx (dVar 10) (dVar 13)) dNil)))) dNil))) [13])) dNil)) (.name 10))
  dNext)))))))
  dNext))))))))
  (dSeq (dRet (dC (.bl true)))
  dNext)))
end RD

set_option Elab.async false
set_option linter.all false
set_option maxRecDepth 20000
/-! L02: the law. -/
namespace RD
open PySem DL
theorem m_law : Meets sp_law N_law P_law t_law := by
  rintro ds M Q W ⟨ns, rfl, hn, q⟩
  refine ⟨rfl, ?_⟩
  simp [-Bool.exists_bool, t_law, dstart, N_law, -w_lc, -w_ret]
  refine ⟨rfl, true, rfl, ?_⟩
  rw [if_pos rfl]
  refine ⟨ns, 6, rfl, hn, by decide, fun p as M1 ⟨sb, mp, h0, nd, hb⟩ => ?_⟩
  refine ⟨_, itemsL mp, ?_⟩
  obtain ⟨O, hO⟩ : ∃ O : Nat → DS → MH → Prop, ∀ n δ M', O n δ M' ↔ ((∃ y1 y2 y3 y4 y5 y6 y7 y8 y9 y10 y11 y12 y13 : Option D, δ = [some (.cst (ns.map D.int)), y1, y2, y3, y4, y5, y6, y7, y8, y9, y10, y11, y12, y13]) ∧ M' p = some (.lst (as.map D.ref)) ∧ ∀ j a, n ≤ j → as[j]? = some a → Bag M' a (2 ^ 30)) := ⟨_, fun _ _ _ => Iff.rfl⟩
  refine for_inv O ((hO _ _ _).mpr ⟨⟨_, _, _, _, _, _, _, _, _, _, _, _, _, rfl⟩, mp, fun j a _ h => (hb a (List.mem_of_getElem? h)).2⟩) ?_ ?_ ?_
  · intro i δ M' _ h
    show M' p = M1 p
    rw [((hO _ _ _).mp h).2.1, mp]
  · intro i x δ M0 hx h
    rw [List.getElem?_map, Option.map_eq_some_iff] at hx
    obtain ⟨a, ha, rfl⟩ := hx
    obtain ⟨⟨y1, y2, y3, y4, y5, y6, y7, y8, y9, y10, y11, y12, y13, rfl⟩, mp0, bags⟩ := (hO _ _ _).mp h
    have bag := bags i a (Nat.le_refl _) ha
    refine ⟨_, rfl, fun N hN => ?_⟩
    simp [-Bool.exists_bool, -w_lc, -w_ret]
    refine ⟨a, 4, 12, 6, _, rfl, by decide, by decide, by decide, by decide, by decide, by decide, bag, by decide, fun w o1 g b1 => ?_⟩
    simp [-Bool.exists_bool, -w_lc, -w_ret]
    refine ⟨a, w, _, rfl, g, b1, by decide, fun l o2 gl b2 => ?_⟩
    refine r_ixW ⟨_, rfl, ?_⟩
    simp [-Bool.exists_bool, -w_lc, -w_ret]
    generalize hM2 : up (up M0 a o1) a o2 = M2 at b2
    have off2 : Off a M0 M2 := by rw [← hM2]; exact Off.up.trans Off.up
    refine ⟨w, l, rfl, g, gl, fun due M3 s3 hdue lldue => ?_⟩
    simp [-Bool.exists_bool, -w_lc, -w_ret]
    have fresh3 : ∀ c, M2 c = none → M0 c = none := fun c hc => off_free off2 hc fun z => by
      obtain ⟨_, _, _, e, _⟩ := b2
      rw [z, e] at hc
      cases hc
    have off3 : Off a M0 M3 := off2.trans fun c u _ e => s3 c u e
    have b3 : Bag M3 a (2 ^ 30 + 24) := by
      obtain ⟨x, y, z, e, e1, e2⟩ := b2
      exact ⟨x, y, z, s3 _ _ e, e1, by omega⟩
    have ne0 : 1 ≤ (spotsOf w.rings).length := by
      rw [spots_len]
      have l1 := g.l1
      cases e : w.rings with
      | nil => rw [e] at l1; simp at l1
      | cons n rs =>
        have z := (g.each n (by rw [e]; exact List.mem_cons_self)).1
        rw [List.sum_cons]
        omega
    obtain ⟨J, hJ⟩ : ∃ J : Nat → DS → MH → Prop, ∀ n δ M', J n δ M' ↔ ((∃ y6 y7 : Option D, δ = [some (.cst (ns.map D.int)), some (.ref a), some (eW w), some (eL l), some (eL w.rings), some (.ref due), y6, y7, y8, y9, y10, y11, y12, y13]) ∧ Sub M3 M') := ⟨_, fun _ _ _ => Iff.rfl⟩
    refine for_inv J ((hJ _ _ _).mpr ⟨⟨_, _, rfl⟩, Sub.refl _⟩) (fun _ _ _ _ _ => trivial) ?_ ?_
    · intro k x δ M4 hx h
      obtain ⟨⟨y6, y7, rfl⟩, s4⟩ := (hJ _ _ _).mp h
      refine ⟨_, rfl, fun N2 hN2 => ?_⟩
      simp [-Bool.exists_bool, -w_lc, -w_ret]
      refine ⟨w, l, rfl, g, gl, fun told M5 s5 htold llt frt => ?_⟩
      simp [-Bool.exists_bool, -w_lc, -w_ret]
      refine same_row (ll_dn llt) (ll_dn (lldue.sub (s4.trans s5))) (ok_ll _) (pl_ll _) (sz_ll g gl) ?_
      refine ⟨true, rfl, ?_⟩
      rw [if_pos rfl]
      refine ⟨w, l, rfl, g, gl, ?_⟩
      refine ⟨w, l, rfl, g, gl, ?_⟩
      simp [-Bool.exists_bool, -w_lc, -w_ret, eN]
      obtain ⟨qs, mt, ndt, ql, mq⟩ := llt
      have ra := rounds_any g gl ne0
      obtain ⟨r0, er0⟩ : ∃ r0, (roundsW w l)[0]? = some r0 := ⟨_, List.getElem?_eq_getElem ra⟩
      obtain ⟨q0, hq0⟩ : ∃ q0, qs[0]? = some q0 := ⟨_, List.getElem?_eq_getElem (by rw [ql, List.length_map]; exact ra)⟩
      have hr0 : ((roundsW w l).map (·.map eS))[0]? = some (r0.map eS) := by rw [List.getElem?_map, er0]; rfl
      have m0 := mq 0 _ _ hq0 hr0
      have f0 := frt qs mt _ (List.mem_of_getElem? hq0)
      refine r_ixL mt (d := .ref q0) (by rw [atI_0, List.getElem?_map, hq0]; rfl) ?_
      have small : (r0.map eS).length < sizeLine := by
        rw [List.length_map]
        have z := (cyc_bound g gl r0 (List.mem_of_getElem? er0)).2.1
        simp only [sizeLine_eq]
        omega
      refine ⟨ty_l m0, r_app m0 small ?_⟩
      refine hN2 _ _ ((hJ _ _ _).mpr ⟨⟨_, _, rfl⟩, fun c u e => ?_⟩)
      have e4 := s4 c u e
      have nc : c ≠ q0 := fun z => by rw [z, f0] at e4; cases e4
      rw [up_ne nc]
      exact s5 c u e4
    · intro δ M6 h
      obtain ⟨⟨y6, y7, rfl⟩, s6⟩ := (hJ _ _ _).mp h
      have off6 : Off a M0 M6 := off3.trans fun c u _ e => s6 c u e
      have b6 : Bag M6 a (2 ^ 30 + 24) := by
        obtain ⟨x, y, z, e, e1, e2⟩ := b3
        exact ⟨x, y, z, s6 _ _ e, e1, e2⟩
      clear hJ
      simp [-Bool.exists_bool, -w_lc, -w_ret]
      intro pk hpk
      refine ⟨a, 2, _, rfl, b6.new hpk, by decide, by decide, by decide, fun r o3 hr b7 => ?_⟩
      have mk : up (up M6 pk (.lst [.int 2, .int 1000])) a o3 pk = some (.lst [.int 2, .int 1000]) := by rw [up_ne (b6.ne hpk), up_same]
      obtain ⟨k, hk, hk1, hk2⟩ : ∃ k : Nat, L2.atI [D.int 2, D.int 1000] (r : Int) = some (eN k) ∧ 1 ≤ k ∧ k ≤ 1000 := by
        rw [atI_n]
        match r, hr with
        | 0, _ => exact ⟨2, rfl, by decide, by decide⟩
        | 1, _ => exact ⟨1000, rfl, by decide, by decide⟩
      refine r_ixL mk hk ?_
      have gr : GoodR w.rings := ⟨g.l1, g.l4, g.each, g.sum⟩
      refine ⟨a, w.rings, k, _, rfl, gr, hk1, hk2, b7, by decide, fun st o4 gt b8 => ?_⟩
      generalize hM8 : up (up (up M6 pk (.lst [.int 2, .int 1000])) a o3) a o4 = M8 at b8
      have off8 : Off a M0 M8 := by
        rw [← hM8]
        exact ((off6.trans (Off.new hpk)).trans Off.up).trans Off.up
      clear hM8 mk b7
      simp [-Bool.exists_bool]
      refine ⟨w.rings, rfl, g.sum, g.l4, fun ps hps => ?_⟩
      refine ⟨_, itemsL up_same, ?_⟩
      have sl : (spotsOf w.rings).length ≤ 100 := by rw [spots_len]; exact g.sum
      refine acc_map (fun d => .tup [d, d]) rfl (by rw [List.length_map]; simp only [sizeLine_eq]; omega) (fun x hx => ?_) fun pl hpl => ?_
      · refine ⟨_, rfl, fun Q' q' => ?_⟩
        simp [wipeD]
        exact q'
      have el : ((spotsOf w.rings).map eS).map (fun d => D.tup [d, d]) = (spotsOf w.rings).map fun s => .tup [eS s, eS s] := by rw [List.map_map]; rfl
      rw [el]
      refine r_dictS (v := eS) (spots_nd _) up_same fun pd hpd => ?_
      refine ⟨_, rfl, ?_⟩
      have e0 : (spotsOf w.rings).map (fun s => (eS s, eS s)) = nowD w l 0 := rfl
      rw [e0]
      have n8s : Off a M0 (up M8 ps (.lst ((spotsOf w.rings).map eS))) := off8.trans (Off.new hps)
      have n8l := n8s.trans (Off.new hpl (o := .lst ((spotsOf w.rings).map fun s => .tup [eS s, eS s])))
      have bl := ((b8.new hps (o := .lst ((spotsOf w.rings).map eS))).new hpl (o := .lst ((spotsOf w.rings).map fun s => .tup [eS s, eS s])))
      have nda := bl.ne hpd
      have fd : M0 pd = none := off_free n8l hpd nda
      obtain ⟨T, hT⟩ : ∃ T : Nat → DS → MH → Prop, ∀ t δ M', T t δ M' ↔ (∃ (here : List (List Nat)) (d : Nat) (x11 x12 x13 : Option D), δ = [some (.cst (ns.map D.int)), some (.ref a), some (eW w), some (eL l), some (eL w.rings), some (.ref due), y6, y7, some (eT st), some (eT here), some (.ref d), x11, x12, x13] ∧ LedT w.rings (ledI w l (t : Int)) st here ∧ M' d = some (.dct (nowD w l t)) ∧ d ≠ a ∧ M0 d = none ∧ Off a M0 M' ∧ Bag M' a (2 ^ 30 + 125 + t)) := ⟨_, fun _ _ _ => Iff.rfl⟩
      refine for_inv T ((hT _ _ _).mpr ⟨st, pd, _, _, _, rfl, ledT_0 g gl gt, up_same, nda, fd, n8l.trans (Off.new hpd), bl.new hpd⟩) (fun _ _ _ _ _ => trivial) ?_ ?_
      · intro t x δ MA hx h
        obtain ⟨here, d, x11, x12, x13, rfl, hl, md, dna, df, offA, bA⟩ := (hT _ _ _).mp h
        rw [rng_eq, List.getElem?_map, Option.map_eq_some_iff] at hx
        obtain ⟨t', ht, rfl⟩ := hx
        obtain ⟨tl, te⟩ := List.getElem?_eq_some_iff.mp ht
        rw [List.getElem_range] at te
        subst te
        rw [List.length_range] at tl
        refine ⟨_, rfl, fun N2 hN2 => ?_⟩
        simp [-Bool.exists_bool, -w_lc, -w_ret]
        refine ⟨w, l, (t : Int), st, rfl, g, gl, gt, by omega, by omega, fun st1 h1 => ?_⟩
        rw [led_one (perm_led g gl (t : Int)) h1 hl]
        refine same_row (Dn.flat _ (flat_eT _)) (Dn.flat _ (flat_eT _)) (ok_eT _) (pl_eT _) (sz_eT g.l4 (fun n h => (g.each n h).2) hl.1) ?_
        refine ⟨true, rfl, ?_⟩
        rw [if_pos rfl]
        refine ⟨w, l, -(t : Int), here, rfl, g, gl, hl.1, by omega, by omega, fun st2 h2 => ?_⟩
        rw [led_one (perm_led g gl (-(t : Int))) h2 (ledT_back g gl gt hl)]
        refine r_neF (flat_eT _) (flat_eT _) (pl_eT _) (pl_eT _) (ok_eT _) (ok_eT _) ?_
        refine ⟨_, rfl, ?_⟩
        rw [decide_eq_true rfl, if_neg (by decide)]
        refine ⟨w.rings, rfl, g.sum, g.l4, fun pz hpz => ?_⟩
        have ndz : d ≠ pz := by intro z; rw [← z, md] at hpz; cases hpz
        refine r_lenD (by rw [up_ne ndz]; exact md) ?_
        have nl : (nowD w l t).length = (spotsOf w.rings).length := by unfold nowD; rw [List.length_map]
        rw [nl]
        refine ⟨a, (spotsOf w.rings).length, _, rfl, bA.new hpz, by omega, ne0, by omega, fun r o hr bB => ?_⟩
        obtain ⟨s, hs⟩ : ∃ s, (spotsOf w.rings)[r]? = some s := ⟨_, List.getElem?_eq_getElem hr⟩
        have on : onR w.rings s := mem_spots.mp (List.mem_of_getElem? hs)
        have mz : up (up MA pz (.lst ((spotsOf w.rings).map eS))) a o pz = some (.lst ((spotsOf w.rings).map eS)) := by rw [up_ne (bA.ne hpz), up_same]
        refine r_ixL mz (d := eS s) (by rw [show L2.atI _ (r : Int) = _ from atI_n _ r, List.getElem?_map, hs]; rfl) ?_
        have offB : Off a M0 (up (up MA pz (.lst ((spotsOf w.rings).map eS))) a o) := (offA.trans (Off.new hpz)).trans Off.up
        have mdB : up (up MA pz (.lst ((spotsOf w.rings).map eS))) a o d = some (.dct (nowD w l t)) := by rw [up_ne dna, up_ne ndz, md]
        generalize up (up MA pz (.lst ((spotsOf w.rings).map eS))) a o = MB at bB offB mdB mz
        clear mz
        refine ⟨w, l, (t : Int), s, rfl, g, gl, on, by omega, by omega, ?_⟩
        rw [led_it g gl on]
        refine r_ixD (.inl mdB) (okKey_eS s) (now_get on) ?_
        refine same_row (Dn.flat _ rfl) (Dn.flat _ rfl) (ok_eS _) rfl rfl ?_
        refine ⟨true, rfl, ?_⟩
        rw [if_pos rfl]
        refine r_ixD (.inl mdB) (okKey_eS s) (now_get on) ?_
        refine ⟨w, l, -(t : Int), it (step w l) t s, rfl, g, gl, it_onR g gl on t, by omega, by omega, ?_⟩
        rw [led_undo g gl on]
        refine r_neF rfl rfl rfl rfl (ok_eS _) (ok_eS _) ?_
        refine ⟨_, rfl, ?_⟩
        rw [decide_eq_true rfl, if_neg (by decide)]
        refine ⟨w, l, here, rfl, g, gl, hl.1, fun st3 h3 => ?_⟩
        simp [-Bool.exists_bool, -w_lc, -w_ret]
        refine ⟨d, nowD w l t, mdB, ?_⟩
        simp only [w_lc, i_dict, w_varS, w_var0]
        refine ⟨d, nowD w l t, rfl, up_same, ?_⟩
        have ek : akeys (nowD w l t) = (spotsOf w.rings).map eS := by
          unfold akeys nowD
          rw [List.map_map]
          rfl
        rw [ek]
        refine acc_map (fun x => .tup [x, (aget (nowD w l (t + 1)) x).getD .non]) up_same (by rw [List.length_map]; simp only [sizeLine_eq]; omega) (fun x hx => ?_) fun pq hpq => ?_
        · obtain ⟨u, hu, rfl⟩ := List.mem_map.mp hx
          have onu : onR w.rings u := mem_spots.mp hu
          refine ⟨_, rfl, fun Q' q' => ?_⟩
          simp [-Bool.exists_bool, wipeD]
          refine r_ixD (.inr up_same) (okKey_eS u) (now_get onu) ?_
          refine ⟨w, l, it (step w l) t u, rfl, g, gl, it_onR g gl onu t, ?_⟩
          rw [now_get onu] at q'
          rw [it_succ] at q'
          exact q'
        · have er : ((spotsOf w.rings).map eS).map (fun x => D.tup [x, (aget (nowD w l (t + 1)) x).getD .non]) = (spotsOf w.rings).map fun s => .tup [eS s, eS (it (step w l) (t + 1) s)] := by
            rw [List.map_map]
            refine List.map_congr_left fun u hu => ?_
            show D.tup [eS u, (aget (nowD w l (t + 1)) (eS u)).getD .non] = _
            rw [now_get (mem_spots.mp hu)]
            rfl
          rw [er]
          have ndq : d ≠ pq := by intro z; rw [← z, up_same] at hpq; cases hpq
          refine ⟨by rw [up_ne ndq, up_same], ?_⟩
          refine r_dictS (v := fun s => eS (it (step w l) (t + 1) s)) (spots_nd _) (by rw [up_ne ndq.symm, up_same]) fun pn hpn => ?_
          have nna : pn ≠ a := by
            intro z
            obtain ⟨_, _, _, e, _⟩ := bB
            rw [z, up_ne dna.symm] at hpn
            by_cases c : a = pq
            · rw [c, up_same] at hpn; cases hpn
            · rw [up_ne c, up_ne dna.symm, e] at hpn; cases hpn
          have nqa : pq ≠ a := by
            intro z
            obtain ⟨_, _, _, e, _⟩ := bB
            rw [z, up_ne dna.symm, e] at hpq
            cases hpq
          have ndn : pn ≠ d := by intro z; rw [z, up_same] at hpn; cases hpn
          have nnq : pn ≠ pq := by
            intro z
            rw [z, up_ne ndq.symm, up_same] at hpn
            cases hpn
          have fq : M0 pq = none := off_free offB (by rw [up_ne ndq.symm] at hpq; exact hpq) nqa
          have fn : M0 pn = none := off_free offB (by rw [up_ne ndn, up_ne nnq, up_ne ndn] at hpn; exact hpn) nna
          refine hN2 _ _ ((hT _ _ _).mpr ⟨st3, pn, _, _, _, rfl, ledT_next g gl hl h3, up_same, nna, fn, off_put (off_put (off_put (off_put offB df) fq) df) fn, ?_⟩)
          exact (bag_put (bag_put (bag_put (bag_put bB dna) nqa) dna) nna).more (by omega)
      · intro δ MA h
        obtain ⟨here, d, x11, x12, x13, rfl, hl, md, dna, df, offA, bA⟩ := (hT _ _ _).mp h
        simp
        refine hN _ _ ((hO _ _ _).mpr ⟨⟨_, _, _, _, _, _, _, _, _, _, _, _, _, rfl⟩, ?_, fun j b hj hb' => ?_⟩)
        · refine offA p _ ?_ mp0
          intro z
          rw [List.nodup_cons] at nd
          exact nd.1 (by rw [z]; exact List.mem_of_getElem? ha)
        · have nab : b ≠ a := by
            intro z
            rw [List.nodup_cons] at nd
            rw [z] at hb'
            have := nodup_get nd.2 ha hb'
            omega
          obtain ⟨x, y, z, e, e1, e2⟩ := bags j b (by omega) hb'
          exact ⟨x, y, z, offA b _ nab e, e1, e2⟩
  · intro δ M' h
    obtain ⟨⟨y1, y2, y3, y4, y5, y6, y7, y8, y9, y10, y11, y12, y13, rfl⟩, mp0, bags⟩ := (hO _ _ _).mp h
    simp
    exact fg (q _)
end RD

set_option Elab.async false
set_option linter.all false
set_option maxRecDepth 100000
set_option maxHeartbeats 0
namespace RD
open PySem L2 PyProof.Rows DL
structure Gs (mg : Str → Option Value) : Prop where
  abs : mg "abs" = none
  all : mg "all" = none
  bool : mg "bool" = none
  dict : mg "dict" = none
  enumerate : mg "enumerate" = none
  int : mg "int" = none
  isinstance : mg "isinstance" = none
  len : mg "len" = none
  list : mg "list" = none
  max : mg "max" = none
  min : mg "min" = none
  range : mg "range" = none
  sorted : mg "sorted" = none
  str : mg "str" = none
  sum : mg "sum" = none
  tuple : mg "tuple" = none
  zip : mg "zip" = none
  MOST_DOORS : ∃ tk, mg "MOST_DOORS" = some (.int 6 tk)
  MOST_LENGTH : ∃ tk, mg "MOST_LENGTH" = some (.int 40 tk)
  MOST_RINGS : ∃ tk, mg "MOST_RINGS" = some (.int 4 tk)
  MOST_SPOTS : ∃ tk, mg "MOST_SPOTS" = some (.int 100 tk)
  MOST_THING : ∃ tk, mg "MOST_THING" = some (.int 999 tk)
  MOST_TICKS : ∃ tk, mg "MOST_TICKS" = some (.int 1000000000000000000000000000000 tk)
variable {P : Program} {w : World} {K : PySem.W.Frag} {mg : Str → Option Value} {base : Heap}
def top (i : Nat) : Stmt := PySem.Challenge.pw_ringdoors_k02_ticks_one_by_one.main.body.getD i (.Pass ⟨0, 0, 0, 0⟩)
abbrev s_law_well : Stmt := top 44
theorem sc_law_well : FnScope N_law_well P_law_well (defScope s_law_well) := ⟨rfl, rfl, rfl, by decide +kernel, rfl, by decide +kernel, by decide +kernel⟩
theorem b_law_well (g : Gs mg)  {f : Nat} {cdv : Value} {A : Around} {outer : List Env} {s : Shared} {H : Hp} {E : XK} (C : Ctx (bodyX P w K mg base N_law_well "_law_well" s_law_well f cdv A outer s H E) E 0) :
    PSs (bodyX P w K mg base N_law_well "_law_well" s_law_well f cdv A outer s H E) (defBody s_law_well) (liftS ⟨P, w, K, mg⟩ E t_law_well) := by
  have nd := sc_law_well.nd
  exact (dss_cons (ds_if (tcmp C.std (dv 0) (de_bin' de_int de_int)) (dss_cons (ds_ret (de_lst (dac (de_bin' (dv 0) (de_bin' de_int de_int)) (dac (de_bin' (dv 0) de_int) (dac (dv 1) da_nil)))))
  dss_nil) dss_nil)
  (dss_cons (ds_ret (de_lst (dac de_int (dac (de_bin' (dv 0) de_int) (dac (dv 1) da_nil)))))
  dss_nil))
theorem fe_law_well (g : Gs mg)  (d : ∃ f fd, mg "_law_well" = some (.ref f) ∧ FunD K "_law_well" "_law_well" (defArgs s_law_well) (defBody s_law_well) (defScope s_law_well) [] [] f fd) (m : Meets sp_law_well N_law_well P_law_well t_law_well) : FE P w K mg base 1 "_law_well" P_law_well sp_law_well := by
  obtain ⟨f, fd, hm, F⟩ := d
  exact fe_of F sc_law_well hm (F.bindsN fun _ _ _ _ _ _ us hl => match us, hl with | [_, _], _ => rfl) m fun f cdv A outer s H E C => b_law_well g  C
abbrev s_law_bags : Stmt := top 46
theorem sc_law_bags : FnScope N_law_bags P_law_bags (defScope s_law_bags) := ⟨rfl, rfl, rfl, by decide +kernel, rfl, by decide +kernel, by decide +kernel⟩
theorem b_law_bags (g : Gs mg) (F_law_well : FE P w K mg base 1 "_law_well" P_law_well sp_law_well) {f : Nat} {cdv : Value} {A : Around} {outer : List Env} {s : Shared} {H : Hp} {E : XK} (C : Ctx (bodyX P w K mg base N_law_bags "_law_bags" s_law_bags f cdv A outer s H E) E 1) :
    PSs (bodyX P w K mg base N_law_bags "_law_bags" s_law_bags f cdv A outer s H E) (defBody s_law_bags) (liftS ⟨P, w, K, mg⟩ E t_law_bags) := by
  have nd := sc_law_bags.nd
  exact (dss_cons (ds_ret (de_lc C.std.calm nd (ienum g.enumerate (dac (de_bin' (de_sl (dv 0) do_none (do_some (dv 1))) (de_lst (dac de_int da_nil))) da_nil)) (blkOk_by (own := [(PySem.Str.ofString "k", 2), (PySem.Str.ofString "cell", 3)]) rfl) (by decide) (fun _ _ _ _ _ => (gtup (C.blk _ _ _ _ _ _).std (gcons (gn 2 nd) (gcons (gn 3 nd) gnil)))) (fun _ _ _ _ _ => tests0) (fun _ _ _ _ _ => (de_call F_law_well (C.blk _ _ _ _ _ _) (by decide) (dac (dv 3) (dac (de_bin' de_int (dv 2)) da_nil)))) (fun _ => rfl)))
  dss_nil)
theorem fe_law_bags (g : Gs mg) (F_law_well : FE P w K mg base 1 "_law_well" P_law_well sp_law_well) (d : ∃ f fd, mg "_law_bags" = some (.ref f) ∧ FunD K "_law_bags" "_law_bags" (defArgs s_law_bags) (defBody s_law_bags) (defScope s_law_bags) [] [] f fd) (m : Meets sp_law_bags N_law_bags P_law_bags t_law_bags) : FE P w K mg base 2 "_law_bags" P_law_bags sp_law_bags := by
  obtain ⟨f, fd, hm, F⟩ := d
  exact fe_of F sc_law_bags hm (F.bindsN fun _ _ _ _ _ _ us hl => match us, hl with | [_, _], _ => rfl) m fun f cdv A outer s H E C => b_law_bags g F_law_well C
abbrev s_rises : Stmt := top 16
theorem sc_rises : FnScope N_rises P_rises (defScope s_rises) := ⟨rfl, rfl, rfl, by decide +kernel, rfl, by decide +kernel, by decide +kernel⟩
theorem b_rises (g : Gs mg)  {f : Nat} {cdv : Value} {A : Around} {outer : List Env} {s : Shared} {H : Hp} {E : XK} (C : Ctx (bodyX P w K mg base N_rises "rises" s_rises f cdv A outer s H E) E 0) :
    PSs (bodyX P w K mg base N_rises "rises" s_rises f cdv A outer s H E) (defBody s_rises) (liftS ⟨P, w, K, mg⟩ E t_rises) := by
  have nd := sc_rises.nd
  exact (dss_cons (ds_ret (de_callB (ok_all C.std) g.all bb_all (dac (de_lc C.std.calm nd (izip g.zip (dac (dv 0) (dac (de_sl (dv 0) (do_some de_int) do_none) da_nil))) (blkOk_by (own := [(PySem.Str.ofString "one", 1), (PySem.Str.ofString "other", 2)]) rfl) (by decide) (fun _ _ _ _ _ => (gtup (C.blk _ _ _ _ _ _).std (gcons (gn 1 nd) (gcons (gn 2 nd) gnil)))) (fun _ _ _ _ _ => tests0) (fun _ _ _ _ _ => (dcmp (C.blk _ _ _ _ _ _).std (dv 1) (dv 2))) (fun _ => rfl)) da_nil)))
  dss_nil)
theorem fe_rises (g : Gs mg)  (d : ∃ f fd, mg "rises" = some (.ref f) ∧ FunD K "rises" "rises" (defArgs s_rises) (defBody s_rises) (defScope s_rises) [] [] f fd) (m : Meets sp_rises N_rises P_rises t_rises) : FE P w K mg base 1 "rises" P_rises sp_rises := by
  obtain ⟨f, fd, hm, F⟩ := d
  exact fe_of F sc_rises hm (F.bindsN fun _ _ _ _ _ _ us hl => match us, hl with | [_], _ => rfl) m fun f cdv A outer s H E C => b_rises g  C
abbrev s_is_whole : Stmt := top 13
theorem sc_is_whole : FnScope N_is_whole P_is_whole (defScope s_is_whole) := ⟨rfl, rfl, rfl, by decide +kernel, rfl, by decide +kernel, by decide +kernel⟩
theorem b_is_whole (g : Gs mg)  {f : Nat} {cdv : Value} {A : Around} {outer : List Env} {s : Shared} {H : Hp} {E : XK} (C : Ctx (bodyX P w K mg base N_is_whole "is_whole" s_is_whole f cdv A outer s H E) E 0) :
    PSs (bodyX P w K mg base N_is_whole "is_whole" s_is_whole f cdv A outer s H E) (defBody s_is_whole) (liftS ⟨P, w, K, mg⟩ E t_is_whole) := by
  have nd := sc_is_whole.nd
  exact (dss_cons (ds_ret (de_and (de_callB ok_isi1 g.isinstance bb_isinstance (dac (dv 0) (dac (de_ty .int g.int bb_int) da_nil))) (de_one (de_not (de_callB ok_isi1 g.isinstance bb_isinstance (dac (dv 0) (dac (de_ty .bool g.bool bb_bool) da_nil)))))))
  dss_nil)
theorem fe_is_whole (g : Gs mg)  (d : ∃ f fd, mg "is_whole" = some (.ref f) ∧ FunD K "is_whole" "is_whole" (defArgs s_is_whole) (defBody s_is_whole) (defScope s_is_whole) [] [] f fd) (m : Meets sp_is_whole N_is_whole P_is_whole t_is_whole) : FE P w K mg base 1 "is_whole" P_is_whole sp_is_whole := by
  obtain ⟨f, fd, hm, F⟩ := d
  exact fe_of F sc_is_whole hm (F.bindsN fun _ _ _ _ _ _ us hl => match us, hl with | [_], _ => rfl) m fun f cdv A outer s H E C => b_is_whole g  C
abbrev s_is_within : Stmt := top 14
theorem sc_is_within : FnScope N_is_within P_is_within (defScope s_is_within) := ⟨rfl, rfl, rfl, by decide +kernel, rfl, by decide +kernel, by decide +kernel⟩
theorem b_is_within (g : Gs mg) (F_is_whole : FE P w K mg base 1 "is_whole" P_is_whole sp_is_whole) {f : Nat} {cdv : Value} {A : Around} {outer : List Env} {s : Shared} {H : Hp} {E : XK} (C : Ctx (bodyX P w K mg base N_is_within "is_within" s_is_within f cdv A outer s H E) E 1) :
    PSs (bodyX P w K mg base N_is_within "is_within" s_is_within f cdv A outer s H E) (defBody s_is_within) (liftS ⟨P, w, K, mg⟩ E t_is_within) := by
  have nd := sc_is_within.nd
  exact (dss_cons (ds_ret (de_and (de_call F_is_whole C (by decide) (dac (dv 0) da_nil)) (de_one (dchain C.std (dv 1) (dv 0) (dv 2)))))
  dss_nil)
theorem fe_is_within (g : Gs mg) (F_is_whole : FE P w K mg base 1 "is_whole" P_is_whole sp_is_whole) (d : ∃ f fd, mg "is_within" = some (.ref f) ∧ FunD K "is_within" "is_within" (defArgs s_is_within) (defBody s_is_within) (defScope s_is_within) [] [] f fd) (m : Meets sp_is_within N_is_within P_is_within t_is_within) : FE P w K mg base 2 "is_within" P_is_within sp_is_within := by
  obtain ⟨f, fd, hm, F⟩ := d
  exact fe_of F sc_is_within hm (F.bindsN fun _ _ _ _ _ _ us hl => match us, hl with | [_, _, _], _ => rfl) m fun f cdv A outer s H E C => b_is_within g F_is_whole C
abbrev s_is_in : Stmt := top 18
theorem sc_is_in : FnScope N_is_in P_is_in (defScope s_is_in) := ⟨rfl, rfl, rfl, by decide +kernel, rfl, by decide +kernel, by decide +kernel⟩
theorem b_is_in (g : Gs mg) (F_is_within : FE P w K mg base 2 "is_within" P_is_within sp_is_within) {f : Nat} {cdv : Value} {A : Around} {outer : List Env} {s : Shared} {H : Hp} {E : XK} (C : Ctx (bodyX P w K mg base N_is_in "is_in" s_is_in f cdv A outer s H E) E 2) :
    PSs (bodyX P w K mg base N_is_in "is_in" s_is_in f cdv A outer s H E) (defBody s_is_in) (liftS ⟨P, w, K, mg⟩ E t_is_in) := by
  have nd := sc_is_in.nd
  exact (dss_cons (ds_if ((dt_or (dt_not (tval (de_callB ok_isi1 g.isinstance bb_isinstance (dac (dv 1) (dac (de_ty .tuple g.tuple bb_tuple) da_nil))))) (dt_or (tcmp C.std (de_callB ok_len g.len bb_len (dac (dv 1) da_nil)) de_int) (dt_or1 (dt_not (tval (de_call F_is_within C (by decide) (dac (de_ix C.std (dv 1) de_int) (dac de_int (dac (de_bin' (de_callB ok_len g.len bb_len (dac (dv 0) da_nil)) de_int) da_nil)))))))))).pt (dss_cons (ds_ret de_bool)
  dss_nil) dss_nil)
  (dss_cons (ds_ret (de_call F_is_within C (by decide) (dac (de_ix C.std (dv 1) de_int) (dac de_int (dac (de_bin' (de_ix C.std (dv 0) (de_ix C.std (dv 1) de_int)) de_int) da_nil)))))
  dss_nil))
theorem fe_is_in (g : Gs mg) (F_is_within : FE P w K mg base 2 "is_within" P_is_within sp_is_within) (d : ∃ f fd, mg "is_in" = some (.ref f) ∧ FunD K "is_in" "is_in" (defArgs s_is_in) (defBody s_is_in) (defScope s_is_in) [] [] f fd) (m : Meets sp_is_in N_is_in P_is_in t_is_in) : FE P w K mg base 3 "is_in" P_is_in sp_is_in := by
  obtain ⟨f, fd, hm, F⟩ := d
  exact fe_of F sc_is_in hm (F.bindsN fun _ _ _ _ _ _ us hl => match us, hl with | [_, _], _ => rfl) m fun f cdv A outer s H E C => b_is_in g F_is_within C
abbrev s_is_door : Stmt := top 19
theorem sc_is_door : FnScope N_is_door P_is_door (defScope s_is_door) := ⟨rfl, rfl, rfl, by decide +kernel, rfl, by decide +kernel, by decide +kernel⟩
theorem b_is_door (g : Gs mg) (F_is_in : FE P w K mg base 3 "is_in" P_is_in sp_is_in) {f : Nat} {cdv : Value} {A : Around} {outer : List Env} {s : Shared} {H : Hp} {E : XK} (C : Ctx (bodyX P w K mg base N_is_door "is_door" s_is_door f cdv A outer s H E) E 3) :
    PSs (bodyX P w K mg base N_is_door "is_door" s_is_door f cdv A outer s H E) (defBody s_is_door) (liftS ⟨P, w, K, mg⟩ E t_is_door) := by
  have nd := sc_is_door.nd
  exact (dss_cons (ds_if ((dt_or (dt_not (tval (de_callB ok_isi1 g.isinstance bb_isinstance (dac (dv 1) (dac (de_ty .tuple g.tuple bb_tuple) da_nil))))) (dt_or (tcmp C.std (de_callB ok_len g.len bb_len (dac (dv 1) da_nil)) de_int) (dt_or1 (dt_not (tval (de_callB (ok_all C.std) g.all bb_all (dac (de_lc C.std.calm nd (di_seq (dv 1)) (blkOk_by (own := [(PySem.Str.ofString "one", 2)]) rfl) (by decide) (fun _ _ _ _ _ => (gn 2 nd)) (fun _ _ _ _ _ => tests0) (fun _ _ _ _ _ => (de_call F_is_in (C.blk _ _ _ _ _ _) (by decide) (dac (dv 0) (dac (dv 2) da_nil)))) (fun _ => rfl)) da_nil)))))))).pt (dss_cons (ds_ret de_bool)
  dss_nil) dss_nil)
  (dss_cons (ds_ret (dcmp C.std (de_ix C.std (de_ix C.std (dv 1) de_int) de_int) (de_ix C.std (de_ix C.std (dv 1) de_int) de_int)))
  dss_nil))
theorem fe_is_door (g : Gs mg) (F_is_in : FE P w K mg base 3 "is_in" P_is_in sp_is_in) (d : ∃ f fd, mg "is_door" = some (.ref f) ∧ FunD K "is_door" "is_door" (defArgs s_is_door) (defBody s_is_door) (defScope s_is_door) [] [] f fd) (m : Meets sp_is_door N_is_door P_is_door t_is_door) : FE P w K mg base 4 "is_door" P_is_door sp_is_door := by
  obtain ⟨f, fd, hm, F⟩ := d
  exact fe_of F sc_is_door hm (F.bindsN fun _ _ _ _ _ _ us hl => match us, hl with | [_, _], _ => rfl) m fun f cdv A outer s H E C => b_is_door g F_is_in C
abbrev s_are_doors : Stmt := top 20
theorem sc_are_doors : FnScope N_are_doors P_are_doors (defScope s_are_doors) := ⟨rfl, rfl, rfl, by decide +kernel, rfl, by decide +kernel, by decide +kernel⟩
theorem b_are_doors (g : Gs mg) (F_rises : FE P w K mg base 1 "rises" P_rises sp_rises) (F_is_door : FE P w K mg base 4 "is_door" P_is_door sp_is_door) {f : Nat} {cdv : Value} {A : Around} {outer : List Env} {s : Shared} {H : Hp} {E : XK} (C : Ctx (bodyX P w K mg base N_are_doors "are_doors" s_are_doors f cdv A outer s H E) E 4) :
    PSs (bodyX P w K mg base N_are_doors "are_doors" s_are_doors f cdv A outer s H E) (defBody s_are_doors) (liftS ⟨P, w, K, mg⟩ E t_are_doors) := by
  have nd := sc_are_doors.nd
  exact (dss_cons (ds_if ((dt_or (dt_not (tval (de_callB ok_isi1 g.isinstance bb_isinstance (dac (dv 1) (dac (de_ty .tuple g.tuple bb_tuple) da_nil))))) (dt_or (tcmp C.std (de_callB ok_len g.len bb_len (dac (dv 1) da_nil)) (de_gint (i := 6) g.MOST_DOORS)) (dt_or1 (dt_not (tval (de_callB (ok_all C.std) g.all bb_all (dac (de_lc C.std.calm nd (di_seq (dv 1)) (blkOk_by (own := [(PySem.Str.ofString "one", 2)]) rfl) (by decide) (fun _ _ _ _ _ => (gn 2 nd)) (fun _ _ _ _ _ => tests0) (fun _ _ _ _ _ => (de_call F_is_door (C.blk _ _ _ _ _ _) (by decide) (dac (dv 0) (dac (dv 2) da_nil)))) (fun _ => rfl)) da_nil)))))))).pt (dss_cons (ds_ret de_bool)
  dss_nil) dss_nil)
  (dss_cons (ds_ret (de_and (de_call F_rises C (by decide) (dac (dv 1) da_nil)) (de_one (dcmp C.std (de_callB ok_len g.len bb_len (dac (de_cg (cg_dc2 C.std nd (di_seq (dv 1)) (blkOk_by (own := [(PySem.Str.ofString "door", 3), (PySem.Str.ofString "spot", 4)]) rfl) (by decide) (fun _ _ _ _ _ => (gn 3 nd)) (fun _ _ _ _ _ => tests0) (fun _ => rfl) (fun _ _ _ _ _ => (di_seq (dv 3))) (fun _ _ _ _ _ => (gn 4 nd)) (fun _ _ _ _ _ => tests0) (fun _ _ => rfl) (vs1 := [4]) (by decide) (by decide) (fun _ _ _ _ _ => (dv 4)) (fun _ _ _ _ _ => de_bool)) rfl) da_nil)) (de_bin' de_int (de_callB ok_len g.len bb_len (dac (dv 1) da_nil)))))))
  dss_nil))
theorem fe_are_doors (g : Gs mg) (F_rises : FE P w K mg base 1 "rises" P_rises sp_rises) (F_is_door : FE P w K mg base 4 "is_door" P_is_door sp_is_door) (d : ∃ f fd, mg "are_doors" = some (.ref f) ∧ FunD K "are_doors" "are_doors" (defArgs s_are_doors) (defBody s_are_doors) (defScope s_are_doors) [] [] f fd) (m : Meets sp_are_doors N_are_doors P_are_doors t_are_doors) : FE P w K mg base 5 "are_doors" P_are_doors sp_are_doors := by
  obtain ⟨f, fd, hm, F⟩ := d
  exact fe_of F sc_are_doors hm (F.bindsN fun _ _ _ _ _ _ us hl => match us, hl with | [_, _], _ => rfl) m fun f cdv A outer s H E C => b_are_doors g F_rises F_is_door C
abbrev s_are_rings : Stmt := top 17
theorem sc_are_rings : FnScope N_are_rings P_are_rings (defScope s_are_rings) := ⟨rfl, rfl, rfl, by decide +kernel, rfl, by decide +kernel, by decide +kernel⟩
theorem b_are_rings (g : Gs mg) (F_is_within : FE P w K mg base 2 "is_within" P_is_within sp_is_within) {f : Nat} {cdv : Value} {A : Around} {outer : List Env} {s : Shared} {H : Hp} {E : XK} (C : Ctx (bodyX P w K mg base N_are_rings "are_rings" s_are_rings f cdv A outer s H E) E 2) :
    PSs (bodyX P w K mg base N_are_rings "are_rings" s_are_rings f cdv A outer s H E) (defBody s_are_rings) (liftS ⟨P, w, K, mg⟩ E t_are_rings) := by
  have nd := sc_are_rings.nd
  exact (dss_cons (ds_if ((dt_or (dt_not (tval (de_callB ok_isi1 g.isinstance bb_isinstance (dac (dv 0) (dac (de_ty .tuple g.tuple bb_tuple) da_nil))))) (dt_or1 (dt_not (tchain C.std de_int (de_callB ok_len g.len bb_len (dac (dv 0) da_nil)) (de_gint (i := 4) g.MOST_RINGS)))))).pt (dss_cons (ds_ret de_bool)
  dss_nil) dss_nil)
  (dss_cons (ds_ret (de_and (de_callB (ok_all C.std) g.all bb_all (dac (de_lc C.std.calm nd (di_seq (dv 0)) (blkOk_by (own := [(PySem.Str.ofString "one", 1)]) rfl) (by decide) (fun _ _ _ _ _ => (gn 1 nd)) (fun _ _ _ _ _ => tests0) (fun _ _ _ _ _ => (de_call F_is_within (C.blk _ _ _ _ _ _) (by decide) (dac (dv 1) (dac de_int (dac (de_gint (i := 40) g.MOST_LENGTH) da_nil))))) (fun _ => rfl)) da_nil)) (de_one (dcmp C.std (de_callB (ok_sum C.std) g.sum bb_sum (dac (dv 0) da_nil)) (de_gint (i := 100) g.MOST_SPOTS)))))
  dss_nil))
theorem fe_are_rings (g : Gs mg) (F_is_within : FE P w K mg base 2 "is_within" P_is_within sp_is_within) (d : ∃ f fd, mg "are_rings" = some (.ref f) ∧ FunD K "are_rings" "are_rings" (defArgs s_are_rings) (defBody s_are_rings) (defScope s_are_rings) [] [] f fd) (m : Meets sp_are_rings N_are_rings P_are_rings t_are_rings) : FE P w K mg base 3 "are_rings" P_are_rings sp_are_rings := by
  obtain ⟨f, fd, hm, F⟩ := d
  exact fe_of F sc_are_rings hm (F.bindsN fun _ _ _ _ _ _ us hl => match us, hl with | [_], _ => rfl) m fun f cdv A outer s H E C => b_are_rings g F_is_within C
abbrev s_is_works : Stmt := top 21
theorem sc_is_works : FnScope N_is_works P_is_works (defScope s_is_works) := ⟨rfl, rfl, rfl, by decide +kernel, rfl, by decide +kernel, by decide +kernel⟩
theorem b_is_works (g : Gs mg) (F_are_doors : FE P w K mg base 5 "are_doors" P_are_doors sp_are_doors) (F_are_rings : FE P w K mg base 3 "are_rings" P_are_rings sp_are_rings) {f : Nat} {cdv : Value} {A : Around} {outer : List Env} {s : Shared} {H : Hp} {E : XK} (C : Ctx (bodyX P w K mg base N_is_works "is_works" s_is_works f cdv A outer s H E) E 5) :
    PSs (bodyX P w K mg base N_is_works "is_works" s_is_works f cdv A outer s H E) (defBody s_is_works) (liftS ⟨P, w, K, mg⟩ E t_is_works) := by
  have nd := sc_is_works.nd
  exact (dss_cons (ds_if ((dt_or (dt_not (tval (de_callB ok_isi1 g.isinstance bb_isinstance (dac (dv 0) (dac (de_ty .tuple g.tuple bb_tuple) da_nil))))) (dt_or (tcmp C.std (de_callB ok_len g.len bb_len (dac (dv 0) da_nil)) de_int) (dt_or1 (dt_not (tval (de_call F_are_rings C (by decide) (dac (de_ix C.std (dv 0) de_int) da_nil)))))))).pt (dss_cons (ds_ret de_bool)
  dss_nil) dss_nil)
  (dss_cons (ds_ret (de_call F_are_doors C (by decide) (dac (de_ix C.std (dv 0) de_int) (dac (de_ix C.std (dv 0) de_int) da_nil))))
  dss_nil))
theorem fe_is_works (g : Gs mg) (F_are_doors : FE P w K mg base 5 "are_doors" P_are_doors sp_are_doors) (F_are_rings : FE P w K mg base 3 "are_rings" P_are_rings sp_are_rings) (d : ∃ f fd, mg "is_works" = some (.ref f) ∧ FunD K "is_works" "is_works" (defArgs s_is_works) (defBody s_is_works) (defScope s_is_works) [] [] f fd) (m : Meets sp_is_works N_is_works P_is_works t_is_works) : FE P w K mg base 6 "is_works" P_is_works sp_is_works := by
  obtain ⟨f, fd, hm, F⟩ := d
  exact fe_of F sc_is_works hm (F.bindsN fun _ _ _ _ _ _ us hl => match us, hl with | [_], _ => rfl) m fun f cdv A outer s H E C => b_is_works g F_are_doors F_are_rings C
abbrev s_look_at_works : Stmt := top 23
theorem sc_look_at_works : FnScope N_look_at_works P_look_at_works (defScope s_look_at_works) := ⟨rfl, rfl, rfl, by decide +kernel, rfl, by decide +kernel, by decide +kernel⟩
theorem b_look_at_works (g : Gs mg) (F_is_works : FE P w K mg base 6 "is_works" P_is_works sp_is_works) {f : Nat} {cdv : Value} {A : Around} {outer : List Env} {s : Shared} {H : Hp} {E : XK} (C : Ctx (bodyX P w K mg base N_look_at_works "look_at_works" s_look_at_works f cdv A outer s H E) E 6) :
    PSs (bodyX P w K mg base N_look_at_works "look_at_works" s_look_at_works f cdv A outer s H E) (defBody s_look_at_works) (liftS ⟨P, w, K, mg⟩ E t_look_at_works) := by
  have nd := sc_look_at_works.nd
  exact (dss_cons (ds_if (dt_not (tval (de_call F_is_works C (by decide) (dac (dv 0) da_nil)))) (dss_cons ds_never
  dss_nil) dss_nil)
  dss_nil)
theorem fe_look_at_works (g : Gs mg) (F_is_works : FE P w K mg base 6 "is_works" P_is_works sp_is_works) (d : ∃ f fd, mg "look_at_works" = some (.ref f) ∧ FunD K "look_at_works" "look_at_works" (defArgs s_look_at_works) (defBody s_look_at_works) (defScope s_look_at_works) [] [] f fd) (m : Meets sp_look_at_works N_look_at_works P_look_at_works t_look_at_works) : FE P w K mg base 7 "look_at_works" P_look_at_works sp_look_at_works := by
  obtain ⟨f, fd, hm, F⟩ := d
  exact fe_of F sc_look_at_works hm (F.bindsN fun _ _ _ _ _ _ us hl => match us, hl with | [_], _ => rfl) m fun f cdv A outer s H E C => b_look_at_works g F_is_works C
abbrev s_is_lot : Stmt := top 22
theorem sc_is_lot : FnScope N_is_lot P_is_lot (defScope s_is_lot) := ⟨rfl, rfl, rfl, by decide +kernel, rfl, by decide +kernel, by decide +kernel⟩
theorem b_is_lot (g : Gs mg) (F_rises : FE P w K mg base 1 "rises" P_rises sp_rises) (F_is_within : FE P w K mg base 2 "is_within" P_is_within sp_is_within) {f : Nat} {cdv : Value} {A : Around} {outer : List Env} {s : Shared} {H : Hp} {E : XK} (C : Ctx (bodyX P w K mg base N_is_lot "is_lot" s_is_lot f cdv A outer s H E) E 2) :
    PSs (bodyX P w K mg base N_is_lot "is_lot" s_is_lot f cdv A outer s H E) (defBody s_is_lot) (liftS ⟨P, w, K, mg⟩ E t_is_lot) := by
  have nd := sc_is_lot.nd
  exact (dss_cons (ds_if ((dt_or (dt_not (tval (de_callB ok_isi1 g.isinstance bb_isinstance (dac (dv 1) (dac (de_ty .tuple g.tuple bb_tuple) da_nil))))) (dt_or1 (dt_not (tval (de_callB (ok_all C.std) g.all bb_all (dac (de_lc C.std.calm nd (di_seq (dv 1)) (blkOk_by (own := [(PySem.Str.ofString "one", 2)]) rfl) (by decide) (fun _ _ _ _ _ => (gn 2 nd)) (fun _ _ _ _ _ => tests0) (fun _ _ _ _ _ => (de_call F_is_within (C.blk _ _ _ _ _ _) (by decide) (dac (dv 2) (dac de_int (dac (de_bin' (de_callB ok_len g.len bb_len (dac (de_ix (C.blk _ _ _ _ _ _).std (dv 0) de_int) da_nil)) de_int) da_nil))))) (fun _ => rfl)) da_nil))))))).pt (dss_cons (ds_ret de_bool)
  dss_nil) dss_nil)
  (dss_cons (ds_ret (de_call F_rises C (by decide) (dac (dv 1) da_nil)))
  dss_nil))
theorem fe_is_lot (g : Gs mg) (F_rises : FE P w K mg base 1 "rises" P_rises sp_rises) (F_is_within : FE P w K mg base 2 "is_within" P_is_within sp_is_within) (d : ∃ f fd, mg "is_lot" = some (.ref f) ∧ FunD K "is_lot" "is_lot" (defArgs s_is_lot) (defBody s_is_lot) (defScope s_is_lot) [] [] f fd) (m : Meets sp_is_lot N_is_lot P_is_lot t_is_lot) : FE P w K mg base 3 "is_lot" P_is_lot sp_is_lot := by
  obtain ⟨f, fd, hm, F⟩ := d
  exact fe_of F sc_is_lot hm (F.bindsN fun _ _ _ _ _ _ us hl => match us, hl with | [_, _], _ => rfl) m fun f cdv A outer s H E C => b_is_lot g F_rises F_is_within C
abbrev s_look_at_lot : Stmt := top 24
theorem sc_look_at_lot : FnScope N_look_at_lot P_look_at_lot (defScope s_look_at_lot) := ⟨rfl, rfl, rfl, by decide +kernel, rfl, by decide +kernel, by decide +kernel⟩
theorem b_look_at_lot (g : Gs mg) (F_look_at_works : FE P w K mg base 7 "look_at_works" P_look_at_works sp_look_at_works) (F_is_lot : FE P w K mg base 3 "is_lot" P_is_lot sp_is_lot) {f : Nat} {cdv : Value} {A : Around} {outer : List Env} {s : Shared} {H : Hp} {E : XK} (C : Ctx (bodyX P w K mg base N_look_at_lot "look_at_lot" s_look_at_lot f cdv A outer s H E) E 7) :
    PSs (bodyX P w K mg base N_look_at_lot "look_at_lot" s_look_at_lot f cdv A outer s H E) (defBody s_look_at_lot) (liftS ⟨P, w, K, mg⟩ E t_look_at_lot) := by
  have nd := sc_look_at_lot.nd
  exact (dss_cons (dexpr (de_call F_look_at_works C (by decide) (dac (dv 0) da_nil)))
  (dss_cons (ds_if (dt_not (tval (de_call F_is_lot C (by decide) (dac (dv 0) (dac (dv 1) da_nil))))) (dss_cons ds_never
  dss_nil) dss_nil)
  dss_nil))
theorem fe_look_at_lot (g : Gs mg) (F_look_at_works : FE P w K mg base 7 "look_at_works" P_look_at_works sp_look_at_works) (F_is_lot : FE P w K mg base 3 "is_lot" P_is_lot sp_is_lot) (d : ∃ f fd, mg "look_at_lot" = some (.ref f) ∧ FunD K "look_at_lot" "look_at_lot" (defArgs s_look_at_lot) (defBody s_look_at_lot) (defScope s_look_at_lot) [] [] f fd) (m : Meets sp_look_at_lot N_look_at_lot P_look_at_lot t_look_at_lot) : FE P w K mg base 8 "look_at_lot" P_look_at_lot sp_look_at_lot := by
  obtain ⟨f, fd, hm, F⟩ := d
  exact fe_of F sc_look_at_lot hm (F.bindsN fun _ _ _ _ _ _ us hl => match us, hl with | [_, _], _ => rfl) m fun f cdv A outer s H E C => b_look_at_lot g F_look_at_works F_is_lot C
abbrev s_look_at_ticks : Stmt := top 26
theorem sc_look_at_ticks : FnScope N_look_at_ticks P_look_at_ticks (defScope s_look_at_ticks) := ⟨rfl, rfl, rfl, by decide +kernel, rfl, by decide +kernel, by decide +kernel⟩
theorem b_look_at_ticks (g : Gs mg) (F_is_within : FE P w K mg base 2 "is_within" P_is_within sp_is_within) {f : Nat} {cdv : Value} {A : Around} {outer : List Env} {s : Shared} {H : Hp} {E : XK} (C : Ctx (bodyX P w K mg base N_look_at_ticks "look_at_ticks" s_look_at_ticks f cdv A outer s H E) E 2) :
    PSs (bodyX P w K mg base N_look_at_ticks "look_at_ticks" s_look_at_ticks f cdv A outer s H E) (defBody s_look_at_ticks) (liftS ⟨P, w, K, mg⟩ E t_look_at_ticks) := by
  have nd := sc_look_at_ticks.nd
  exact (dss_cons (ds_if (dt_not (tval (de_call F_is_within C (by decide) (dac (dv 0) (dac (dv 1) (dac (de_gint (i := 1000000000000000000000000000000) g.MOST_TICKS) da_nil)))))) (dss_cons ds_never
  dss_nil) dss_nil)
  dss_nil)
theorem fe_look_at_ticks (g : Gs mg) (F_is_within : FE P w K mg base 2 "is_within" P_is_within sp_is_within) (d : ∃ f fd, mg "look_at_ticks" = some (.ref f) ∧ FunD K "look_at_ticks" "look_at_ticks" (defArgs s_look_at_ticks) (defBody s_look_at_ticks) (defScope s_look_at_ticks) [] [] f fd) (m : Meets sp_look_at_ticks N_look_at_ticks P_look_at_ticks t_look_at_ticks) : FE P w K mg base 3 "look_at_ticks" P_look_at_ticks sp_look_at_ticks := by
  obtain ⟨f, fd, hm, F⟩ := d
  exact fe_of F sc_look_at_ticks hm (F.bindsN fun _ _ _ _ _ _ us hl => match us, hl with | [_, _], _ => rfl) m fun f cdv A outer s H E C => b_look_at_ticks g F_is_within C
abbrev s_is_stand : Stmt := top 39
theorem sc_is_stand : FnScope N_is_stand P_is_stand (defScope s_is_stand) := ⟨rfl, rfl, rfl, by decide +kernel, rfl, by decide +kernel, by decide +kernel⟩
theorem b_is_stand (g : Gs mg) (F_is_within : FE P w K mg base 2 "is_within" P_is_within sp_is_within) {f : Nat} {cdv : Value} {A : Around} {outer : List Env} {s : Shared} {H : Hp} {E : XK} (C : Ctx (bodyX P w K mg base N_is_stand "is_stand" s_is_stand f cdv A outer s H E) E 2) :
    PSs (bodyX P w K mg base N_is_stand "is_stand" s_is_stand f cdv A outer s H E) (defBody s_is_stand) (liftS ⟨P, w, K, mg⟩ E t_is_stand) := by
  have nd := sc_is_stand.nd
  exact (dss_cons (dset 2 nd (de_ix C.std (dv 0) de_int))
  (dss_cons (ds_if ((dt_or (dt_not (tval (de_callB ok_isi1 g.isinstance bb_isinstance (dac (dv 1) (dac (de_ty .tuple g.tuple bb_tuple) da_nil))))) (dt_or1 (tcmp C.std (de_callB ok_len g.len bb_len (dac (dv 1) da_nil)) (de_callB ok_len g.len bb_len (dac (dv 2) da_nil)))))).pt (dss_cons (ds_ret de_bool)
  dss_nil) dss_nil)
  (dss_cons (ds_for C.std.calm (izip g.zip (dac (dv 2) (dac (dv 1) da_nil))) (gtup C.nox.std (gcons (gn 3 nd) (gcons (gn 4 nd) gnil))) (dss_cons (ds_if ((dt_or (dt_not (tval (de_callB ok_isi1 g.isinstance bb_isinstance (dac (dv 4) (dac (de_ty .tuple g.tuple bb_tuple) da_nil))))) (dt_or1 (tcmp C.nox.std (de_callB ok_len g.len bb_len (dac (dv 4) da_nil)) (dv 3))))).pt (dss_cons (ds_ret de_bool)
  dss_nil) dss_nil)
  (dss_cons (ds_if (dt_not (tval (de_callB (ok_all C.nox.std) g.all bb_all (dac (de_lc C.nox.std.calm nd (di_seq (dv 4)) (blkOk_by (own := [(PySem.Str.ofString "one", 5)]) rfl) (by decide) (fun _ _ _ _ _ => (gn 5 nd)) (fun _ _ _ _ _ => tests0) (fun _ _ _ _ _ => (de_call F_is_within (C.nox.blk _ _ _ _ _ _) (by decide) (dac (dv 5) (dac de_int (dac (de_gint (i := 999) g.MOST_THING) da_nil))))) (fun _ => rfl)) da_nil)))) (dss_cons (ds_ret de_bool)
  dss_nil) dss_nil)
  dss_nil)) (fun _ => rfl))
  (dss_cons (ds_ret de_bool)
  dss_nil))))
theorem fe_is_stand (g : Gs mg) (F_is_within : FE P w K mg base 2 "is_within" P_is_within sp_is_within) (d : ∃ f fd, mg "is_stand" = some (.ref f) ∧ FunD K "is_stand" "is_stand" (defArgs s_is_stand) (defBody s_is_stand) (defScope s_is_stand) [] [] f fd) (m : Meets sp_is_stand N_is_stand P_is_stand t_is_stand) : FE P w K mg base 3 "is_stand" P_is_stand sp_is_stand := by
  obtain ⟨f, fd, hm, F⟩ := d
  exact fe_of F sc_is_stand hm (F.bindsN fun _ _ _ _ _ _ us hl => match us, hl with | [_, _], _ => rfl) m fun f cdv A outer s H E C => b_is_stand g F_is_within C
abbrev s_look_at_stand : Stmt := top 40
theorem sc_look_at_stand : FnScope N_look_at_stand P_look_at_stand (defScope s_look_at_stand) := ⟨rfl, rfl, rfl, by decide +kernel, rfl, by decide +kernel, by decide +kernel⟩
theorem b_look_at_stand (g : Gs mg) (F_is_stand : FE P w K mg base 3 "is_stand" P_is_stand sp_is_stand) {f : Nat} {cdv : Value} {A : Around} {outer : List Env} {s : Shared} {H : Hp} {E : XK} (C : Ctx (bodyX P w K mg base N_look_at_stand "look_at_stand" s_look_at_stand f cdv A outer s H E) E 3) :
    PSs (bodyX P w K mg base N_look_at_stand "look_at_stand" s_look_at_stand f cdv A outer s H E) (defBody s_look_at_stand) (liftS ⟨P, w, K, mg⟩ E t_look_at_stand) := by
  have nd := sc_look_at_stand.nd
  exact (dss_cons (ds_if (dt_not (tval (de_call F_is_stand C (by decide) (dac (dv 0) (dac (dv 1) da_nil))))) (dss_cons ds_never
  dss_nil) dss_nil)
  dss_nil)
theorem fe_look_at_stand (g : Gs mg) (F_is_stand : FE P w K mg base 3 "is_stand" P_is_stand sp_is_stand) (d : ∃ f fd, mg "look_at_stand" = some (.ref f) ∧ FunD K "look_at_stand" "look_at_stand" (defArgs s_look_at_stand) (defBody s_look_at_stand) (defScope s_look_at_stand) [] [] f fd) (m : Meets sp_look_at_stand N_look_at_stand P_look_at_stand t_look_at_stand) : FE P w K mg base 4 "look_at_stand" P_look_at_stand sp_look_at_stand := by
  obtain ⟨f, fd, hm, F⟩ := d
  exact fe_of F sc_look_at_stand hm (F.bindsN fun _ _ _ _ _ _ us hl => match us, hl with | [_, _], _ => rfl) m fun f cdv A outer s H E C => b_look_at_stand g F_is_stand C
abbrev s_stand_led : Stmt := top 41
theorem sc_stand_led : FnScope N_stand_led P_stand_led (defScope s_stand_led) := ⟨rfl, rfl, rfl, by decide +kernel, rfl, by decide +kernel, by decide +kernel⟩
theorem b_stand_led (g : Gs mg)  {f : Nat} {cdv : Value} {A : Around} {outer : List Env} {s : Shared} {H : Hp} {E : XK} (C : Ctx (bodyX P w K mg base N_stand_led "stand_led" s_stand_led f cdv A outer s H E) E 0) :
    PSs (bodyX P w K mg base N_stand_led "stand_led" s_stand_led f cdv A outer s H E) (defBody s_stand_led) (liftS ⟨P, w, K, mg⟩ E t_stand_led) := by
  have nd := sc_stand_led.nd
  exact (dss_cons (dset 3 nd (de_lock (de_cg (cg_dc C.std nd (di_dict (dv 1)) (blkOk_by (own := [(PySem.Str.ofString "spot", 4)]) rfl) (by decide) (fun _ _ _ _ _ => (gn 4 nd)) (fun _ _ _ _ _ => tests0) (fun _ => rfl) (fun _ _ _ _ _ => (de_ix (C.blk _ _ _ _ _ _).std (dv 1) (dv 4))) (fun _ _ _ _ _ => (de_ix (C.blk _ _ _ _ _ _).std (de_ix (C.blk _ _ _ _ _ _).std (dv 2) (de_ix (C.blk _ _ _ _ _ _).std (dv 4) de_int)) (de_ix (C.blk _ _ _ _ _ _).std (dv 4) de_int)))) rfl)))
  (dss_cons (ds_ret (de_callTy ok_tup g.tuple bb_tuple (dac (de_lc C.std.calm nd (ienum g.enumerate (dac (dv 0) da_nil)) (blkOk_by (own := [(PySem.Str.ofString "ring", 5), (PySem.Str.ofString "length", 6)]) rfl) (by decide) (fun _ _ _ _ _ => (gtup (C.blk _ _ _ _ _ _).std (gcons (gn 5 nd) (gcons (gn 6 nd) gnil)))) (fun _ _ _ _ _ => tests0) (fun _ _ _ _ _ => (de_callTy ok_tup g.tuple bb_tuple (dac (de_lc (C.blk _ _ _ _ _ _).std.calm nd (ir1 g.range (dac (dv 6) da_nil)) (blkOk_by (own := [(PySem.Str.ofString "place", 7)]) rfl) (by decide) (fun _ _ _ _ _ => (gn 7 nd)) (fun _ _ _ _ _ => tests0) (fun _ _ _ _ _ => (de_ix ((C.blk _ _ _ _ _ _).blk _ _ _ _ _ _).std (dv 3) (de_tup (dac (dv 5) (dac (dv 7) da_nil))))) (fun _ => rfl)) da_nil))) (fun _ => rfl)) da_nil)))
  dss_nil))
theorem fe_stand_led (g : Gs mg)  (d : ∃ f fd, mg "stand_led" = some (.ref f) ∧ FunD K "stand_led" "stand_led" (defArgs s_stand_led) (defBody s_stand_led) (defScope s_stand_led) [] [] f fd) (m : Meets sp_stand_led N_stand_led P_stand_led t_stand_led) : FE P w K mg base 1 "stand_led" P_stand_led sp_stand_led := by
  obtain ⟨f, fd, hm, F⟩ := d
  exact fe_of F sc_stand_led hm (F.bindsN fun _ _ _ _ _ _ us hl => match us, hl with | [_, _, _], _ => rfl) m fun f cdv A outer s H E C => b_stand_led g  C
abbrev s_spots_of : Stmt := top 27
theorem sc_spots_of : FnScope N_spots_of P_spots_of (defScope s_spots_of) := ⟨rfl, rfl, rfl, by decide +kernel, rfl, by decide +kernel, by decide +kernel⟩
theorem b_spots_of (g : Gs mg)  {f : Nat} {cdv : Value} {A : Around} {outer : List Env} {s : Shared} {H : Hp} {E : XK} (C : Ctx (bodyX P w K mg base N_spots_of "spots_of" s_spots_of f cdv A outer s H E) E 0) :
    PSs (bodyX P w K mg base N_spots_of "spots_of" s_spots_of f cdv A outer s H E) (defBody s_spots_of) (liftS ⟨P, w, K, mg⟩ E t_spots_of) := by
  have nd := sc_spots_of.nd
  exact (dss_cons (ds_ret (de_cg (cg_lc2 C.std nd (ienum g.enumerate (dac (dv 0) da_nil)) (blkOk_by (own := [(PySem.Str.ofString "ring", 1), (PySem.Str.ofString "length", 2), (PySem.Str.ofString "place", 3)]) rfl) (by decide) (fun _ _ _ _ _ => (gtup (C.blk _ _ _ _ _ _).std (gcons (gn 1 nd) (gcons (gn 2 nd) gnil)))) (fun _ _ _ _ _ => tests0) (fun _ => rfl) (fun _ _ _ _ _ => (ir1 g.range (dac (dv 2) da_nil))) (fun _ _ _ _ _ => (gn 3 nd)) (fun _ _ _ _ _ => tests0) (fun _ _ => rfl) (vs1 := [3]) (by decide) (by decide) (fun _ _ _ _ _ => (de_tup (dac (dv 1) (dac (dv 3) da_nil))))) rfl))
  dss_nil)
theorem fe_spots_of (g : Gs mg)  (d : ∃ f fd, mg "spots_of" = some (.ref f) ∧ FunD K "spots_of" "spots_of" (defArgs s_spots_of) (defBody s_spots_of) (defScope s_spots_of) [] [] f fd) (m : Meets sp_spots_of N_spots_of P_spots_of t_spots_of) : FE P w K mg base 1 "spots_of" P_spots_of sp_spots_of := by
  obtain ⟨f, fd, hm, F⟩ := d
  exact fe_of F sc_spots_of hm (F.bindsN fun _ _ _ _ _ _ us hl => match us, hl with | [_], _ => rfl) m fun f cdv A outer s H E C => b_spots_of g  C
abbrev s_turned : Stmt := top 28
theorem sc_turned : FnScope N_turned P_turned (defScope s_turned) := ⟨rfl, rfl, rfl, by decide +kernel, rfl, by decide +kernel, by decide +kernel⟩
theorem b_turned (g : Gs mg)  {f : Nat} {cdv : Value} {A : Around} {outer : List Env} {s : Shared} {H : Hp} {E : XK} (C : Ctx (bodyX P w K mg base N_turned "turned" s_turned f cdv A outer s H E) E 0) :
    PSs (bodyX P w K mg base N_turned "turned" s_turned f cdv A outer s H E) (defBody s_turned) (liftS ⟨P, w, K, mg⟩ E t_turned) := by
  have nd := sc_turned.nd
  exact (dss_cons (ds_ret (de_tup (dac (de_ix C.std (dv 1) de_int) (dac (de_bin' (de_bin' (de_ix C.std (dv 1) de_int) de_int) (de_ix C.std (dv 0) (de_ix C.std (dv 1) de_int))) da_nil))))
  dss_nil)
theorem fe_turned (g : Gs mg)  (d : ∃ f fd, mg "turned" = some (.ref f) ∧ FunD K "turned" "turned" (defArgs s_turned) (defBody s_turned) (defScope s_turned) [] [] f fd) (m : Meets sp_turned N_turned P_turned t_turned) : FE P w K mg base 1 "turned" P_turned sp_turned := by
  obtain ⟨f, fd, hm, F⟩ := d
  exact fe_of F sc_turned hm (F.bindsN fun _ _ _ _ _ _ us hl => match us, hl with | [_, _], _ => rfl) m fun f cdv A outer s H E C => b_turned g  C
abbrev s_through : Stmt := top 29
theorem sc_through : FnScope N_through P_through (defScope s_through) := ⟨rfl, rfl, rfl, by decide +kernel, rfl, by decide +kernel, by decide +kernel⟩
theorem b_through (g : Gs mg)  {f : Nat} {cdv : Value} {A : Around} {outer : List Env} {s : Shared} {H : Hp} {E : XK} (C : Ctx (bodyX P w K mg base N_through "through" s_through f cdv A outer s H E) E 0) :
    PSs (bodyX P w K mg base N_through "through" s_through f cdv A outer s H E) (defBody s_through) (liftS ⟨P, w, K, mg⟩ E t_through) := by
  have nd := sc_through.nd
  exact (dss_cons (ds_for C.std.calm (di_seq (dv 1)) (gn 3 nd) (dss_cons (dasg (de_ix C.nox.std (de_ix C.nox.std (dv 0) de_int) (dv 3)) (gtup C.nox.std (gcons (gn 4 nd) (gcons (gn 5 nd) gnil))))
  (dss_cons (ds_if (tcmp C.nox.std (dv 2) (de_tup (dac (dv 4) (dac (dv 5) da_nil)))) (dss_cons (ds_ret (de_ife (tcmp C.nox.std (dv 2) (dv 4)) (dv 5) (dv 4)))
  dss_nil) dss_nil)
  dss_nil)) (fun _ => rfl))
  (dss_cons (ds_ret (dv 2))
  dss_nil))
theorem fe_through (g : Gs mg)  (d : ∃ f fd, mg "through" = some (.ref f) ∧ FunD K "through" "through" (defArgs s_through) (defBody s_through) (defScope s_through) [] [] f fd) (m : Meets sp_through N_through P_through t_through) : FE P w K mg base 1 "through" P_through sp_through := by
  obtain ⟨f, fd, hm, F⟩ := d
  exact fe_of F sc_through hm (F.bindsN fun _ _ _ _ _ _ us hl => match us, hl with | [_, _, _], _ => rfl) m fun f cdv A outer s H E C => b_through g  C
abbrev s_tick_led : Stmt := top 30
theorem sc_tick_led : FnScope N_tick_led P_tick_led (defScope s_tick_led) := ⟨rfl, rfl, rfl, by decide +kernel, rfl, by decide +kernel, by decide +kernel⟩
theorem b_tick_led (g : Gs mg) (F_turned : FE P w K mg base 1 "turned" P_turned sp_turned) (F_through : FE P w K mg base 1 "through" P_through sp_through) {f : Nat} {cdv : Value} {A : Around} {outer : List Env} {s : Shared} {H : Hp} {E : XK} (C : Ctx (bodyX P w K mg base N_tick_led "tick_led" s_tick_led f cdv A outer s H E) E 1) :
    PSs (bodyX P w K mg base N_tick_led "tick_led" s_tick_led f cdv A outer s H E) (defBody s_tick_led) (liftS ⟨P, w, K, mg⟩ E t_tick_led) := by
  have nd := sc_tick_led.nd
  exact (dss_cons (ds_ret (de_call F_turned C (by decide) (dac (de_ix C.std (dv 0) de_int) (dac (de_call F_through C (by decide) (dac (dv 0) (dac (dv 1) (dac (dv 2) da_nil)))) da_nil))))
  dss_nil)
theorem fe_tick_led (g : Gs mg) (F_turned : FE P w K mg base 1 "turned" P_turned sp_turned) (F_through : FE P w K mg base 1 "through" P_through sp_through) (d : ∃ f fd, mg "tick_led" = some (.ref f) ∧ FunD K "tick_led" "tick_led" (defArgs s_tick_led) (defBody s_tick_led) (defScope s_tick_led) [] [] f fd) (m : Meets sp_tick_led N_tick_led P_tick_led t_tick_led) : FE P w K mg base 2 "tick_led" P_tick_led sp_tick_led := by
  obtain ⟨f, fd, hm, F⟩ := d
  exact fe_of F sc_tick_led hm (F.bindsN fun _ _ _ _ _ _ us hl => match us, hl with | [_, _, _], _ => rfl) m fun f cdv A outer s H E C => b_tick_led g F_turned F_through C
abbrev s_rounds_by : Stmt := top 33
theorem sc_rounds_by : FnScope N_rounds_by P_rounds_by (defScope s_rounds_by) := ⟨rfl, rfl, rfl, by decide +kernel, rfl, by decide +kernel, by decide +kernel⟩
theorem b_rounds_by (g : Gs mg) (F_spots_of : FE P w K mg base 1 "spots_of" P_spots_of sp_spots_of) (F_tick_led : FE P w K mg base 2 "tick_led" P_tick_led sp_tick_led) {f : Nat} {cdv : Value} {A : Around} {outer : List Env} {s : Shared} {H : Hp} {E : XK} (C : Ctx (bodyX P w K mg base N_rounds_by "rounds_by" s_rounds_by f cdv A outer s H E) E 2) :
    PSs (bodyX P w K mg base N_rounds_by "rounds_by" s_rounds_by f cdv A outer s H E) (defBody s_rounds_by) (liftS ⟨P, w, K, mg⟩ E t_rounds_by) := by
  have nd := sc_rounds_by.nd
  exact (dss_cons (dset 2 nd (de_lst da_nil))
  (dss_cons (dset 3 nd de_newD)
  (dss_cons (ds_for C.std.calm (di_seq (de_call F_spots_of C.nox (by decide) (dac (de_ix C.nox.std (dv 0) de_int) da_nil))) (gn 4 nd) (dss_cons (ds_if (tcmp C.nox.std (dv 4) (dv 3)) (dss_cons (dset 5 nd (de_lst da_nil))
  (dss_cons (ds_while (tcmp C.nox.nox.std (dv 4) (dv 3)) (dss_cons (dsub C.nox.nox.std de_bool (dv 3) (dv 4))
  (dss_cons (dexpr (dmt PySem.F.plainAttrs_list PySem.F.slot_list_append PySem.F.type_list_append rc_lst mt_appD (dv 5) (dac (dv 4) da_nil)))
  (dss_cons (dset 4 nd (de_call F_tick_led C.nox.nox (by decide) (dac (dv 0) (dac (dv 1) (dac (dv 4) da_nil)))))
  dss_nil))))
  (dss_cons (dexpr (dmt PySem.F.plainAttrs_list PySem.F.slot_list_append PySem.F.type_list_append rc_lst mt_appD (dv 2) (dac (dv 5) da_nil)))
  dss_nil))) dss_nil)
  dss_nil) (fun _ => rfl))
  (dss_cons (ds_ret (dv 2))
  dss_nil))))
theorem fe_rounds_by (g : Gs mg) (F_spots_of : FE P w K mg base 1 "spots_of" P_spots_of sp_spots_of) (F_tick_led : FE P w K mg base 2 "tick_led" P_tick_led sp_tick_led) (d : ∃ f fd, mg "rounds_by" = some (.ref f) ∧ FunD K "rounds_by" "rounds_by" (defArgs s_rounds_by) (defBody s_rounds_by) (defScope s_rounds_by) [] [] f fd) (m : Meets sp_rounds_by N_rounds_by P_rounds_by t_rounds_by) : FE P w K mg base 3 "rounds_by" P_rounds_by sp_rounds_by := by
  obtain ⟨f, fd, hm, F⟩ := d
  exact fe_of F sc_rounds_by hm (F.bindsN fun _ _ _ _ _ _ us hl => match us, hl with | [_, _], _ => rfl) m fun f cdv A outer s H E C => b_rounds_by g F_spots_of F_tick_led C
abbrev s_table_by : Stmt := top 37
theorem sc_table_by : FnScope N_table_by P_table_by (defScope s_table_by) := ⟨rfl, rfl, rfl, by decide +kernel, rfl, by decide +kernel, by decide +kernel⟩
theorem b_table_by (g : Gs mg) (F_rounds_by : FE P w K mg base 3 "rounds_by" P_rounds_by sp_rounds_by) {f : Nat} {cdv : Value} {A : Around} {outer : List Env} {s : Shared} {H : Hp} {E : XK} (C : Ctx (bodyX P w K mg base N_table_by "table_by" s_table_by f cdv A outer s H E) E 3) :
    PSs (bodyX P w K mg base N_table_by "table_by" s_table_by f cdv A outer s H E) (defBody s_table_by) (liftS ⟨P, w, K, mg⟩ E t_table_by) := by
  have nd := sc_table_by.nd
  exact (dss_cons (dset 3 nd de_newD)
  (dss_cons (ds_for C.std.calm (di_seq (de_call F_rounds_by C.nox (by decide) (dac (dv 0) (dac (dv 1) da_nil)))) (gn 4 nd) (dss_cons (ds_for C.nox.std.calm (ienum g.enumerate (dac (dv 4) da_nil)) (gtup C.nox.nox.std (gcons (gn 5 nd) (gcons (gn 6 nd) gnil))) (dss_cons (dsub C.nox.nox.std (de_ix C.nox.nox.std (dv 4) (de_bin' (de_bin' (dv 5) (dv 2)) (de_callB ok_len g.len bb_len (dac (dv 4) da_nil)))) (dv 3) (dv 6))
  dss_nil) (fun _ => rfl))
  dss_nil) (fun _ => rfl))
  (dss_cons (ds_ret (dv 3))
  dss_nil)))
theorem fe_table_by (g : Gs mg) (F_rounds_by : FE P w K mg base 3 "rounds_by" P_rounds_by sp_rounds_by) (d : ∃ f fd, mg "table_by" = some (.ref f) ∧ FunD K "table_by" "table_by" (defArgs s_table_by) (defBody s_table_by) (defScope s_table_by) [] [] f fd) (m : Meets sp_table_by N_table_by P_table_by t_table_by) : FE P w K mg base 4 "table_by" P_table_by sp_table_by := by
  obtain ⟨f, fd, hm, F⟩ := d
  exact fe_of F sc_table_by hm (F.bindsN fun _ _ _ _ _ _ us hl => match us, hl with | [_, _, _], _ => rfl) m fun f cdv A outer s H E C => b_table_by g F_rounds_by C
abbrev s_behind : Stmt := top 42
theorem sc_behind : FnScope N_behind P_behind (defScope s_behind) := ⟨rfl, rfl, rfl, by decide +kernel, rfl, by decide +kernel, by decide +kernel⟩
theorem b_behind (g : Gs mg) (F_look_at_lot : FE P w K mg base 8 "look_at_lot" P_look_at_lot sp_look_at_lot) (F_look_at_ticks : FE P w K mg base 3 "look_at_ticks" P_look_at_ticks sp_look_at_ticks) (F_look_at_stand : FE P w K mg base 4 "look_at_stand" P_look_at_stand sp_look_at_stand) (F_stand_led : FE P w K mg base 1 "stand_led" P_stand_led sp_stand_led) (F_table_by : FE P w K mg base 4 "table_by" P_table_by sp_table_by) {f : Nat} {cdv : Value} {A : Around} {outer : List Env} {s : Shared} {H : Hp} {E : XK} (C : Ctx (bodyX P w K mg base N_behind "behind" s_behind f cdv A outer s H E) E 8) :
    PSs (bodyX P w K mg base N_behind "behind" s_behind f cdv A outer s H E) (defBody s_behind) (liftS ⟨P, w, K, mg⟩ E t_behind) := by
  have nd := sc_behind.nd
  exact (dss_cons (dexpr (de_call F_look_at_lot C (by decide) (dac (dv 0) (dac (dv 1) da_nil))))
  (dss_cons (dexpr (de_call F_look_at_ticks C (by decide) (dac (dv 2) (dac (de_un' (de_bin' de_int de_int)) da_nil))))
  (dss_cons (dexpr (de_call F_look_at_stand C (by decide) (dac (dv 0) (dac (dv 3) da_nil))))
  (dss_cons (ds_ret (de_call F_stand_led C (by decide) (dac (de_ix C.std (dv 0) de_int) (dac (de_call F_table_by C (by decide) (dac (dv 0) (dac (dv 1) (dac (dv 2) da_nil)))) (dac (dv 3) da_nil)))))
  dss_nil))))
theorem fe_behind (g : Gs mg) (F_look_at_lot : FE P w K mg base 8 "look_at_lot" P_look_at_lot sp_look_at_lot) (F_look_at_ticks : FE P w K mg base 3 "look_at_ticks" P_look_at_ticks sp_look_at_ticks) (F_look_at_stand : FE P w K mg base 4 "look_at_stand" P_look_at_stand sp_look_at_stand) (F_stand_led : FE P w K mg base 1 "stand_led" P_stand_led sp_stand_led) (F_table_by : FE P w K mg base 4 "table_by" P_table_by sp_table_by) (d : ∃ f fd, mg "behind" = some (.ref f) ∧ FunD K "behind" "behind" (defArgs s_behind) (defBody s_behind) (defScope s_behind) [] [] f fd) (m : Meets sp_behind N_behind P_behind t_behind) : FE P w K mg base 9 "behind" P_behind sp_behind := by
  obtain ⟨f, fd, hm, F⟩ := d
  exact fe_of F sc_behind hm (F.bindsN fun _ _ _ _ _ _ us hl => match us, hl with | [_, _, _, _], _ => rfl) m fun f cdv A outer s H E C => b_behind g F_look_at_lot F_look_at_ticks F_look_at_stand F_stand_led F_table_by C
abbrev s_rounds : Stmt := top 34
theorem sc_rounds : FnScope N_rounds P_rounds (defScope s_rounds) := ⟨rfl, rfl, rfl, by decide +kernel, rfl, by decide +kernel, by decide +kernel⟩
theorem b_rounds (g : Gs mg) (F_look_at_lot : FE P w K mg base 8 "look_at_lot" P_look_at_lot sp_look_at_lot) (F_rounds_by : FE P w K mg base 3 "rounds_by" P_rounds_by sp_rounds_by) {f : Nat} {cdv : Value} {A : Around} {outer : List Env} {s : Shared} {H : Hp} {E : XK} (C : Ctx (bodyX P w K mg base N_rounds "rounds" s_rounds f cdv A outer s H E) E 8) :
    PSs (bodyX P w K mg base N_rounds "rounds" s_rounds f cdv A outer s H E) (defBody s_rounds) (liftS ⟨P, w, K, mg⟩ E t_rounds) := by
  have nd := sc_rounds.nd
  exact (dss_cons (dexpr (de_call F_look_at_lot C (by decide) (dac (dv 0) (dac (dv 1) da_nil))))
  (dss_cons (ds_ret (de_call F_rounds_by C (by decide) (dac (dv 0) (dac (dv 1) da_nil))))
  dss_nil))
theorem fe_rounds (g : Gs mg) (F_look_at_lot : FE P w K mg base 8 "look_at_lot" P_look_at_lot sp_look_at_lot) (F_rounds_by : FE P w K mg base 3 "rounds_by" P_rounds_by sp_rounds_by) (d : ∃ f fd, mg "rounds" = some (.ref f) ∧ FunD K "rounds" "rounds" (defArgs s_rounds) (defBody s_rounds) (defScope s_rounds) [] [] f fd) (m : Meets sp_rounds N_rounds P_rounds t_rounds) : FE P w K mg base 9 "rounds" P_rounds sp_rounds := by
  obtain ⟨f, fd, hm, F⟩ := d
  exact fe_of F sc_rounds hm (F.bindsN fun _ _ _ _ _ _ us hl => match us, hl with | [_, _], _ => rfl) m fun f cdv A outer s H E C => b_rounds g F_look_at_lot F_rounds_by C
abbrev s_gcd : Stmt := top 15
theorem sc_gcd : FnScope N_gcd P_gcd (defScope s_gcd) := ⟨rfl, rfl, rfl, by decide +kernel, rfl, by decide +kernel, by decide +kernel⟩
theorem b_gcd (g : Gs mg)  {f : Nat} {cdv : Value} {A : Around} {outer : List Env} {s : Shared} {H : Hp} {E : XK} (C : Ctx (bodyX P w K mg base N_gcd "gcd" s_gcd f cdv A outer s H E) E 0) :
    PSs (bodyX P w K mg base N_gcd "gcd" s_gcd f cdv A outer s H E) (defBody s_gcd) (liftS ⟨P, w, K, mg⟩ E t_gcd) := by
  have nd := sc_gcd.nd
  exact (dss_cons (ds_while (tcmp C.nox.std (dv 1) de_int) (dss_cons (dpar 0 1 C.nox.std nd (dac (dv 1) (dac (de_bin' (dv 0) (dv 1)) da_nil)))
  dss_nil))
  (dss_cons (ds_ret (de_callB ok_abs g.abs bb_abs (dac (dv 0) da_nil)))
  dss_nil))
theorem fe_gcd (g : Gs mg)  (d : ∃ f fd, mg "gcd" = some (.ref f) ∧ FunD K "gcd" "gcd" (defArgs s_gcd) (defBody s_gcd) (defScope s_gcd) [] [] f fd) (m : Meets sp_gcd N_gcd P_gcd t_gcd) : FE P w K mg base 1 "gcd" P_gcd sp_gcd := by
  obtain ⟨f, fd, hm, F⟩ := d
  exact fe_of F sc_gcd hm (F.bindsN fun _ _ _ _ _ _ us hl => match us, hl with | [_, _], _ => rfl) m fun f cdv A outer s H E C => b_gcd g  C
abbrev s_common : Stmt := top 35
theorem sc_common : FnScope N_common P_common (defScope s_common) := ⟨rfl, rfl, rfl, by decide +kernel, rfl, by decide +kernel, by decide +kernel⟩
theorem b_common (g : Gs mg) (F_gcd : FE P w K mg base 1 "gcd" P_gcd sp_gcd) {f : Nat} {cdv : Value} {A : Around} {outer : List Env} {s : Shared} {H : Hp} {E : XK} (C : Ctx (bodyX P w K mg base N_common "common" s_common f cdv A outer s H E) E 1) :
    PSs (bodyX P w K mg base N_common "common" s_common f cdv A outer s H E) (defBody s_common) (liftS ⟨P, w, K, mg⟩ E t_common) := by
  have nd := sc_common.nd
  exact (dss_cons (ds_ret (de_bin' (de_bin' (dv 0) (dv 1)) (de_call F_gcd C (by decide) (dac (dv 0) (dac (dv 1) da_nil)))))
  dss_nil)
theorem fe_common (g : Gs mg) (F_gcd : FE P w K mg base 1 "gcd" P_gcd sp_gcd) (d : ∃ f fd, mg "common" = some (.ref f) ∧ FunD K "common" "common" (defArgs s_common) (defBody s_common) (defScope s_common) [] [] f fd) (m : Meets sp_common N_common P_common t_common) : FE P w K mg base 2 "common" P_common sp_common := by
  obtain ⟨f, fd, hm, F⟩ := d
  exact fe_of F sc_common hm (F.bindsN fun _ _ _ _ _ _ us hl => match us, hl with | [_, _], _ => rfl) m fun f cdv A outer s H E C => b_common g F_gcd C
abbrev s_again : Stmt := top 36
theorem sc_again : FnScope N_again P_again (defScope s_again) := ⟨rfl, rfl, rfl, by decide +kernel, rfl, by decide +kernel, by decide +kernel⟩
theorem b_again (g : Gs mg) (F_look_at_lot : FE P w K mg base 8 "look_at_lot" P_look_at_lot sp_look_at_lot) (F_rounds_by : FE P w K mg base 3 "rounds_by" P_rounds_by sp_rounds_by) (F_common : FE P w K mg base 2 "common" P_common sp_common) {f : Nat} {cdv : Value} {A : Around} {outer : List Env} {s : Shared} {H : Hp} {E : XK} (C : Ctx (bodyX P w K mg base N_again "again" s_again f cdv A outer s H E) E 8) :
    PSs (bodyX P w K mg base N_again "again" s_again f cdv A outer s H E) (defBody s_again) (liftS ⟨P, w, K, mg⟩ E t_again) := by
  have nd := sc_again.nd
  exact (dss_cons (dexpr (de_call F_look_at_lot C (by decide) (dac (dv 0) (dac (dv 1) da_nil))))
  (dss_cons (dset 2 nd de_int)
  (dss_cons (ds_for C.std.calm (di_seq (de_call F_rounds_by C.nox (by decide) (dac (dv 0) (dac (dv 1) da_nil)))) (gn 3 nd) (dss_cons (dset 2 nd (de_call F_common C.nox (by decide) (dac (dv 2) (dac (de_callB ok_len g.len bb_len (dac (dv 3) da_nil)) da_nil))))
  dss_nil) (fun _ => rfl))
  (dss_cons (ds_ret (dv 2))
  dss_nil))))
theorem fe_again (g : Gs mg) (F_look_at_lot : FE P w K mg base 8 "look_at_lot" P_look_at_lot sp_look_at_lot) (F_rounds_by : FE P w K mg base 3 "rounds_by" P_rounds_by sp_rounds_by) (F_common : FE P w K mg base 2 "common" P_common sp_common) (d : ∃ f fd, mg "again" = some (.ref f) ∧ FunD K "again" "again" (defArgs s_again) (defBody s_again) (defScope s_again) [] [] f fd) (m : Meets sp_again N_again P_again t_again) : FE P w K mg base 9 "again" P_again sp_again := by
  obtain ⟨f, fd, hm, F⟩ := d
  exact fe_of F sc_again hm (F.bindsN fun _ _ _ _ _ _ us hl => match us, hl with | [_, _], _ => rfl) m fun f cdv A outer s H E C => b_again g F_look_at_lot F_rounds_by F_common C
abbrev s_law_written : Stmt := top 57
theorem sc_law_written : FnScope N_law_written P_law_written (defScope s_law_written) := ⟨rfl, rfl, rfl, by decide +kernel, rfl, by decide +kernel, by decide +kernel⟩
theorem b_law_written (g : Gs mg) (F_behind : FE P w K mg base 9 "behind" P_behind sp_behind) (F_rounds : FE P w K mg base 9 "rounds" P_rounds sp_rounds) (F_again : FE P w K mg base 9 "again" P_again sp_again) {f : Nat} {cdv : Value} {A : Around} {outer : List Env} {s : Shared} {H : Hp} {E : XK} (C : Ctx (bodyX P w K mg base N_law_written "_law_written" s_law_written f cdv A outer s H E) E 9) :
    PSs (bodyX P w K mg base N_law_written "_law_written" s_law_written f cdv A outer s H E) (defBody s_law_written) (liftS ⟨P, w, K, mg⟩ E t_law_written) := by
  have nd := sc_law_written.nd
  exact (dss_cons (dset 0 nd (de_tup (dac (de_tup (dac de_int (dac de_int da_nil))) (dac (de_tup (dac (de_tup (dac (de_tup (dac de_int (dac de_int da_nil))) (dac (de_tup (dac de_int (dac de_int da_nil))) da_nil))) da_nil)) da_nil))))
  (dss_cons (dset 1 nd (de_lst (dac (de_lst (dac (de_tup (dac de_int (dac de_int da_nil))) (dac (de_tup (dac de_int (dac de_int da_nil))) (dac (de_tup (dac de_int (dac de_int da_nil))) (dac (de_tup (dac de_int (dac de_int da_nil))) (dac (de_tup (dac de_int (dac de_int da_nil))) da_nil)))))) da_nil)))
  (dss_cons (ds_if ((dt_or (tcmp C.std (de_call F_rounds C (by decide) (dac (dv 0) (dac (de_tup (dac de_int da_nil)) da_nil))) (dv 1)) (dt_or (tcmp C.std (de_call F_again C (by decide) (dac (dv 0) (dac (de_tup (dac de_int da_nil)) da_nil))) de_int) (dt_or1 (tcmp C.std (de_call F_again C (by decide) (dac (dv 0) (dac (de_tup da_nil) da_nil))) de_int))))).pt (dss_cons (ds_ret de_bool)
  dss_nil) dss_nil)
  (dss_cons (ds_ret (dcmp C.std (de_call F_behind C (by decide) (dac (dv 0) (dac (de_tup (dac de_int da_nil)) (dac de_int (dac (de_tup (dac (de_tup (dac de_int (dac de_int da_nil))) (dac (de_tup (dac de_int (dac de_int (dac de_int da_nil)))) da_nil))) da_nil))))) (de_tup (dac (de_tup (dac de_int (dac de_int da_nil))) (dac (de_tup (dac de_int (dac de_int (dac de_int da_nil)))) da_nil)))))
  dss_nil))))
theorem fe_law_written (g : Gs mg) (F_behind : FE P w K mg base 9 "behind" P_behind sp_behind) (F_rounds : FE P w K mg base 9 "rounds" P_rounds sp_rounds) (F_again : FE P w K mg base 9 "again" P_again sp_again) (d : ∃ f fd, mg "_law_written" = some (.ref f) ∧ FunD K "_law_written" "_law_written" (defArgs s_law_written) (defBody s_law_written) (defScope s_law_written) [] [] f fd) (m : Meets sp_law_written N_law_written P_law_written t_law_written) : FE P w K mg base 10 "_law_written" P_law_written sp_law_written := by
  obtain ⟨f, fd, hm, F⟩ := d
  exact fe_of F sc_law_written hm (F.bindsN fun _ _ _ _ _ _ us hl => match us, hl with | [], _ => rfl) m fun f cdv A outer s H E C => b_law_written g F_behind F_rounds F_again C
abbrev s_law_spots : Stmt := top 48
theorem sc_law_spots : FnScope N_law_spots P_law_spots (defScope s_law_spots) := ⟨rfl, rfl, rfl, by decide +kernel, rfl, by decide +kernel, by decide +kernel⟩
theorem b_law_spots (g : Gs mg)  {f : Nat} {cdv : Value} {A : Around} {outer : List Env} {s : Shared} {H : Hp} {E : XK} (C : Ctx (bodyX P w K mg base N_law_spots "_law_spots" s_law_spots f cdv A outer s H E) E 0) :
    PSs (bodyX P w K mg base N_law_spots "_law_spots" s_law_spots f cdv A outer s H E) (defBody s_law_spots) (liftS ⟨P, w, K, mg⟩ E t_law_spots) := by
  have nd := sc_law_spots.nd
  exact (dss_cons (dset 1 nd (de_lst da_nil))
  (dss_cons (ds_for C.std.calm (ienum g.enumerate (dac (dv 0) da_nil)) (gtup C.nox.std (gcons (gn 2 nd) (gcons (gn 3 nd) gnil))) (dss_cons (dset 1 nd (de_bin' (dv 1) (de_lc C.nox.std.calm nd (ir1 g.range (dac (dv 3) da_nil)) (blkOk_by (own := [(PySem.Str.ofString "place", 4)]) rfl) (by decide) (fun _ _ _ _ _ => (gn 4 nd)) (fun _ _ _ _ _ => tests0) (fun _ _ _ _ _ => (de_tup (dac (dv 2) (dac (dv 4) da_nil)))) (fun _ => rfl))))
  dss_nil) (fun _ => rfl))
  (dss_cons (ds_ret (dv 1))
  dss_nil)))
theorem fe_law_spots (g : Gs mg)  (d : ∃ f fd, mg "_law_spots" = some (.ref f) ∧ FunD K "_law_spots" "_law_spots" (defArgs s_law_spots) (defBody s_law_spots) (defScope s_law_spots) [] [] f fd) (m : Meets sp_law_spots N_law_spots P_law_spots t_law_spots) : FE P w K mg base 1 "_law_spots" P_law_spots sp_law_spots := by
  obtain ⟨f, fd, hm, F⟩ := d
  exact fe_of F sc_law_spots hm (F.bindsN fun _ _ _ _ _ _ us hl => match us, hl with | [_], _ => rfl) m fun f cdv A outer s H E C => b_law_spots g  C
abbrev s_law_take : Stmt := top 45
theorem sc_law_take : FnScope N_law_take P_law_take (defScope s_law_take) := ⟨rfl, rfl, rfl, by decide +kernel, rfl, by decide +kernel, by decide +kernel⟩
theorem b_law_take (g : Gs mg)  {f : Nat} {cdv : Value} {A : Around} {outer : List Env} {s : Shared} {H : Hp} {E : XK} (C : Ctx (bodyX P w K mg base N_law_take "_law_take" s_law_take f cdv A outer s H E) E 0) :
    PSs (bodyX P w K mg base N_law_take "_law_take" s_law_take f cdv A outer s H E) (defBody s_law_take) (liftS ⟨P, w, K, mg⟩ E t_law_take) := by
  have nd := sc_law_take.nd
  exact (dss_cons (ds_if (tcmp C.std (de_ix C.std (dv 0) de_int) de_int) (dss_cons (dset 2 nd (de_bin' (de_ix C.std (dv 0) de_int) (dv 1)))
  (dss_cons (dsub C.std (de_bin' (de_ix C.std (dv 0) de_int) (dv 1)) (dv 0) de_int)
  (dss_cons (ds_ret (dv 2))
  dss_nil))) dss_nil)
  (dss_cons (dsub C.std (de_bin' (de_ix C.std (dv 0) de_int) de_int) (dv 0) de_int)
  (dss_cons (dset 3 nd de_int)
  (dss_cons (dset 4 nd (de_bin' (de_bin' (de_ix C.std (dv 0) de_int) (de_bin' de_int (de_ix C.std (dv 0) de_int))) (dv 3)))
  (dss_cons (dset 4 nd (de_bin' (de_bin' (de_bin' (de_bin' (dv 4) (dv 4)) (de_bin' de_int (de_bin' (de_ix C.std (dv 0) de_int) de_int))) de_int) (dv 3)))
  (dss_cons (ds_ret (de_bin' (de_bin' (de_bin' (de_bin' (dv 4) de_int) (dv 3)) de_int) (dv 1)))
  dss_nil))))))
theorem fe_law_take (g : Gs mg)  (d : ∃ f fd, mg "_law_take" = some (.ref f) ∧ FunD K "_law_take" "_law_take" (defArgs s_law_take) (defBody s_law_take) (defScope s_law_take) [] [] f fd) (m : Meets sp_law_take N_law_take P_law_take t_law_take) : FE P w K mg base 1 "_law_take" P_law_take sp_law_take := by
  obtain ⟨f, fd, hm, F⟩ := d
  exact fe_of F sc_law_take hm (F.bindsN fun _ _ _ _ _ _ us hl => match us, hl with | [_, _], _ => rfl) m fun f cdv A outer s H E C => b_law_take g  C
abbrev s_law_doors : Stmt := top 49
theorem sc_law_doors : FnScope N_law_doors P_law_doors (defScope s_law_doors) := ⟨rfl, rfl, rfl, by decide +kernel, rfl, by decide +kernel, by decide +kernel⟩
theorem b_law_doors (g : Gs mg) (F_law_spots : FE P w K mg base 1 "_law_spots" P_law_spots sp_law_spots) (F_law_take : FE P w K mg base 1 "_law_take" P_law_take sp_law_take) {f : Nat} {cdv : Value} {A : Around} {outer : List Env} {s : Shared} {H : Hp} {E : XK} (C : Ctx (bodyX P w K mg base N_law_doors "_law_doors" s_law_doors f cdv A outer s H E) E 1) :
    PSs (bodyX P w K mg base N_law_doors "_law_doors" s_law_doors f cdv A outer s H E) (defBody s_law_doors) (liftS ⟨P, w, K, mg⟩ E t_law_doors) := by
  have nd := sc_law_doors.nd
  exact (dss_cons (dset 3 nd (de_call F_law_spots C (by decide) (dac (dv 1) da_nil)))
  (dss_cons (dset 4 nd (de_lst da_nil))
  (dss_cons (ds_for C.std.calm (ir1 g.range (dac (de_call F_law_take C.nox (by decide) (dac (dv 0) (dac (de_bin' (dv 2) de_int) da_nil))) da_nil)) (gn 5 nd) (dss_cons (ds_if (tcmp C.nox.std (dv 3) (de_lst da_nil)) (dss_cons (dset 6 nd (dmt PySem.F.plainAttrs_list PySem.F.slot_list_pop PySem.F.type_list_pop rc_lst mt_popAtD (dv 3) (dac (de_call F_law_take C.nox (by decide) (dac (dv 0) (dac (de_callB ok_len g.len bb_len (dac (dv 3) da_nil)) da_nil))) da_nil)))
  (dss_cons (show PS _ _ (liftS _ _ (dAsg (dLc (diSeq (dVar 3)) (.name 9) (dB (dBin (ruleCmp .NotEq) (dBin ruleIx (dVar 9) (dC (.int 0))) (dBin ruleIx (dVar 6) (dC (.int 0))))) (dVar 9) [9]) (.name 7))) from (ds_setLc C.nox.std.calm nd rfl rfl rfl (di_seq (dv 3)) (blkOk_by (own := [(PySem.Str.ofString "spot", 9)]) rfl) (by decide) (fun _ _ _ _ _ => (gn 9 nd)) (fun _ _ _ _ _ => (tests1 (tcmp (C.nox.blk _ _ _ _ _ _).std (de_ix (C.nox.blk _ _ _ _ _ _).std (dv 9) de_int) (de_ix (C.nox.blk _ _ _ _ _ _).std (dv 6) de_int)))) (fun _ _ _ _ _ => (dv 9)) (fun _ => rfl)))
  (dss_cons (ds_if (tcmp C.nox.std (dv 7) (de_lst da_nil)) (dss_cons (dset 8 nd (de_ix C.nox.std (dv 7) (de_call F_law_take C.nox (by decide) (dac (dv 0) (dac (de_callB ok_len g.len bb_len (dac (dv 7) da_nil)) da_nil)))))
  (dss_cons (dexpr (dmt PySem.F.plainAttrs_list PySem.F.slot_list_remove PySem.F.type_list_remove rc_lst (mt_remD C.nox.std) (dv 3) (dac (dv 8) da_nil)))
  (dss_cons (dexpr (dmt PySem.F.plainAttrs_list PySem.F.slot_list_append PySem.F.type_list_append rc_lst mt_appD (dv 4) (dac (de_tup (dac (de_callB (ok_min2 C.nox.std) g.min bb_min (dac (dv 6) (dac (dv 8) da_nil))) (dac (de_callB (ok_max2 C.nox.std) g.max bb_max (dac (dv 6) (dac (dv 8) da_nil))) da_nil))) da_nil)))
  dss_nil))) dss_nil)
  dss_nil))) dss_nil)
  dss_nil) (fun _ => rfl))
  (dss_cons (ds_ret (de_callTy ok_tup g.tuple bb_tuple (dac (de_callB (ok_sorted C.std) g.sorted bb_sorted (dac (dv 4) da_nil)) da_nil)))
  dss_nil))))
theorem fe_law_doors (g : Gs mg) (F_law_spots : FE P w K mg base 1 "_law_spots" P_law_spots sp_law_spots) (F_law_take : FE P w K mg base 1 "_law_take" P_law_take sp_law_take) (d : ∃ f fd, mg "_law_doors" = some (.ref f) ∧ FunD K "_law_doors" "_law_doors" (defArgs s_law_doors) (defBody s_law_doors) (defScope s_law_doors) [] [] f fd) (m : Meets sp_law_doors N_law_doors P_law_doors t_law_doors) : FE P w K mg base 2 "_law_doors" P_law_doors sp_law_doors := by
  obtain ⟨f, fd, hm, F⟩ := d
  exact fe_of F sc_law_doors hm (F.bindsN fun _ _ _ _ _ _ us hl => match us, hl with | [_, _, _], _ => rfl) m fun f cdv A outer s H E C => b_law_doors g F_law_spots F_law_take C
abbrev s_law_works : Stmt := top 50
theorem sc_law_works : FnScope N_law_works P_law_works (defScope s_law_works) := ⟨rfl, rfl, rfl, by decide +kernel, rfl, by decide +kernel, by decide +kernel⟩
theorem b_law_works (g : Gs mg) (F_law_doors : FE P w K mg base 2 "_law_doors" P_law_doors sp_law_doors) (F_law_take : FE P w K mg base 1 "_law_take" P_law_take sp_law_take) {f : Nat} {cdv : Value} {A : Around} {outer : List Env} {s : Shared} {H : Hp} {E : XK} (C : Ctx (bodyX P w K mg base N_law_works "_law_works" s_law_works f cdv A outer s H E) E 2) :
    PSs (bodyX P w K mg base N_law_works "_law_works" s_law_works f cdv A outer s H E) (defBody s_law_works) (liftS ⟨P, w, K, mg⟩ E t_law_works) := by
  have nd := sc_law_works.nd
  exact (dss_cons (dset 4 nd (de_callTy ok_tup g.tuple bb_tuple (dac (de_lc C.std.calm nd (ir1 g.range (dac (de_bin' de_int (de_call F_law_take C (by decide) (dac (dv 0) (dac (dv 1) da_nil)))) da_nil)) (blkOk_by (own := [(PySem.Str.ofString "turn", 5)]) rfl) (by decide) (fun _ _ _ _ _ => (gn 5 nd)) (fun _ _ _ _ _ => tests0) (fun _ _ _ _ _ => (de_bin' de_int (de_call F_law_take (C.blk _ _ _ _ _ _) (by decide) (dac (dv 0) (dac (dv 2) da_nil))))) (fun _ => rfl)) da_nil)))
  (dss_cons (ds_ret (de_tup (dac (dv 4) (dac (de_call F_law_doors C (by decide) (dac (dv 0) (dac (dv 4) (dac (dv 3) da_nil)))) da_nil))))
  dss_nil))
theorem fe_law_works (g : Gs mg) (F_law_doors : FE P w K mg base 2 "_law_doors" P_law_doors sp_law_doors) (F_law_take : FE P w K mg base 1 "_law_take" P_law_take sp_law_take) (d : ∃ f fd, mg "_law_works" = some (.ref f) ∧ FunD K "_law_works" "_law_works" (defArgs s_law_works) (defBody s_law_works) (defScope s_law_works) [] [] f fd) (m : Meets sp_law_works N_law_works P_law_works t_law_works) : FE P w K mg base 3 "_law_works" P_law_works sp_law_works := by
  obtain ⟨f, fd, hm, F⟩ := d
  exact fe_of F sc_law_works hm (F.bindsN fun _ _ _ _ _ _ us hl => match us, hl with | [_, _, _, _], _ => rfl) m fun f cdv A outer s H E C => b_law_works g F_law_doors F_law_take C
abbrev s_law_tick : Stmt := top 52
theorem sc_law_tick : FnScope N_law_tick P_law_tick (defScope s_law_tick) := ⟨rfl, rfl, rfl, by decide +kernel, rfl, by decide +kernel, by decide +kernel⟩
theorem b_law_tick (g : Gs mg)  {f : Nat} {cdv : Value} {A : Around} {outer : List Env} {s : Shared} {H : Hp} {E : XK} (C : Ctx (bodyX P w K mg base N_law_tick "_law_tick" s_law_tick f cdv A outer s H E) E 0) :
    PSs (bodyX P w K mg base N_law_tick "_law_tick" s_law_tick f cdv A outer s H E) (defBody s_law_tick) (liftS ⟨P, w, K, mg⟩ E t_law_tick) := by
  have nd := sc_law_tick.nd
  exact (dss_cons (ds_for C.std.calm (di_seq (dv 1)) (gn 3 nd) (dss_cons (dasg (de_ix C.nox.std (de_ix C.nox.std (dv 0) de_int) (dv 3)) (gtup C.nox.std (gcons (gn 4 nd) (gcons (gn 5 nd) gnil))))
  (dss_cons (ds_if ((dt_or (tcmp C.nox.std (dv 2) (dv 4)) (dt_or1 (tcmp C.nox.std (dv 2) (dv 5))))).pt (dss_cons (dset 2 nd (de_ife (tcmp C.nox.std (dv 2) (dv 4)) (dv 5) (dv 4)))
  (dss_cons (ds_ret (de_tup (dac (de_ix C.nox.std (dv 2) de_int) (dac (de_bin' (de_bin' (de_ix C.nox.std (dv 2) de_int) de_int) (de_ix C.nox.std (de_ix C.nox.std (dv 0) de_int) (de_ix C.nox.std (dv 2) de_int))) da_nil))))
  dss_nil)) dss_nil)
  dss_nil)) (fun _ => rfl))
  (dss_cons (ds_ret (de_tup (dac (de_ix C.std (dv 2) de_int) (dac (de_bin' (de_bin' (de_ix C.std (dv 2) de_int) de_int) (de_ix C.std (de_ix C.std (dv 0) de_int) (de_ix C.std (dv 2) de_int))) da_nil))))
  dss_nil))
theorem fe_law_tick (g : Gs mg)  (d : ∃ f fd, mg "_law_tick" = some (.ref f) ∧ FunD K "_law_tick" "_law_tick" (defArgs s_law_tick) (defBody s_law_tick) (defScope s_law_tick) [] [] f fd) (m : Meets sp_law_tick N_law_tick P_law_tick t_law_tick) : FE P w K mg base 1 "_law_tick" P_law_tick sp_law_tick := by
  obtain ⟨f, fd, hm, F⟩ := d
  exact fe_of F sc_law_tick hm (F.bindsN fun _ _ _ _ _ _ us hl => match us, hl with | [_, _, _], _ => rfl) m fun f cdv A outer s H E C => b_law_tick g  C
abbrev s_law_rounds : Stmt := top 53
theorem sc_law_rounds : FnScope N_law_rounds P_law_rounds (defScope s_law_rounds) := ⟨rfl, rfl, rfl, by decide +kernel, rfl, by decide +kernel, by decide +kernel⟩
theorem b_law_rounds (g : Gs mg) (F_law_spots : FE P w K mg base 1 "_law_spots" P_law_spots sp_law_spots) (F_law_tick : FE P w K mg base 1 "_law_tick" P_law_tick sp_law_tick) {f : Nat} {cdv : Value} {A : Around} {outer : List Env} {s : Shared} {H : Hp} {E : XK} (C : Ctx (bodyX P w K mg base N_law_rounds "_law_rounds" s_law_rounds f cdv A outer s H E) E 1) :
    PSs (bodyX P w K mg base N_law_rounds "_law_rounds" s_law_rounds f cdv A outer s H E) (defBody s_law_rounds) (liftS ⟨P, w, K, mg⟩ E t_law_rounds) := by
  have nd := sc_law_rounds.nd
  exact (dss_cons (dset 2 nd (de_call F_law_spots C (by decide) (dac (de_ix C.std (dv 0) de_int) da_nil)))
  (dss_cons (dset 3 nd (de_lst da_nil))
  (dss_cons (ds_while (tcmp C.nox.std (dv 2) (de_lst da_nil)) (dss_cons (dset 4 nd (de_lst (dac (de_ix C.nox.std (dv 2) de_int) da_nil)))
  (dss_cons (ds_while (tcmp C.nox.nox.std (de_call F_law_tick C.nox.nox (by decide) (dac (dv 0) (dac (dv 1) (dac (de_ix C.nox.nox.std (dv 4) (de_un' de_int)) da_nil)))) (de_ix C.nox.nox.std (dv 4) de_int)) (dss_cons (dexpr (dmt PySem.F.plainAttrs_list PySem.F.slot_list_append PySem.F.type_list_append rc_lst mt_appD (dv 4) (dac (de_call F_law_tick C.nox.nox (by decide) (dac (dv 0) (dac (dv 1) (dac (de_ix C.nox.nox.std (dv 4) (de_un' de_int)) da_nil)))) da_nil)))
  dss_nil))
  (dss_cons (show PS _ _ (liftS _ _ (dAsg (dLc (diSeq (dVar 2)) (.name 5) (dB (dBin (ruleCmp .NotIn) (dVar 5) (dVar 4))) (dVar 5) [5]) (.name 2))) from (ds_setLc C.nox.std.calm nd rfl rfl rfl (di_seq (dv 2)) (blkOk_by (own := [(PySem.Str.ofString "spot", 5)]) rfl) (by decide) (fun _ _ _ _ _ => (gn 5 nd)) (fun _ _ _ _ _ => (tests1 (tcmp (C.nox.blk _ _ _ _ _ _).std (dv 5) (dv 4)))) (fun _ _ _ _ _ => (dv 5)) (fun _ => rfl)))
  (dss_cons (dexpr (dmt PySem.F.plainAttrs_list PySem.F.slot_list_append PySem.F.type_list_append rc_lst mt_appD (dv 3) (dac (dv 4) da_nil)))
  dss_nil)))))
  (dss_cons (ds_ret (dv 3))
  dss_nil))))
theorem fe_law_rounds (g : Gs mg) (F_law_spots : FE P w K mg base 1 "_law_spots" P_law_spots sp_law_spots) (F_law_tick : FE P w K mg base 1 "_law_tick" P_law_tick sp_law_tick) (d : ∃ f fd, mg "_law_rounds" = some (.ref f) ∧ FunD K "_law_rounds" "_law_rounds" (defArgs s_law_rounds) (defBody s_law_rounds) (defScope s_law_rounds) [] [] f fd) (m : Meets sp_law_rounds N_law_rounds P_law_rounds t_law_rounds) : FE P w K mg base 2 "_law_rounds" P_law_rounds sp_law_rounds := by
  obtain ⟨f, fd, hm, F⟩ := d
  exact fe_of F sc_law_rounds hm (F.bindsN fun _ _ _ _ _ _ us hl => match us, hl with | [_, _], _ => rfl) m fun f cdv A outer s H E C => b_law_rounds g F_law_spots F_law_tick C
abbrev s_law_stand : Stmt := top 54
theorem sc_law_stand : FnScope N_law_stand P_law_stand (defScope s_law_stand) := ⟨rfl, rfl, rfl, by decide +kernel, rfl, by decide +kernel, by decide +kernel⟩
theorem b_law_stand (g : Gs mg) (F_law_take : FE P w K mg base 1 "_law_take" P_law_take sp_law_take) {f : Nat} {cdv : Value} {A : Around} {outer : List Env} {s : Shared} {H : Hp} {E : XK} (C : Ctx (bodyX P w K mg base N_law_stand "_law_stand" s_law_stand f cdv A outer s H E) E 1) :
    PSs (bodyX P w K mg base N_law_stand "_law_stand" s_law_stand f cdv A outer s H E) (defBody s_law_stand) (liftS ⟨P, w, K, mg⟩ E t_law_stand) := by
  have nd := sc_law_stand.nd
  exact (dss_cons (dset 3 nd (de_lst da_nil))
  (dss_cons (ds_for C.std.calm (di_seq (dv 1)) (gn 4 nd) (dss_cons (dexpr (dmt PySem.F.plainAttrs_list PySem.F.slot_list_append PySem.F.type_list_append rc_lst mt_appD (dv 3) (dac (de_callTy ok_tup g.tuple bb_tuple (dac (de_lc C.nox.std.calm nd (ir1 g.range (dac (dv 4) da_nil)) (blkOk_by (own := [(PySem.Str.ofString "turn", 5)]) rfl) (by decide) (fun _ _ _ _ _ => (gn 5 nd)) (fun _ _ _ _ _ => tests0) (fun _ _ _ _ _ => (de_call F_law_take (C.nox.blk _ _ _ _ _ _) (by decide) (dac (dv 0) (dac (dv 2) da_nil)))) (fun _ => rfl)) da_nil)) da_nil)))
  dss_nil) (fun _ => rfl))
  (dss_cons (ds_ret (de_callTy ok_tup g.tuple bb_tuple (dac (dv 3) da_nil)))
  dss_nil)))
theorem fe_law_stand (g : Gs mg) (F_law_take : FE P w K mg base 1 "_law_take" P_law_take sp_law_take) (d : ∃ f fd, mg "_law_stand" = some (.ref f) ∧ FunD K "_law_stand" "_law_stand" (defArgs s_law_stand) (defBody s_law_stand) (defScope s_law_stand) [] [] f fd) (m : Meets sp_law_stand N_law_stand P_law_stand t_law_stand) : FE P w K mg base 2 "_law_stand" P_law_stand sp_law_stand := by
  obtain ⟨f, fd, hm, F⟩ := d
  exact fe_of F sc_law_stand hm (F.bindsN fun _ _ _ _ _ _ us hl => match us, hl with | [_, _, _], _ => rfl) m fun f cdv A outer s H E C => b_law_stand g F_law_take C
abbrev s_law_lot : Stmt := top 51
theorem sc_law_lot : FnScope N_law_lot P_law_lot (defScope s_law_lot) := ⟨rfl, rfl, rfl, by decide +kernel, rfl, by decide +kernel, by decide +kernel⟩
theorem b_law_lot (g : Gs mg) (F_law_take : FE P w K mg base 1 "_law_take" P_law_take sp_law_take) {f : Nat} {cdv : Value} {A : Around} {outer : List Env} {s : Shared} {H : Hp} {E : XK} (C : Ctx (bodyX P w K mg base N_law_lot "_law_lot" s_law_lot f cdv A outer s H E) E 1) :
    PSs (bodyX P w K mg base N_law_lot "_law_lot" s_law_lot f cdv A outer s H E) (defBody s_law_lot) (liftS ⟨P, w, K, mg⟩ E t_law_lot) := by
  have nd := sc_law_lot.nd
  exact (dss_cons (ds_ret (de_callTy ok_tup g.tuple bb_tuple (dac (de_lc C.std.calm nd (ir1 g.range (dac (de_callB ok_len g.len bb_len (dac (de_ix C.std (dv 1) de_int) da_nil)) da_nil)) (blkOk_by (own := [(PySem.Str.ofString "place", 2)]) rfl) (by decide) (fun _ _ _ _ _ => (gn 2 nd)) (fun _ _ _ _ _ => (tests1 (tcmp (C.blk _ _ _ _ _ _).std (de_call F_law_take (C.blk _ _ _ _ _ _) (by decide) (dac (dv 0) (dac de_int da_nil))) de_int))) (fun _ _ _ _ _ => (dv 2)) (fun _ => rfl)) da_nil)))
  dss_nil)
theorem fe_law_lot (g : Gs mg) (F_law_take : FE P w K mg base 1 "_law_take" P_law_take sp_law_take) (d : ∃ f fd, mg "_law_lot" = some (.ref f) ∧ FunD K "_law_lot" "_law_lot" (defArgs s_law_lot) (defBody s_law_lot) (defScope s_law_lot) [] [] f fd) (m : Meets sp_law_lot N_law_lot P_law_lot t_law_lot) : FE P w K mg base 2 "_law_lot" P_law_lot sp_law_lot := by
  obtain ⟨f, fd, hm, F⟩ := d
  exact fe_of F sc_law_lot hm (F.bindsN fun _ _ _ _ _ _ us hl => match us, hl with | [_, _], _ => rfl) m fun f cdv A outer s H E C => b_law_lot g F_law_take C
abbrev s_law_gone : Stmt := top 55
theorem sc_law_gone : FnScope N_law_gone P_law_gone (defScope s_law_gone) := ⟨rfl, rfl, rfl, by decide +kernel, rfl, by decide +kernel, by decide +kernel⟩
theorem b_law_gone (g : Gs mg) (F_law_spots : FE P w K mg base 1 "_law_spots" P_law_spots sp_law_spots) (F_law_tick : FE P w K mg base 1 "_law_tick" P_law_tick sp_law_tick) {f : Nat} {cdv : Value} {A : Around} {outer : List Env} {s : Shared} {H : Hp} {E : XK} (C : Ctx (bodyX P w K mg base N_law_gone "_law_gone" s_law_gone f cdv A outer s H E) E 1) :
    PSs (bodyX P w K mg base N_law_gone "_law_gone" s_law_gone f cdv A outer s H E) (defBody s_law_gone) (liftS ⟨P, w, K, mg⟩ E t_law_gone) := by
  have nd := sc_law_gone.nd
  exact (dss_cons (dset 3 nd de_newD)
  (dss_cons (ds_for C.std.calm (di_seq (de_call F_law_spots C.nox (by decide) (dac (de_ix C.nox.std (dv 0) de_int) da_nil))) (gtup C.nox.std (gcons (gn 4 nd) (gcons (gn 5 nd) gnil))) (dss_cons (dsub C.nox.std (de_ix C.nox.std (de_ix C.nox.std (dv 2) (dv 4)) (dv 5)) (dv 3) (de_call F_law_tick C.nox (by decide) (dac (dv 0) (dac (dv 1) (dac (de_tup (dac (dv 4) (dac (dv 5) da_nil))) da_nil)))))
  dss_nil) (fun _ => rfl))
  (dss_cons (dset 6 nd (de_lst da_nil))
  (dss_cons (ds_for C.std.calm (ienum g.enumerate (dac (de_ix C.nox.std (dv 0) de_int) da_nil)) (gtup C.nox.std (gcons (gn 4 nd) (gcons (gn 7 nd) gnil))) (dss_cons (dexpr (dmt PySem.F.plainAttrs_list PySem.F.slot_list_append PySem.F.type_list_append rc_lst mt_appD (dv 6) (dac (de_callTy ok_tup g.tuple bb_tuple (dac (de_lc C.nox.std.calm nd (ir1 g.range (dac (dv 7) da_nil)) (blkOk_by (own := [(PySem.Str.ofString "place", 5)]) rfl) (by decide) (fun _ _ _ _ _ => (gn 5 nd)) (fun _ _ _ _ _ => tests0) (fun _ _ _ _ _ => (de_ix (C.nox.blk _ _ _ _ _ _).std (dv 3) (de_tup (dac (dv 4) (dac (dv 5) da_nil))))) (fun _ => rfl)) da_nil)) da_nil)))
  dss_nil) (fun _ => rfl))
  (dss_cons (ds_ret (de_callTy ok_tup g.tuple bb_tuple (dac (dv 6) da_nil)))
  dss_nil)))))
theorem fe_law_gone (g : Gs mg) (F_law_spots : FE P w K mg base 1 "_law_spots" P_law_spots sp_law_spots) (F_law_tick : FE P w K mg base 1 "_law_tick" P_law_tick sp_law_tick) (d : ∃ f fd, mg "_law_gone" = some (.ref f) ∧ FunD K "_law_gone" "_law_gone" (defArgs s_law_gone) (defBody s_law_gone) (defScope s_law_gone) [] [] f fd) (m : Meets sp_law_gone N_law_gone P_law_gone t_law_gone) : FE P w K mg base 2 "_law_gone" P_law_gone sp_law_gone := by
  obtain ⟨f, fd, hm, F⟩ := d
  exact fe_of F sc_law_gone hm (F.bindsN fun _ _ _ _ _ _ us hl => match us, hl with | [_, _, _], _ => rfl) m fun f cdv A outer s H E C => b_law_gone g F_law_spots F_law_tick C
abbrev s_law_same : Stmt := top 47
theorem sc_law_same : FnScope N_law_same P_law_same (defScope s_law_same) := ⟨rfl, rfl, rfl, by decide +kernel, rfl, by decide +kernel, by decide +kernel⟩
theorem b_law_same (g : Gs mg)  {j : Nat} {sp_law_same : DSpec} (F_law_same : FE P w K mg base j "_law_same" P_law_same sp_law_same) {f : Nat} {cdv : Value} {A : Around} {outer : List Env} {s : Shared} {H : Hp} {E : XK} (C : Ctx (bodyX P w K mg base N_law_same "_law_same" s_law_same f cdv A outer s H E) E j) :
    PSs (bodyX P w K mg base N_law_same "_law_same" s_law_same f cdv A outer s H E) (defBody s_law_same) (liftS ⟨P, w, K, mg⟩ E (t_law_same sp_law_same)) := by
  have nd := sc_law_same.nd
  exact (dss_cons (ds_if ((dt_or ((dt_and (tval (de_callB ok_isi1 g.isinstance bb_isinstance (dac (dv 0) (dac (de_ty .list g.list bb_list) da_nil)))) (dt_and1 (tval (de_callB ok_isi1 g.isinstance bb_isinstance (dac (dv 1) (dac (de_ty .list g.list bb_list) da_nil))))))).pt (dt_or1 ((dt_and (tval (de_callB ok_isi1 g.isinstance bb_isinstance (dac (dv 0) (dac (de_ty .tuple g.tuple bb_tuple) da_nil)))) (dt_and1 (tval (de_callB ok_isi1 g.isinstance bb_isinstance (dac (dv 1) (dac (de_ty .tuple g.tuple bb_tuple) da_nil))))))).pt))).pt (dss_cons (ds_ret (de_and (dcmp C.std (de_callB ok_len g.len bb_len (dac (dv 0) da_nil)) (de_callB ok_len g.len bb_len (dac (dv 1) da_nil))) (de_one (de_callB (ok_all C.std) g.all bb_all (dac (de_lc C.std.calm nd (izip g.zip (dac (dv 0) (dac (dv 1) da_nil))) (blkOk_by (own := [(PySem.Str.ofString "x", 2), (PySem.Str.ofString "y", 3)]) rfl) (by decide) (fun _ _ _ _ _ => (gtup (C.blk _ _ _ _ _ _).std (gcons (gn 2 nd) (gcons (gn 3 nd) gnil)))) (fun _ _ _ _ _ => tests0) (fun _ _ _ _ _ => (de_call F_law_same (C.blk _ _ _ _ _ _) (Nat.le_refl _) (dac (dv 2) (dac (dv 3) da_nil)))) (fun _ => rfl)) da_nil)))))
  dss_nil) dss_nil)
  (dss_cons (ds_if ((dt_or (tval (de_callB ok_isi2 g.isinstance bb_isinstance (dac (dv 0) (dac (de_tup (dac (de_ty .bool g.bool bb_bool) (dac (de_ty .list g.list bb_list) (dac (de_ty .tuple g.tuple bb_tuple) da_nil)))) da_nil)))) (dt_or1 (tval (de_callB ok_isi2 g.isinstance bb_isinstance (dac (dv 1) (dac (de_tup (dac (de_ty .bool g.bool bb_bool) (dac (de_ty .list g.list bb_list) (dac (de_ty .tuple g.tuple bb_tuple) da_nil)))) da_nil))))))).pt (dss_cons (ds_ret (de_and (de_callB ok_isi1 g.isinstance bb_isinstance (dac (dv 0) (dac (de_ty .bool g.bool bb_bool) da_nil))) (de_and (de_callB ok_isi1 g.isinstance bb_isinstance (dac (dv 1) (dac (de_ty .bool g.bool bb_bool) da_nil))) (de_one (dcmp C.std (dv 0) (dv 1))))))
  dss_nil) dss_nil)
  (dss_cons (ds_if ((dt_or (tval (de_callB ok_isi1 g.isinstance bb_isinstance (dac (dv 0) (dac (de_ty .int g.int bb_int) da_nil)))) (dt_or1 (tval (de_callB ok_isi1 g.isinstance bb_isinstance (dac (dv 1) (dac (de_ty .int g.int bb_int) da_nil))))))).pt (dss_cons (ds_ret (de_and (de_callB ok_isi1 g.isinstance bb_isinstance (dac (dv 0) (dac (de_ty .int g.int bb_int) da_nil))) (de_and (de_callB ok_isi1 g.isinstance bb_isinstance (dac (dv 1) (dac (de_ty .int g.int bb_int) da_nil))) (de_one (dcmp C.std (dv 0) (dv 1))))))
  dss_nil) dss_nil)
  (dss_cons (ds_if ((dt_or (tval (de_callB ok_isi1 g.isinstance bb_isinstance (dac (dv 0) (dac (de_ty .str g.str bb_str) da_nil)))) (dt_or1 (tval (de_callB ok_isi1 g.isinstance bb_isinstance (dac (dv 1) (dac (de_ty .str g.str bb_str) da_nil))))))).pt (dss_cons (ds_ret (de_and (de_callB ok_isi1 g.isinstance bb_isinstance (dac (dv 0) (dac (de_ty .str g.str bb_str) da_nil))) (de_and (de_callB ok_isi1 g.isinstance bb_isinstance (dac (dv 1) (dac (de_ty .str g.str bb_str) da_nil))) (de_one (dcmp C.std (dv 0) (dv 1))))))
  dss_nil) dss_nil)
  (dss_cons (ds_ret (de_and (dcmp C.std (dv 0) de_none) (de_one (dcmp C.std (dv 1) de_none))))
  dss_nil)))))
theorem fe_law_same (g : Gs mg)  {j : Nat} {sp_law_same : DSpec} (F_law_same : FE P w K mg base j "_law_same" P_law_same sp_law_same) {sp : DSpec} (d : ∃ f fd, mg "_law_same" = some (.ref f) ∧ FunD K "_law_same" "_law_same" (defArgs s_law_same) (defBody s_law_same) (defScope s_law_same) [] [] f fd) (m : Meets sp N_law_same P_law_same (t_law_same sp_law_same)) : FE P w K mg base (j + 1) "_law_same" P_law_same sp := by
  obtain ⟨f, fd, hm, F⟩ := d
  exact fe_of F sc_law_same hm (F.bindsN fun _ _ _ _ _ _ us hl => match us, hl with | [_, _], _ => rfl) m fun f cdv A outer s H E C => b_law_same g F_law_same C
abbrev s_look_at_spot : Stmt := top 25
theorem sc_look_at_spot : FnScope N_look_at_spot P_look_at_spot (defScope s_look_at_spot) := ⟨rfl, rfl, rfl, by decide +kernel, rfl, by decide +kernel, by decide +kernel⟩
theorem b_look_at_spot (g : Gs mg) (F_is_in : FE P w K mg base 3 "is_in" P_is_in sp_is_in) {f : Nat} {cdv : Value} {A : Around} {outer : List Env} {s : Shared} {H : Hp} {E : XK} (C : Ctx (bodyX P w K mg base N_look_at_spot "look_at_spot" s_look_at_spot f cdv A outer s H E) E 3) :
    PSs (bodyX P w K mg base N_look_at_spot "look_at_spot" s_look_at_spot f cdv A outer s H E) (defBody s_look_at_spot) (liftS ⟨P, w, K, mg⟩ E t_look_at_spot) := by
  have nd := sc_look_at_spot.nd
  exact (dss_cons (ds_if (dt_not (tval (de_call F_is_in C (by decide) (dac (de_ix C.std (dv 0) de_int) (dac (dv 1) da_nil))))) (dss_cons ds_never
  dss_nil) dss_nil)
  dss_nil)
theorem fe_look_at_spot (g : Gs mg) (F_is_in : FE P w K mg base 3 "is_in" P_is_in sp_is_in) (d : ∃ f fd, mg "look_at_spot" = some (.ref f) ∧ FunD K "look_at_spot" "look_at_spot" (defArgs s_look_at_spot) (defBody s_look_at_spot) (defScope s_look_at_spot) [] [] f fd) (m : Meets sp_look_at_spot N_look_at_spot P_look_at_spot t_look_at_spot) : FE P w K mg base 4 "look_at_spot" P_look_at_spot sp_look_at_spot := by
  obtain ⟨f, fd, hm, F⟩ := d
  exact fe_of F sc_look_at_spot hm (F.bindsN fun _ _ _ _ _ _ us hl => match us, hl with | [_, _], _ => rfl) m fun f cdv A outer s H E C => b_look_at_spot g F_is_in C
abbrev s_led : Stmt := top 38
theorem sc_led : FnScope N_led P_led (defScope s_led) := ⟨rfl, rfl, rfl, by decide +kernel, rfl, by decide +kernel, by decide +kernel⟩
theorem b_led (g : Gs mg) (F_look_at_lot : FE P w K mg base 8 "look_at_lot" P_look_at_lot sp_look_at_lot) (F_look_at_ticks : FE P w K mg base 3 "look_at_ticks" P_look_at_ticks sp_look_at_ticks) (F_look_at_spot : FE P w K mg base 4 "look_at_spot" P_look_at_spot sp_look_at_spot) (F_table_by : FE P w K mg base 4 "table_by" P_table_by sp_table_by) {f : Nat} {cdv : Value} {A : Around} {outer : List Env} {s : Shared} {H : Hp} {E : XK} (C : Ctx (bodyX P w K mg base N_led "led" s_led f cdv A outer s H E) E 8) :
    PSs (bodyX P w K mg base N_led "led" s_led f cdv A outer s H E) (defBody s_led) (liftS ⟨P, w, K, mg⟩ E t_led) := by
  have nd := sc_led.nd
  exact (dss_cons (dexpr (de_call F_look_at_lot C (by decide) (dac (dv 0) (dac (dv 1) da_nil))))
  (dss_cons (dexpr (de_call F_look_at_ticks C (by decide) (dac (dv 2) (dac (de_un' (de_bin' de_int de_int)) da_nil))))
  (dss_cons (dexpr (de_call F_look_at_spot C (by decide) (dac (dv 0) (dac (dv 3) da_nil))))
  (dss_cons (ds_ret (de_ix C.std (de_call F_table_by C (by decide) (dac (dv 0) (dac (dv 1) (dac (dv 2) da_nil)))) (dv 3)))
  dss_nil))))
theorem fe_led (g : Gs mg) (F_look_at_lot : FE P w K mg base 8 "look_at_lot" P_look_at_lot sp_look_at_lot) (F_look_at_ticks : FE P w K mg base 3 "look_at_ticks" P_look_at_ticks sp_look_at_ticks) (F_look_at_spot : FE P w K mg base 4 "look_at_spot" P_look_at_spot sp_look_at_spot) (F_table_by : FE P w K mg base 4 "table_by" P_table_by sp_table_by) (d : ∃ f fd, mg "led" = some (.ref f) ∧ FunD K "led" "led" (defArgs s_led) (defBody s_led) (defScope s_led) [] [] f fd) (m : Meets sp_led N_led P_led t_led) : FE P w K mg base 9 "led" P_led sp_led := by
  obtain ⟨f, fd, hm, F⟩ := d
  exact fe_of F sc_led hm (F.bindsN fun _ _ _ _ _ _ us hl => match us, hl with | [_, _, _, _], _ => rfl) m fun f cdv A outer s H E C => b_led g F_look_at_lot F_look_at_ticks F_look_at_spot F_table_by C
abbrev s_law_all_back : Stmt := top 56
theorem sc_law_all_back : FnScope N_law_all_back P_law_all_back (defScope s_law_all_back) := ⟨rfl, rfl, rfl, by decide +kernel, rfl, by decide +kernel, by decide +kernel⟩
theorem b_law_all_back (g : Gs mg) (F_law_rounds : FE P w K mg base 2 "_law_rounds" P_law_rounds sp_law_rounds) {f : Nat} {cdv : Value} {A : Around} {outer : List Env} {s : Shared} {H : Hp} {E : XK} (C : Ctx (bodyX P w K mg base N_law_all_back "_law_all_back" s_law_all_back f cdv A outer s H E) E 2) :
    PSs (bodyX P w K mg base N_law_all_back "_law_all_back" s_law_all_back f cdv A outer s H E) (defBody s_law_all_back) (liftS ⟨P, w, K, mg⟩ E t_law_all_back) := by
  have nd := sc_law_all_back.nd
  exact (dss_cons (dset 2 nd de_int)
  (dss_cons (ds_for C.std.calm (di_seq (de_call F_law_rounds C.nox (by decide) (dac (dv 0) (dac (dv 1) da_nil)))) (gn 3 nd) (dss_cons (dset 4 nd (dv 2))
  (dss_cons (ds_while (tcmp C.nox.nox.std (de_bin' (dv 2) (de_callB ok_len g.len bb_len (dac (dv 3) da_nil))) de_int) (dss_cons (dset 2 nd (de_bin' (dv 2) (dv 4)))
  dss_nil))
  dss_nil)) (fun _ => rfl))
  (dss_cons (ds_ret (dv 2))
  dss_nil)))
theorem fe_law_all_back (g : Gs mg) (F_law_rounds : FE P w K mg base 2 "_law_rounds" P_law_rounds sp_law_rounds) (d : ∃ f fd, mg "_law_all_back" = some (.ref f) ∧ FunD K "_law_all_back" "_law_all_back" (defArgs s_law_all_back) (defBody s_law_all_back) (defScope s_law_all_back) [] [] f fd) (m : Meets sp_law_all_back N_law_all_back P_law_all_back t_law_all_back) : FE P w K mg base 3 "_law_all_back" P_law_all_back sp_law_all_back := by
  obtain ⟨f, fd, hm, F⟩ := d
  exact fe_of F sc_law_all_back hm (F.bindsN fun _ _ _ _ _ _ us hl => match us, hl with | [_, _], _ => rfl) m fun f cdv A outer s H E C => b_law_all_back g F_law_rounds C
abbrev s_law : Stmt := top 58
theorem sc_law : FnScope N_law P_law (defScope s_law) := ⟨rfl, rfl, rfl, by decide +kernel, rfl, by decide +kernel, by decide +kernel⟩
theorem b_law (g : Gs mg) (F_law_bags : FE P w K mg base 2 "_law_bags" P_law_bags sp_law_bags) (F_law_written : FE P w K mg base 10 "_law_written" P_law_written sp_law_written) (F_law_works : FE P w K mg base 3 "_law_works" P_law_works sp_law_works) (F_law_rounds : FE P w K mg base 2 "_law_rounds" P_law_rounds sp_law_rounds) (F_law_stand : FE P w K mg base 2 "_law_stand" P_law_stand sp_law_stand) (F_law_lot : FE P w K mg base 2 "_law_lot" P_law_lot sp_law_lot) (F_rounds : FE P w K mg base 9 "rounds" P_rounds sp_rounds) (F_law_gone : FE P w K mg base 2 "_law_gone" P_law_gone sp_law_gone) (F_law_take : FE P w K mg base 1 "_law_take" P_law_take sp_law_take) (F_law_spots : FE P w K mg base 1 "_law_spots" P_law_spots sp_law_spots) (F_law_same : FE P w K mg base 7 "_law_same" P_law_same sp_law_same) (F_led : FE P w K mg base 9 "led" P_led sp_led) (F_again : FE P w K mg base 9 "again" P_again sp_again) (F_law_all_back : FE P w K mg base 3 "_law_all_back" P_law_all_back sp_law_all_back) (F_behind : FE P w K mg base 9 "behind" P_behind sp_behind) (F_law_tick : FE P w K mg base 1 "_law_tick" P_law_tick sp_law_tick) {f : Nat} {cdv : Value} {A : Around} {outer : List Env} {s : Shared} {H : Hp} {E : XK} (C : Ctx (bodyX P w K mg base N_law "law" s_law f cdv A outer s H E) E 10) :
    PSs (bodyX P w K mg base N_law "law" s_law f cdv A outer s H E) (defBody s_law) (liftS ⟨P, w, K, mg⟩ E t_law) := by
  have nd := sc_law.nd
  exact (dss_cons (ds_if (dt_not (tval (de_call0 F_law_written C (by decide)))) (dss_cons (ds_ret de_bool)
  dss_nil) dss_nil)
  (dss_cons (ds_for C.std.calm (di_seq (de_call F_law_bags C.nox (by decide) (dac (dv 0) (dac de_int da_nil)))) (gn 1 nd) (dss_cons (dset 2 nd (de_call F_law_works C.nox (by decide) (dac (dv 1) (dac de_int (dac de_int (dac de_int da_nil))))))
  (dss_cons (dasg (de_tup (dac (de_call F_law_lot C.nox (by decide) (dac (dv 1) (dac (dv 2) da_nil))) (dac (de_ix C.nox.std (dv 2) de_int) da_nil))) (gtup C.nox.std (gcons (gn 3 nd) (gcons (gn 4 nd) gnil))))
  (dss_cons (dset 5 nd (de_call F_law_rounds C.nox (by decide) (dac (dv 2) (dac (dv 3) da_nil))))
  (dss_cons (ds_for C.nox.std.calm (ir1 g.range (dac de_int da_nil)) (gn 6 nd) (dss_cons (dset 7 nd (de_call F_rounds C.nox.nox (by decide) (dac (dv 2) (dac (dv 3) da_nil))))
  (dss_cons (ds_if ((dt_or (dt_not (tval (de_call F_law_same C.nox.nox (by decide) (dac (dv 7) (dac (dv 5) da_nil))))) (dt_or1 (tcmp C.nox.nox.std (de_call F_again C.nox.nox (by decide) (dac (dv 2) (dac (dv 3) da_nil))) (de_call F_law_all_back C.nox.nox (by decide) (dac (dv 2) (dac (dv 3) da_nil))))))).pt (dss_cons (ds_ret de_bool)
  dss_nil) dss_nil)
  (dss_cons (dexpr (dmt PySem.F.plainAttrs_list PySem.F.slot_list_append PySem.F.type_list_append rc_lst mt_appD (de_ix C.nox.nox.std (dv 7) de_int) (dac de_none da_nil)))
  dss_nil))) (fun _ => rfl))
  (dss_cons (dset 8 nd (de_call F_law_stand C.nox (by decide) (dac (dv 1) (dac (dv 4) (dac (de_ix C.nox.std (de_lst (dac de_int (dac de_int da_nil))) (de_call F_law_take C.nox (by decide) (dac (dv 1) (dac de_int da_nil)))) da_nil)))))
  (dss_cons (dasg (de_tup (dac (dv 8) (dac (de_callTy (ok_dict C.nox.std) g.dict bb_dict (dac (de_lc C.nox.std.calm nd (di_seq (de_call F_law_spots C.nox (by decide) (dac (dv 4) da_nil))) (blkOk_by (own := [(PySem.Str.ofString "spot", 12)]) rfl) (by decide) (fun _ _ _ _ _ => (gn 12 nd)) (fun _ _ _ _ _ => tests0) (fun _ _ _ _ _ => (de_tup (dac (dv 12) (dac (dv 12) da_nil)))) (fun _ => rfl)) da_nil)) da_nil))) (gtup C.nox.std (gcons (gn 9 nd) (gcons (gn 10 nd) gnil))))
  (dss_cons (ds_for C.nox.std.calm (ir1 g.range (dac de_int da_nil)) (gn 11 nd) (dss_cons (ds_if ((dt_or (dt_not (tval (de_call F_law_same C.nox.nox (by decide) (dac (de_call F_behind C.nox.nox (by decide) (dac (dv 2) (dac (dv 3) (dac (dv 11) (dac (dv 8) da_nil))))) (dac (dv 9) da_nil))))) (dt_or1 (tcmp C.nox.nox.std (de_call F_behind C.nox.nox (by decide) (dac (dv 2) (dac (dv 3) (dac (de_un' (dv 11)) (dac (dv 9) da_nil))))) (dv 8))))).pt (dss_cons (ds_ret de_bool)
  dss_nil) dss_nil)
  (dss_cons (dset 12 nd (de_ix C.nox.nox.std (de_call F_law_spots C.nox.nox (by decide) (dac (dv 4) da_nil)) (de_call F_law_take C.nox.nox (by decide) (dac (dv 1) (dac (de_callB ok_len g.len bb_len (dac (dv 10) da_nil)) da_nil)))))
  (dss_cons (ds_if (dt_not (tval (de_call F_law_same C.nox.nox (by decide) (dac (de_call F_led C.nox.nox (by decide) (dac (dv 2) (dac (dv 3) (dac (dv 11) (dac (dv 12) da_nil))))) (dac (de_ix C.nox.nox.std (dv 10) (dv 12)) da_nil))))) (dss_cons (ds_ret de_bool)
  dss_nil) dss_nil)
  (dss_cons (ds_if (tcmp C.nox.nox.std (de_call F_led C.nox.nox (by decide) (dac (dv 2) (dac (dv 3) (dac (de_un' (dv 11)) (dac (de_ix C.nox.nox.std (dv 10) (dv 12)) da_nil))))) (dv 12)) (dss_cons (ds_ret de_bool)
  dss_nil) dss_nil)
  (dss_cons (dset 9 nd (de_call F_law_gone C.nox.nox (by decide) (dac (dv 2) (dac (dv 3) (dac (dv 9) da_nil)))))
  (dss_cons (dset 10 nd (de_callTy (ok_dict C.nox.nox.std) g.dict bb_dict (dac (de_lock (de_lc C.nox.nox.std.calm nd (di_dict (dv 10)) (blkOk_by (own := [(PySem.Str.ofString "one", 13)]) rfl) (by decide) (fun _ _ _ _ _ => (gn 13 nd)) (fun _ _ _ _ _ => tests0) (fun _ _ _ _ _ => (de_tup (dac (dv 13) (dac (de_call F_law_tick (C.nox.nox.blk _ _ _ _ _ _) (by decide) (dac (dv 2) (dac (dv 3) (dac (de_ix (C.nox.nox.blk _ _ _ _ _ _).std (dv 10) (dv 13)) da_nil)))) da_nil)))) (fun _ => rfl))) da_nil)))
  dss_nil)))))) (fun _ => rfl))
  dss_nil))))))) (fun _ => rfl))
  (dss_cons (ds_ret de_bool)
  dss_nil)))
theorem fe_law (g : Gs mg) (F_law_bags : FE P w K mg base 2 "_law_bags" P_law_bags sp_law_bags) (F_law_written : FE P w K mg base 10 "_law_written" P_law_written sp_law_written) (F_law_works : FE P w K mg base 3 "_law_works" P_law_works sp_law_works) (F_law_rounds : FE P w K mg base 2 "_law_rounds" P_law_rounds sp_law_rounds) (F_law_stand : FE P w K mg base 2 "_law_stand" P_law_stand sp_law_stand) (F_law_lot : FE P w K mg base 2 "_law_lot" P_law_lot sp_law_lot) (F_rounds : FE P w K mg base 9 "rounds" P_rounds sp_rounds) (F_law_gone : FE P w K mg base 2 "_law_gone" P_law_gone sp_law_gone) (F_law_take : FE P w K mg base 1 "_law_take" P_law_take sp_law_take) (F_law_spots : FE P w K mg base 1 "_law_spots" P_law_spots sp_law_spots) (F_law_same : FE P w K mg base 7 "_law_same" P_law_same sp_law_same) (F_led : FE P w K mg base 9 "led" P_led sp_led) (F_again : FE P w K mg base 9 "again" P_again sp_again) (F_law_all_back : FE P w K mg base 3 "_law_all_back" P_law_all_back sp_law_all_back) (F_behind : FE P w K mg base 9 "behind" P_behind sp_behind) (F_law_tick : FE P w K mg base 1 "_law_tick" P_law_tick sp_law_tick) (d : ∃ f fd, mg "law" = some (.ref f) ∧ FunD K "law" "law" (defArgs s_law) (defBody s_law) (defScope s_law) [] [] f fd) (m : Meets sp_law N_law P_law t_law) : FE P w K mg base 11 "law" P_law sp_law := by
  obtain ⟨f, fd, hm, F⟩ := d
  exact fe_of F sc_law hm (F.bindsN fun _ _ _ _ _ _ us hl => match us, hl with | [_], _ => rfl) m fun f cdv A outer s H E C => b_law g F_law_bags F_law_written F_law_works F_law_rounds F_law_stand F_law_lot F_rounds F_law_gone F_law_take F_law_spots F_law_same F_led F_again F_law_all_back F_behind F_law_tick C
end RD

set_option Elab.async false
set_option linter.all false
set_option maxRecDepth 100000
set_option maxHeartbeats 0
namespace RD
open PySem PySem.Spec L2 PyProof.Rows DL
theorem fnok_of {P : Program} {w : World} {K : PySem.W.Frag} {mg : Str → Option Value} {base : Heap} {N ps : List Str} {x : Str} {st : Stmt} {k : Nat} {sp : DSpec} {t : DTS} {f : Nat} {fd : FuncData} (F : FunD K x x (defArgs st) (defBody st) (defScope st) [] [] f fd) (S : FnScope N ps (defScope st)) (hsp : Meets sp N ps t)
    (hb : ∀ (f : Nat) (cdv : Value) (A : Around) (outer : List Env) (s : Shared) (H : Hp) (E : XK), Ctx (bodyX P w K mg base N x st f cdv A outer s H E) E k → PSs (bodyX P w K mg base N x st f cdv A outer s H E) (defBody st) (liftS ⟨P, w, K, mg⟩ E t)) : FnOk P w K mg base (L2.CX P w) (k + 1) f fd ps (liftSp ⟨P, w, K, mg⟩ sp) := by
  refine F.ok S (fun vs H Q E ⟨ds, M, Qd, Wd, r, m, q, _⟩ => by rw [← r.length]; exact (hsp ds M Qd Wd q).1) fun cdv A outer s H vs Q E hr ⟨ds, M, Qd, Wd, r, m, q, kt, kw⟩ => ⟨_, hb f cdv A outer s H E (ctx_body hr), ?_⟩
  exact ⟨dstart N ds, M, Wd, fnEnds Qd, ⟨er_start r, m, kw⟩, (hsp ds M Qd Wd q).2, ⟨fun δ σ H' M' mr er ev ⟨M2, sb, q2⟩ => kt _ _ H' M2 (mr.sub sb) .non (ev.sub sb) q2, fun d v H' M' mr rp ev ⟨M2, sb, q2⟩ => kt d v H' M2 (mr.sub sb) rp (ev.sub sb) q2, fun _ _ _ _ _ _ _ z => z.elim, fun _ _ _ _ _ _ _ z => z.elim⟩⟩
theorem FE.zero {P : Program} {w : World} {K : PySem.W.Frag} {mg : Str → Option Value} {base : Heap} {x : Str} {ps : List Str} {f : Nat} {fd : FuncData} (hm : mg x = some (.ref f)) (kp : PySem.W.keepIn K (.ref f) = true) (hb : Binds K fd ps []) : FE P w K mg base 0 x ps (spSame 0) :=
  ⟨f, fd, hm, kp, hb, ⟨fun vs H Q E ⟨_, _, _, _, _, _, z, _⟩ => z.elim, fun A outer s H args us vs Q E _ _ _ _ ⟨_, _, _, _, _, _, z, _⟩ => z.elim⟩⟩
def dd_law_well : He.DefD := ⟨("_law_well", none), "_law_well", "_law_well", defArgs s_law_well, defBody s_law_well, defScope s_law_well, [], []⟩
def dd_law_bags : He.DefD := ⟨("_law_bags", none), "_law_bags", "_law_bags", defArgs s_law_bags, defBody s_law_bags, defScope s_law_bags, [], []⟩
def dd_rises : He.DefD := ⟨("rises", none), "rises", "rises", defArgs s_rises, defBody s_rises, defScope s_rises, [], []⟩
def dd_is_whole : He.DefD := ⟨("is_whole", none), "is_whole", "is_whole", defArgs s_is_whole, defBody s_is_whole, defScope s_is_whole, [], []⟩
def dd_is_within : He.DefD := ⟨("is_within", none), "is_within", "is_within", defArgs s_is_within, defBody s_is_within, defScope s_is_within, [], []⟩
def dd_is_in : He.DefD := ⟨("is_in", none), "is_in", "is_in", defArgs s_is_in, defBody s_is_in, defScope s_is_in, [], []⟩
def dd_is_door : He.DefD := ⟨("is_door", none), "is_door", "is_door", defArgs s_is_door, defBody s_is_door, defScope s_is_door, [], []⟩
def dd_are_doors : He.DefD := ⟨("are_doors", none), "are_doors", "are_doors", defArgs s_are_doors, defBody s_are_doors, defScope s_are_doors, [], []⟩
def dd_are_rings : He.DefD := ⟨("are_rings", none), "are_rings", "are_rings", defArgs s_are_rings, defBody s_are_rings, defScope s_are_rings, [], []⟩
def dd_is_works : He.DefD := ⟨("is_works", none), "is_works", "is_works", defArgs s_is_works, defBody s_is_works, defScope s_is_works, [], []⟩
def dd_look_at_works : He.DefD := ⟨("look_at_works", none), "look_at_works", "look_at_works", defArgs s_look_at_works, defBody s_look_at_works, defScope s_look_at_works, [], []⟩
def dd_is_lot : He.DefD := ⟨("is_lot", none), "is_lot", "is_lot", defArgs s_is_lot, defBody s_is_lot, defScope s_is_lot, [], []⟩
def dd_look_at_lot : He.DefD := ⟨("look_at_lot", none), "look_at_lot", "look_at_lot", defArgs s_look_at_lot, defBody s_look_at_lot, defScope s_look_at_lot, [], []⟩
def dd_look_at_ticks : He.DefD := ⟨("look_at_ticks", none), "look_at_ticks", "look_at_ticks", defArgs s_look_at_ticks, defBody s_look_at_ticks, defScope s_look_at_ticks, [], []⟩
def dd_is_stand : He.DefD := ⟨("is_stand", none), "is_stand", "is_stand", defArgs s_is_stand, defBody s_is_stand, defScope s_is_stand, [], []⟩
def dd_look_at_stand : He.DefD := ⟨("look_at_stand", none), "look_at_stand", "look_at_stand", defArgs s_look_at_stand, defBody s_look_at_stand, defScope s_look_at_stand, [], []⟩
def dd_stand_led : He.DefD := ⟨("stand_led", none), "stand_led", "stand_led", defArgs s_stand_led, defBody s_stand_led, defScope s_stand_led, [], []⟩
def dd_spots_of : He.DefD := ⟨("spots_of", none), "spots_of", "spots_of", defArgs s_spots_of, defBody s_spots_of, defScope s_spots_of, [], []⟩
def dd_turned : He.DefD := ⟨("turned", none), "turned", "turned", defArgs s_turned, defBody s_turned, defScope s_turned, [], []⟩
def dd_through : He.DefD := ⟨("through", none), "through", "through", defArgs s_through, defBody s_through, defScope s_through, [], []⟩
def dd_tick_led : He.DefD := ⟨("tick_led", none), "tick_led", "tick_led", defArgs s_tick_led, defBody s_tick_led, defScope s_tick_led, [], []⟩
def dd_rounds_by : He.DefD := ⟨("rounds_by", none), "rounds_by", "rounds_by", defArgs s_rounds_by, defBody s_rounds_by, defScope s_rounds_by, [], []⟩
def dd_table_by : He.DefD := ⟨("table_by", none), "table_by", "table_by", defArgs s_table_by, defBody s_table_by, defScope s_table_by, [], []⟩
def dd_behind : He.DefD := ⟨("behind", none), "behind", "behind", defArgs s_behind, defBody s_behind, defScope s_behind, [], []⟩
def dd_rounds : He.DefD := ⟨("rounds", none), "rounds", "rounds", defArgs s_rounds, defBody s_rounds, defScope s_rounds, [], []⟩
def dd_gcd : He.DefD := ⟨("gcd", none), "gcd", "gcd", defArgs s_gcd, defBody s_gcd, defScope s_gcd, [], []⟩
def dd_common : He.DefD := ⟨("common", none), "common", "common", defArgs s_common, defBody s_common, defScope s_common, [], []⟩
def dd_again : He.DefD := ⟨("again", none), "again", "again", defArgs s_again, defBody s_again, defScope s_again, [], []⟩
def dd_law_written : He.DefD := ⟨("_law_written", none), "_law_written", "_law_written", defArgs s_law_written, defBody s_law_written, defScope s_law_written, [], []⟩
def dd_law_spots : He.DefD := ⟨("_law_spots", none), "_law_spots", "_law_spots", defArgs s_law_spots, defBody s_law_spots, defScope s_law_spots, [], []⟩
def dd_law_take : He.DefD := ⟨("_law_take", none), "_law_take", "_law_take", defArgs s_law_take, defBody s_law_take, defScope s_law_take, [], []⟩
def dd_law_doors : He.DefD := ⟨("_law_doors", none), "_law_doors", "_law_doors", defArgs s_law_doors, defBody s_law_doors, defScope s_law_doors, [], []⟩
def dd_law_works : He.DefD := ⟨("_law_works", none), "_law_works", "_law_works", defArgs s_law_works, defBody s_law_works, defScope s_law_works, [], []⟩
def dd_law_tick : He.DefD := ⟨("_law_tick", none), "_law_tick", "_law_tick", defArgs s_law_tick, defBody s_law_tick, defScope s_law_tick, [], []⟩
def dd_law_rounds : He.DefD := ⟨("_law_rounds", none), "_law_rounds", "_law_rounds", defArgs s_law_rounds, defBody s_law_rounds, defScope s_law_rounds, [], []⟩
def dd_law_stand : He.DefD := ⟨("_law_stand", none), "_law_stand", "_law_stand", defArgs s_law_stand, defBody s_law_stand, defScope s_law_stand, [], []⟩
def dd_law_lot : He.DefD := ⟨("_law_lot", none), "_law_lot", "_law_lot", defArgs s_law_lot, defBody s_law_lot, defScope s_law_lot, [], []⟩
def dd_law_gone : He.DefD := ⟨("_law_gone", none), "_law_gone", "_law_gone", defArgs s_law_gone, defBody s_law_gone, defScope s_law_gone, [], []⟩
def dd_law_same : He.DefD := ⟨("_law_same", none), "_law_same", "_law_same", defArgs s_law_same, defBody s_law_same, defScope s_law_same, [], []⟩
def dd_look_at_spot : He.DefD := ⟨("look_at_spot", none), "look_at_spot", "look_at_spot", defArgs s_look_at_spot, defBody s_look_at_spot, defScope s_look_at_spot, [], []⟩
def dd_led : He.DefD := ⟨("led", none), "led", "led", defArgs s_led, defBody s_led, defScope s_led, [], []⟩
def dd_law_all_back : He.DefD := ⟨("_law_all_back", none), "_law_all_back", "_law_all_back", defArgs s_law_all_back, defBody s_law_all_back, defScope s_law_all_back, [], []⟩
def dd_law : He.DefD := ⟨("law", none), "law", "law", defArgs s_law, defBody s_law, defScope s_law, [], []⟩
def fn : List He.DefD := [dd_law_well, dd_law_bags, dd_rises, dd_is_whole, dd_is_within, dd_is_in, dd_is_door, dd_are_doors, dd_are_rings, dd_is_works, dd_look_at_works, dd_is_lot, dd_look_at_lot, dd_look_at_ticks, dd_is_stand, dd_look_at_stand, dd_stand_led, dd_spots_of, dd_turned, dd_through, dd_tick_led, dd_rounds_by, dd_table_by, dd_behind, dd_rounds, dd_gcd, dd_common, dd_again, dd_law_written, dd_law_spots, dd_law_take, dd_law_doors, dd_law_works, dd_law_tick, dd_law_rounds, dd_law_stand, dd_law_lot, dd_law_gone, dd_law_same, dd_look_at_spot, dd_led, dd_law_all_back, dd_law]
def fa : List He.Fa := [.glo "_law_well", .glo "_law_bags", .glo "rises", .glo "is_whole", .glo "is_within", .glo "is_in", .glo "is_door", .glo "are_doors", .glo "are_rings", .glo "is_works", .glo "look_at_works", .glo "is_lot", .glo "look_at_lot", .glo "look_at_ticks", .glo "is_stand", .glo "look_at_stand", .glo "stand_led", .glo "spots_of", .glo "turned", .glo "through", .glo "tick_led", .glo "rounds_by", .glo "table_by", .glo "behind", .glo "rounds", .glo "gcd", .glo "common", .glo "again", .glo "_law_written", .glo "_law_spots"] ++ [.glo "_law_take", .glo "_law_doors", .glo "_law_works", .glo "_law_tick", .glo "_law_rounds", .glo "_law_stand", .glo "_law_lot", .glo "_law_gone", .glo "_law_same", .glo "look_at_spot", .glo "led", .glo "_law_all_back", .glo "law", .free "abs", .free "all", .free "bool", .free "dict", .free "enumerate", .free "int", .free "isinstance", .free "len", .free "list", .free "max", .free "min", .free "range", .free "sorted", .free "str", .free "sum", .free "tuple", .free "zip"] ++ [.int "MOST_DOORS" (6), .int "MOST_LENGTH" (40), .int "MOST_RINGS" (4), .int "MOST_SPOTS" (100), .int "MOST_THING" (999), .int "MOST_TICKS" (1000000000000000000000000000000)]
section
variable {P : Program} {w : World} {K : PySem.W.Frag} {h base : Heap} {mg : Str → Option Value}
theorem gs_of (X : K.In h) (G : h.Ns mainGlobals mg) (c : He.SaysD fa fn K) : Gs mg :=
  ⟨He.free_ok X G (c.fact 43 (f := .free "abs") rfl),
    He.free_ok X G (c.fact 44 (f := .free "all") rfl),
    He.free_ok X G (c.fact 45 (f := .free "bool") rfl),
    He.free_ok X G (c.fact 46 (f := .free "dict") rfl),
    He.free_ok X G (c.fact 47 (f := .free "enumerate") rfl),
    He.free_ok X G (c.fact 48 (f := .free "int") rfl),
    He.free_ok X G (c.fact 49 (f := .free "isinstance") rfl),
    He.free_ok X G (c.fact 50 (f := .free "len") rfl),
    He.free_ok X G (c.fact 51 (f := .free "list") rfl),
    He.free_ok X G (c.fact 52 (f := .free "max") rfl),
    He.free_ok X G (c.fact 53 (f := .free "min") rfl),
    He.free_ok X G (c.fact 54 (f := .free "range") rfl),
    He.free_ok X G (c.fact 55 (f := .free "sorted") rfl),
    He.free_ok X G (c.fact 56 (f := .free "str") rfl),
    He.free_ok X G (c.fact 57 (f := .free "sum") rfl),
    He.free_ok X G (c.fact 58 (f := .free "tuple") rfl),
    He.free_ok X G (c.fact 59 (f := .free "zip") rfl),
    He.int_ok X G (c.fact 60 (f := .int "MOST_DOORS" (6)) rfl),
    He.int_ok X G (c.fact 61 (f := .int "MOST_LENGTH" (40)) rfl),
    He.int_ok X G (c.fact 62 (f := .int "MOST_RINGS" (4)) rfl),
    He.int_ok X G (c.fact 63 (f := .int "MOST_SPOTS" (100)) rfl),
    He.int_ok X G (c.fact 64 (f := .int "MOST_THING" (999)) rfl),
    He.int_ok X G (c.fact 65 (f := .int "MOST_TICKS" (1000000000000000000000000000000)) rfl)⟩
theorem law_fn (X : K.In h) (G : h.Ns mainGlobals mg) (c : He.SaysD fa fn K) {fd : FuncData} (FL : FunD K "law" "law" (defArgs s_law) (defBody s_law) (defScope s_law) [] [] (He.ga K "law") fd) : FnOk P w K mg base (L2.CX P w) 11 (He.ga K "law") fd ["script"] (liftSp ⟨P, w, K, mg⟩ sp_law) := by
  have g := gs_of X G c
  have d_law_well : ∃ f fd, mg "_law_well" = some (.ref f) ∧ FunD K "_law_well" "_law_well" (defArgs s_law_well) (defBody s_law_well) (defScope s_law_well) [] [] f fd := by
    obtain ⟨fd, F⟩ := c.def_ 0 (d := dd_law_well) rfl
    exact ⟨_, fd, He.glo_ok X G (c.fact 0 (f := .glo "_law_well") rfl), F⟩
  have F_law_well := fe_law_well (P := P) (w := w) (base := base) g  d_law_well m_law_well
  have d_law_bags : ∃ f fd, mg "_law_bags" = some (.ref f) ∧ FunD K "_law_bags" "_law_bags" (defArgs s_law_bags) (defBody s_law_bags) (defScope s_law_bags) [] [] f fd := by
    obtain ⟨fd, F⟩ := c.def_ 1 (d := dd_law_bags) rfl
    exact ⟨_, fd, He.glo_ok X G (c.fact 1 (f := .glo "_law_bags") rfl), F⟩
  have F_law_bags := fe_law_bags (P := P) (w := w) (base := base) g F_law_well d_law_bags m_law_bags
  have d_rises : ∃ f fd, mg "rises" = some (.ref f) ∧ FunD K "rises" "rises" (defArgs s_rises) (defBody s_rises) (defScope s_rises) [] [] f fd := by
    obtain ⟨fd, F⟩ := c.def_ 2 (d := dd_rises) rfl
    exact ⟨_, fd, He.glo_ok X G (c.fact 2 (f := .glo "rises") rfl), F⟩
  have F_rises := fe_rises (P := P) (w := w) (base := base) g  d_rises m_rises
  have d_is_whole : ∃ f fd, mg "is_whole" = some (.ref f) ∧ FunD K "is_whole" "is_whole" (defArgs s_is_whole) (defBody s_is_whole) (defScope s_is_whole) [] [] f fd := by
    obtain ⟨fd, F⟩ := c.def_ 3 (d := dd_is_whole) rfl
    exact ⟨_, fd, He.glo_ok X G (c.fact 3 (f := .glo "is_whole") rfl), F⟩
  have F_is_whole := fe_is_whole (P := P) (w := w) (base := base) g  d_is_whole m_is_whole
  have d_is_within : ∃ f fd, mg "is_within" = some (.ref f) ∧ FunD K "is_within" "is_within" (defArgs s_is_within) (defBody s_is_within) (defScope s_is_within) [] [] f fd := by
    obtain ⟨fd, F⟩ := c.def_ 4 (d := dd_is_within) rfl
    exact ⟨_, fd, He.glo_ok X G (c.fact 4 (f := .glo "is_within") rfl), F⟩
  have F_is_within := fe_is_within (P := P) (w := w) (base := base) g F_is_whole d_is_within m_is_within
  have d_is_in : ∃ f fd, mg "is_in" = some (.ref f) ∧ FunD K "is_in" "is_in" (defArgs s_is_in) (defBody s_is_in) (defScope s_is_in) [] [] f fd := by
    obtain ⟨fd, F⟩ := c.def_ 5 (d := dd_is_in) rfl
    exact ⟨_, fd, He.glo_ok X G (c.fact 5 (f := .glo "is_in") rfl), F⟩
  have F_is_in := fe_is_in (P := P) (w := w) (base := base) g F_is_within d_is_in m_is_in
  have d_is_door : ∃ f fd, mg "is_door" = some (.ref f) ∧ FunD K "is_door" "is_door" (defArgs s_is_door) (defBody s_is_door) (defScope s_is_door) [] [] f fd := by
    obtain ⟨fd, F⟩ := c.def_ 6 (d := dd_is_door) rfl
    exact ⟨_, fd, He.glo_ok X G (c.fact 6 (f := .glo "is_door") rfl), F⟩
  have F_is_door := fe_is_door (P := P) (w := w) (base := base) g F_is_in d_is_door m_is_door
  have d_are_doors : ∃ f fd, mg "are_doors" = some (.ref f) ∧ FunD K "are_doors" "are_doors" (defArgs s_are_doors) (defBody s_are_doors) (defScope s_are_doors) [] [] f fd := by
    obtain ⟨fd, F⟩ := c.def_ 7 (d := dd_are_doors) rfl
    exact ⟨_, fd, He.glo_ok X G (c.fact 7 (f := .glo "are_doors") rfl), F⟩
  have F_are_doors := fe_are_doors (P := P) (w := w) (base := base) g F_rises F_is_door d_are_doors m_are_doors
  have d_are_rings : ∃ f fd, mg "are_rings" = some (.ref f) ∧ FunD K "are_rings" "are_rings" (defArgs s_are_rings) (defBody s_are_rings) (defScope s_are_rings) [] [] f fd := by
    obtain ⟨fd, F⟩ := c.def_ 8 (d := dd_are_rings) rfl
    exact ⟨_, fd, He.glo_ok X G (c.fact 8 (f := .glo "are_rings") rfl), F⟩
  have F_are_rings := fe_are_rings (P := P) (w := w) (base := base) g F_is_within d_are_rings m_are_rings
  have d_is_works : ∃ f fd, mg "is_works" = some (.ref f) ∧ FunD K "is_works" "is_works" (defArgs s_is_works) (defBody s_is_works) (defScope s_is_works) [] [] f fd := by
    obtain ⟨fd, F⟩ := c.def_ 9 (d := dd_is_works) rfl
    exact ⟨_, fd, He.glo_ok X G (c.fact 9 (f := .glo "is_works") rfl), F⟩
  have F_is_works := fe_is_works (P := P) (w := w) (base := base) g F_are_doors F_are_rings d_is_works m_is_works
  have d_look_at_works : ∃ f fd, mg "look_at_works" = some (.ref f) ∧ FunD K "look_at_works" "look_at_works" (defArgs s_look_at_works) (defBody s_look_at_works) (defScope s_look_at_works) [] [] f fd := by
    obtain ⟨fd, F⟩ := c.def_ 10 (d := dd_look_at_works) rfl
    exact ⟨_, fd, He.glo_ok X G (c.fact 10 (f := .glo "look_at_works") rfl), F⟩
  have F_look_at_works := fe_look_at_works (P := P) (w := w) (base := base) g F_is_works d_look_at_works m_look_at_works
  have d_is_lot : ∃ f fd, mg "is_lot" = some (.ref f) ∧ FunD K "is_lot" "is_lot" (defArgs s_is_lot) (defBody s_is_lot) (defScope s_is_lot) [] [] f fd := by
    obtain ⟨fd, F⟩ := c.def_ 11 (d := dd_is_lot) rfl
    exact ⟨_, fd, He.glo_ok X G (c.fact 11 (f := .glo "is_lot") rfl), F⟩
  have F_is_lot := fe_is_lot (P := P) (w := w) (base := base) g F_rises F_is_within d_is_lot m_is_lot
  have d_look_at_lot : ∃ f fd, mg "look_at_lot" = some (.ref f) ∧ FunD K "look_at_lot" "look_at_lot" (defArgs s_look_at_lot) (defBody s_look_at_lot) (defScope s_look_at_lot) [] [] f fd := by
    obtain ⟨fd, F⟩ := c.def_ 12 (d := dd_look_at_lot) rfl
    exact ⟨_, fd, He.glo_ok X G (c.fact 12 (f := .glo "look_at_lot") rfl), F⟩
  have F_look_at_lot := fe_look_at_lot (P := P) (w := w) (base := base) g F_look_at_works F_is_lot d_look_at_lot m_look_at_lot
  have d_look_at_ticks : ∃ f fd, mg "look_at_ticks" = some (.ref f) ∧ FunD K "look_at_ticks" "look_at_ticks" (defArgs s_look_at_ticks) (defBody s_look_at_ticks) (defScope s_look_at_ticks) [] [] f fd := by
    obtain ⟨fd, F⟩ := c.def_ 13 (d := dd_look_at_ticks) rfl
    exact ⟨_, fd, He.glo_ok X G (c.fact 13 (f := .glo "look_at_ticks") rfl), F⟩
  have F_look_at_ticks := fe_look_at_ticks (P := P) (w := w) (base := base) g F_is_within d_look_at_ticks m_look_at_ticks
  have d_is_stand : ∃ f fd, mg "is_stand" = some (.ref f) ∧ FunD K "is_stand" "is_stand" (defArgs s_is_stand) (defBody s_is_stand) (defScope s_is_stand) [] [] f fd := by
    obtain ⟨fd, F⟩ := c.def_ 14 (d := dd_is_stand) rfl
    exact ⟨_, fd, He.glo_ok X G (c.fact 14 (f := .glo "is_stand") rfl), F⟩
  have F_is_stand := fe_is_stand (P := P) (w := w) (base := base) g F_is_within d_is_stand m_is_stand
  have d_look_at_stand : ∃ f fd, mg "look_at_stand" = some (.ref f) ∧ FunD K "look_at_stand" "look_at_stand" (defArgs s_look_at_stand) (defBody s_look_at_stand) (defScope s_look_at_stand) [] [] f fd := by
    obtain ⟨fd, F⟩ := c.def_ 15 (d := dd_look_at_stand) rfl
    exact ⟨_, fd, He.glo_ok X G (c.fact 15 (f := .glo "look_at_stand") rfl), F⟩
  have F_look_at_stand := fe_look_at_stand (P := P) (w := w) (base := base) g F_is_stand d_look_at_stand m_look_at_stand
  have d_stand_led : ∃ f fd, mg "stand_led" = some (.ref f) ∧ FunD K "stand_led" "stand_led" (defArgs s_stand_led) (defBody s_stand_led) (defScope s_stand_led) [] [] f fd := by
    obtain ⟨fd, F⟩ := c.def_ 16 (d := dd_stand_led) rfl
    exact ⟨_, fd, He.glo_ok X G (c.fact 16 (f := .glo "stand_led") rfl), F⟩
  have F_stand_led := fe_stand_led (P := P) (w := w) (base := base) g  d_stand_led m_stand_led
  have d_spots_of : ∃ f fd, mg "spots_of" = some (.ref f) ∧ FunD K "spots_of" "spots_of" (defArgs s_spots_of) (defBody s_spots_of) (defScope s_spots_of) [] [] f fd := by
    obtain ⟨fd, F⟩ := c.def_ 17 (d := dd_spots_of) rfl
    exact ⟨_, fd, He.glo_ok X G (c.fact 17 (f := .glo "spots_of") rfl), F⟩
  have F_spots_of := fe_spots_of (P := P) (w := w) (base := base) g  d_spots_of m_spots_of
  have d_turned : ∃ f fd, mg "turned" = some (.ref f) ∧ FunD K "turned" "turned" (defArgs s_turned) (defBody s_turned) (defScope s_turned) [] [] f fd := by
    obtain ⟨fd, F⟩ := c.def_ 18 (d := dd_turned) rfl
    exact ⟨_, fd, He.glo_ok X G (c.fact 18 (f := .glo "turned") rfl), F⟩
  have F_turned := fe_turned (P := P) (w := w) (base := base) g  d_turned m_turned
  have d_through : ∃ f fd, mg "through" = some (.ref f) ∧ FunD K "through" "through" (defArgs s_through) (defBody s_through) (defScope s_through) [] [] f fd := by
    obtain ⟨fd, F⟩ := c.def_ 19 (d := dd_through) rfl
    exact ⟨_, fd, He.glo_ok X G (c.fact 19 (f := .glo "through") rfl), F⟩
  have F_through := fe_through (P := P) (w := w) (base := base) g  d_through m_through
  have d_tick_led : ∃ f fd, mg "tick_led" = some (.ref f) ∧ FunD K "tick_led" "tick_led" (defArgs s_tick_led) (defBody s_tick_led) (defScope s_tick_led) [] [] f fd := by
    obtain ⟨fd, F⟩ := c.def_ 20 (d := dd_tick_led) rfl
    exact ⟨_, fd, He.glo_ok X G (c.fact 20 (f := .glo "tick_led") rfl), F⟩
  have F_tick_led := fe_tick_led (P := P) (w := w) (base := base) g F_turned F_through d_tick_led m_tick_led
  have d_rounds_by : ∃ f fd, mg "rounds_by" = some (.ref f) ∧ FunD K "rounds_by" "rounds_by" (defArgs s_rounds_by) (defBody s_rounds_by) (defScope s_rounds_by) [] [] f fd := by
    obtain ⟨fd, F⟩ := c.def_ 21 (d := dd_rounds_by) rfl
    exact ⟨_, fd, He.glo_ok X G (c.fact 21 (f := .glo "rounds_by") rfl), F⟩
  have F_rounds_by := fe_rounds_by (P := P) (w := w) (base := base) g F_spots_of F_tick_led d_rounds_by m_rounds_by
  have d_table_by : ∃ f fd, mg "table_by" = some (.ref f) ∧ FunD K "table_by" "table_by" (defArgs s_table_by) (defBody s_table_by) (defScope s_table_by) [] [] f fd := by
    obtain ⟨fd, F⟩ := c.def_ 22 (d := dd_table_by) rfl
    exact ⟨_, fd, He.glo_ok X G (c.fact 22 (f := .glo "table_by") rfl), F⟩
  have F_table_by := fe_table_by (P := P) (w := w) (base := base) g F_rounds_by d_table_by m_table_by
  have d_behind : ∃ f fd, mg "behind" = some (.ref f) ∧ FunD K "behind" "behind" (defArgs s_behind) (defBody s_behind) (defScope s_behind) [] [] f fd := by
    obtain ⟨fd, F⟩ := c.def_ 23 (d := dd_behind) rfl
    exact ⟨_, fd, He.glo_ok X G (c.fact 23 (f := .glo "behind") rfl), F⟩
  have F_behind := fe_behind (P := P) (w := w) (base := base) g F_look_at_lot F_look_at_ticks F_look_at_stand F_stand_led F_table_by d_behind m_behind
  have d_rounds : ∃ f fd, mg "rounds" = some (.ref f) ∧ FunD K "rounds" "rounds" (defArgs s_rounds) (defBody s_rounds) (defScope s_rounds) [] [] f fd := by
    obtain ⟨fd, F⟩ := c.def_ 24 (d := dd_rounds) rfl
    exact ⟨_, fd, He.glo_ok X G (c.fact 24 (f := .glo "rounds") rfl), F⟩
  have F_rounds := fe_rounds (P := P) (w := w) (base := base) g F_look_at_lot F_rounds_by d_rounds m_rounds
  have d_gcd : ∃ f fd, mg "gcd" = some (.ref f) ∧ FunD K "gcd" "gcd" (defArgs s_gcd) (defBody s_gcd) (defScope s_gcd) [] [] f fd := by
    obtain ⟨fd, F⟩ := c.def_ 25 (d := dd_gcd) rfl
    exact ⟨_, fd, He.glo_ok X G (c.fact 25 (f := .glo "gcd") rfl), F⟩
  have F_gcd := fe_gcd (P := P) (w := w) (base := base) g  d_gcd m_gcd
  have d_common : ∃ f fd, mg "common" = some (.ref f) ∧ FunD K "common" "common" (defArgs s_common) (defBody s_common) (defScope s_common) [] [] f fd := by
    obtain ⟨fd, F⟩ := c.def_ 26 (d := dd_common) rfl
    exact ⟨_, fd, He.glo_ok X G (c.fact 26 (f := .glo "common") rfl), F⟩
  have F_common := fe_common (P := P) (w := w) (base := base) g F_gcd d_common m_common
  have d_again : ∃ f fd, mg "again" = some (.ref f) ∧ FunD K "again" "again" (defArgs s_again) (defBody s_again) (defScope s_again) [] [] f fd := by
    obtain ⟨fd, F⟩ := c.def_ 27 (d := dd_again) rfl
    exact ⟨_, fd, He.glo_ok X G (c.fact 27 (f := .glo "again") rfl), F⟩
  have F_again := fe_again (P := P) (w := w) (base := base) g F_look_at_lot F_rounds_by F_common d_again m_again
  have d_law_written : ∃ f fd, mg "_law_written" = some (.ref f) ∧ FunD K "_law_written" "_law_written" (defArgs s_law_written) (defBody s_law_written) (defScope s_law_written) [] [] f fd := by
    obtain ⟨fd, F⟩ := c.def_ 28 (d := dd_law_written) rfl
    exact ⟨_, fd, He.glo_ok X G (c.fact 28 (f := .glo "_law_written") rfl), F⟩
  have F_law_written := fe_law_written (P := P) (w := w) (base := base) g F_behind F_rounds F_again d_law_written m_law_written
  have d_law_spots : ∃ f fd, mg "_law_spots" = some (.ref f) ∧ FunD K "_law_spots" "_law_spots" (defArgs s_law_spots) (defBody s_law_spots) (defScope s_law_spots) [] [] f fd := by
    obtain ⟨fd, F⟩ := c.def_ 29 (d := dd_law_spots) rfl
    exact ⟨_, fd, He.glo_ok X G (c.fact 29 (f := .glo "_law_spots") rfl), F⟩
  have F_law_spots := fe_law_spots (P := P) (w := w) (base := base) g  d_law_spots m_law_spots
  have d_law_take : ∃ f fd, mg "_law_take" = some (.ref f) ∧ FunD K "_law_take" "_law_take" (defArgs s_law_take) (defBody s_law_take) (defScope s_law_take) [] [] f fd := by
    obtain ⟨fd, F⟩ := c.def_ 30 (d := dd_law_take) rfl
    exact ⟨_, fd, He.glo_ok X G (c.fact 30 (f := .glo "_law_take") rfl), F⟩
  have F_law_take := fe_law_take (P := P) (w := w) (base := base) g  d_law_take m_law_take
  have d_law_doors : ∃ f fd, mg "_law_doors" = some (.ref f) ∧ FunD K "_law_doors" "_law_doors" (defArgs s_law_doors) (defBody s_law_doors) (defScope s_law_doors) [] [] f fd := by
    obtain ⟨fd, F⟩ := c.def_ 31 (d := dd_law_doors) rfl
    exact ⟨_, fd, He.glo_ok X G (c.fact 31 (f := .glo "_law_doors") rfl), F⟩
  have F_law_doors := fe_law_doors (P := P) (w := w) (base := base) g F_law_spots F_law_take d_law_doors m_law_doors
  have d_law_works : ∃ f fd, mg "_law_works" = some (.ref f) ∧ FunD K "_law_works" "_law_works" (defArgs s_law_works) (defBody s_law_works) (defScope s_law_works) [] [] f fd := by
    obtain ⟨fd, F⟩ := c.def_ 32 (d := dd_law_works) rfl
    exact ⟨_, fd, He.glo_ok X G (c.fact 32 (f := .glo "_law_works") rfl), F⟩
  have F_law_works := fe_law_works (P := P) (w := w) (base := base) g F_law_doors F_law_take d_law_works m_law_works
  have d_law_tick : ∃ f fd, mg "_law_tick" = some (.ref f) ∧ FunD K "_law_tick" "_law_tick" (defArgs s_law_tick) (defBody s_law_tick) (defScope s_law_tick) [] [] f fd := by
    obtain ⟨fd, F⟩ := c.def_ 33 (d := dd_law_tick) rfl
    exact ⟨_, fd, He.glo_ok X G (c.fact 33 (f := .glo "_law_tick") rfl), F⟩
  have F_law_tick := fe_law_tick (P := P) (w := w) (base := base) g  d_law_tick m_law_tick
  have d_law_rounds : ∃ f fd, mg "_law_rounds" = some (.ref f) ∧ FunD K "_law_rounds" "_law_rounds" (defArgs s_law_rounds) (defBody s_law_rounds) (defScope s_law_rounds) [] [] f fd := by
    obtain ⟨fd, F⟩ := c.def_ 34 (d := dd_law_rounds) rfl
    exact ⟨_, fd, He.glo_ok X G (c.fact 34 (f := .glo "_law_rounds") rfl), F⟩
  have F_law_rounds := fe_law_rounds (P := P) (w := w) (base := base) g F_law_spots F_law_tick d_law_rounds m_law_rounds
  have d_law_stand : ∃ f fd, mg "_law_stand" = some (.ref f) ∧ FunD K "_law_stand" "_law_stand" (defArgs s_law_stand) (defBody s_law_stand) (defScope s_law_stand) [] [] f fd := by
    obtain ⟨fd, F⟩ := c.def_ 35 (d := dd_law_stand) rfl
    exact ⟨_, fd, He.glo_ok X G (c.fact 35 (f := .glo "_law_stand") rfl), F⟩
  have F_law_stand := fe_law_stand (P := P) (w := w) (base := base) g F_law_take d_law_stand m_law_stand
  have d_law_lot : ∃ f fd, mg "_law_lot" = some (.ref f) ∧ FunD K "_law_lot" "_law_lot" (defArgs s_law_lot) (defBody s_law_lot) (defScope s_law_lot) [] [] f fd := by
    obtain ⟨fd, F⟩ := c.def_ 36 (d := dd_law_lot) rfl
    exact ⟨_, fd, He.glo_ok X G (c.fact 36 (f := .glo "_law_lot") rfl), F⟩
  have F_law_lot := fe_law_lot (P := P) (w := w) (base := base) g F_law_take d_law_lot m_law_lot
  have d_law_gone : ∃ f fd, mg "_law_gone" = some (.ref f) ∧ FunD K "_law_gone" "_law_gone" (defArgs s_law_gone) (defBody s_law_gone) (defScope s_law_gone) [] [] f fd := by
    obtain ⟨fd, F⟩ := c.def_ 37 (d := dd_law_gone) rfl
    exact ⟨_, fd, He.glo_ok X G (c.fact 37 (f := .glo "_law_gone") rfl), F⟩
  have F_law_gone := fe_law_gone (P := P) (w := w) (base := base) g F_law_spots F_law_tick d_law_gone m_law_gone
  have d_law_same : ∃ f fd, mg "_law_same" = some (.ref f) ∧ FunD K "_law_same" "_law_same" (defArgs s_law_same) (defBody s_law_same) (defScope s_law_same) [] [] f fd := by
    obtain ⟨fd, F⟩ := c.def_ 38 (d := dd_law_same) rfl
    exact ⟨_, fd, He.glo_ok X G (c.fact 38 (f := .glo "_law_same") rfl), F⟩
  have Z0 : FE P w K mg base 0 "_law_same" P_law_same (spSame 0) := by
    obtain ⟨f, fd, hm, F⟩ := d_law_same
    exact FE.zero hm F.kp (F.bindsN fun _ _ _ _ _ _ us hl => match us, hl with | [_, _], _ => rfl)
  have Z1 := fe_law_same (sp := spSame 1) g Z0 d_law_same (m_law_same 0 (by decide))
  have Z2 := fe_law_same (sp := spSame 2) g Z1 d_law_same (m_law_same 1 (by decide))
  have Z3 := fe_law_same (sp := spSame 3) g Z2 d_law_same (m_law_same 2 (by decide))
  have Z4 := fe_law_same (sp := spSame 4) g Z3 d_law_same (m_law_same 3 (by decide))
  have Z5 := fe_law_same (sp := spSame 5) g Z4 d_law_same (m_law_same 4 (by decide))
  have Z6 := fe_law_same (sp := spSame 6) g Z5 d_law_same (m_law_same 5 (by decide))
  have Z7 := fe_law_same (sp := spSame 7) g Z6 d_law_same (m_law_same 6 (by decide))
  have F_law_same : FE P w K mg base 7 "_law_same" P_law_same sp_law_same := Z7
  have d_look_at_spot : ∃ f fd, mg "look_at_spot" = some (.ref f) ∧ FunD K "look_at_spot" "look_at_spot" (defArgs s_look_at_spot) (defBody s_look_at_spot) (defScope s_look_at_spot) [] [] f fd := by
    obtain ⟨fd, F⟩ := c.def_ 39 (d := dd_look_at_spot) rfl
    exact ⟨_, fd, He.glo_ok X G (c.fact 39 (f := .glo "look_at_spot") rfl), F⟩
  have F_look_at_spot := fe_look_at_spot (P := P) (w := w) (base := base) g F_is_in d_look_at_spot m_look_at_spot
  have d_led : ∃ f fd, mg "led" = some (.ref f) ∧ FunD K "led" "led" (defArgs s_led) (defBody s_led) (defScope s_led) [] [] f fd := by
    obtain ⟨fd, F⟩ := c.def_ 40 (d := dd_led) rfl
    exact ⟨_, fd, He.glo_ok X G (c.fact 40 (f := .glo "led") rfl), F⟩
  have F_led := fe_led (P := P) (w := w) (base := base) g F_look_at_lot F_look_at_ticks F_look_at_spot F_table_by d_led m_led
  have d_law_all_back : ∃ f fd, mg "_law_all_back" = some (.ref f) ∧ FunD K "_law_all_back" "_law_all_back" (defArgs s_law_all_back) (defBody s_law_all_back) (defScope s_law_all_back) [] [] f fd := by
    obtain ⟨fd, F⟩ := c.def_ 41 (d := dd_law_all_back) rfl
    exact ⟨_, fd, He.glo_ok X G (c.fact 41 (f := .glo "_law_all_back") rfl), F⟩
  have F_law_all_back := fe_law_all_back (P := P) (w := w) (base := base) g F_law_rounds d_law_all_back m_law_all_back
  exact fnok_of FL sc_law m_law fun f cdv A outer s H E C => b_law g F_law_bags F_law_written F_law_works F_law_rounds F_law_stand F_law_lot F_rounds F_law_gone F_law_take F_law_spots F_law_same F_led F_again F_law_all_back F_behind F_law_tick C
end
abbrev R : PySem.W.OpenRow := PySem.W.OpenLaw.row PySem.Challenge.rw_ringdoors_k02_ticks_one_by_one
abbrev hk : PySem.W.Hook := He.hookD 4 fa fn
def ob (s : PySem.W.SharedT) : He.AlD := He.obsDG 4 fa fn (HandSHeadRun.getT s)
theorem ob_is (s : PySem.W.SharedT) : ob s = hk.obs s.abs := He.obsDG_eq (HandSHeadRun.getT_eq s)
theorem ints_rp {K : PySem.W.Frag} {H : Hp} : ∀ ns : List Int, Rps K H (ns.map D.int) (ns.map V.int)
  | [] => .nil
  | n :: ns => .cons (.int n) (ints_rp ns)
theorem law_end {P : Program} {w : World} {K : PySem.W.Frag} {mg : Str → Option Value} {H : Hp} {a : Addr} {ns : List Int} (hl : ns.length ≤ 63) (hO : Only H) (hS : SqL K H a (ns.map V.int)) : liftSp ⟨P, w, K, mg⟩ sp_law [.ref a] H (fun v _ => v = .bl true) fun _ _ _ => False := by
  have cs : CsL K H a (ns.map V.int) := by
    rcases hS with r | r
    · rcases r with r | ⟨o, r⟩
      · rcases hO a with z | ⟨o, xs, z⟩
        · rw [z] at r; cases r
        · rw [z] at r; cases r
      · exact .inl ⟨o, r⟩
    · exact .inr r
  refine ⟨[.cst (ns.map D.int)], fun _ => none, fun d _ => d = .bl true, W0, .cons (.cst cs (ints_rp ns)) .nil, (fun _ _ e => by cases e), ⟨ns, rfl, hl, fun _ => rfl⟩, ?_, fun _ _ _ _ _ _ _ _ z => z⟩
  intro d v H' M' _ rp _ e
  subst e
  cases rp
  rfl
theorem walk_at {ol : PySem.W.OpenLaw} {m room : Nat} {pv : Program} {nms : List Str} {XQ : (Str → Option Value) → Heap → Prop} {YQ : World → Heap → Prop} {dr : DefRec} {CW : World → CXT} {arg : Str} (h1 : ol.most = some m) (h2 : m ≤ sizeLine) (h3 : dr.params.defaults = []) (h4 : Room room callerA)
    (all : ∀ (w : World) (gl : Str → Option Value) (at_ : Addr) (hp : Heap), YQ w hp → hp.Ns mainGlobals gl → gl dr.name = some (.ref at_) → ∃ (K : PySem.W.Frag) (fd : FuncData) (sp : L2.Sp), K.In hp ∧ (∀ (s : Shared) (u : Value), BindsTo s fd ⟨[u], []⟩ [(arg, u)]) ∧ (∀ (H : Hp) (a : Addr) (ns : List Int), ns.length ≤ m → Only H → SqL K H a (ns.map V.int) → sp [.ref a] H (fun v _ => v = .bl true) fun _ _ _ => False) ∧ ∀ b0 : Heap, K.In b0 → b0.Ns mainGlobals gl → FnOk ol.prog w K gl b0 (CW w) room at_ fd [arg] sp)
    (noX : ∀ (w : World) (H : Hp) (s : Shared) (e : Value) (s' : Shared), CW w [] H s (fun _ _ _ => False) e s' → False) : PySem.W.WalkO pv nms XQ YQ ol.row.toRowW dr [] (fun fv us => PySem.call fv us) := by
  refine Att.attach_call h1 h3 fun w sA sB gl mb at_ o1 o2 o3 o4 a us ns GG YY q1 q2 q3 q4 q5 q6 q7 q8 => ?_
  obtain ⟨K, fd, sp, kin, bnd, pr, fnk⟩ := all w gl at_ _ YY GG.T.g q4
  exact law_call kin GG.T.g GG.T.b GG.T.builtins GG.T.nolimit q8 q5 q6 (Nat.le_trans q7 h2) h4 fnk bnd (fun H y1 y2 => pr H a ns q7 y1 y2) fun H e sC => noX w H sB e sC
end RD

set_option Elab.async false
set_option linter.all false
set_option maxRecDepth 100000
set_option maxHeartbeats 0
namespace RD
open PySem PySem.Spec L2 PyProof.Rows DL
def lo : List Str := (["RingError", "NoWorks", "NoLot", "NoSpot", "NoTicks", "NoStand", "MOST_RINGS", "MOST_LENGTH", "MOST_SPOTS", "MOST_DOORS", "MOST_TICKS", "is_whole", "is_within", "gcd", "rises", "are_rings", "is_in", "is_door", "are_doors", "is_works", "is_lot", "look_at_works", "look_at_lot", "look_at_spot", "look_at_ticks", "spots_of", "turned", "through"] : List Str) ++ (["tick_led", "MOST_THING", "rounds_by", "rounds", "common", "again", "table_by", "led", "is_stand", "look_at_stand", "stand_led", "behind", "_law_well", "_law_take", "_law_bags", "_law_same", "_law_spots", "_law_doors", "_law_works", "_law_lot", "_law_tick", "_law_rounds", "_law_stand", "_law_gone", "_law_all_back", "_law_written"] : List Str)
theorem runs (w : World) : HandSHeadRun.RunEq R (PySem.W.view R.prog [58]) hk ob 6000 lo w := by
  intro os
  kernel_rfl
end RD

set_option Elab.async false
set_option linter.all false
set_option maxRecDepth 100000
set_option maxHeartbeats 0
namespace RD
open PySem PySem.Spec L2 PyProof.Rows DL
theorem law_place {K : PySem.W.Frag} {h : Heap} {mg : Str → Option Value} {f : Addr} (KX : K.In h) (G : h.Ns mainGlobals mg) (c : He.SaysD fa fn K) (hm : mg ("law" : Str) = some (.ref f)) : f = He.ga K "law" := by
  have ea := hm.symm.trans (He.glo_ok KX G (c.fact 42 (f := .glo "law") rfl))
  injection ea with ea
  injection ea
end RD
open PySem PySem.W PySem.Calls PyProof.Rows
theorem PySem.Challenge.cw_ringdoors_k02_ticks_one_by_one_holds : PySem.Challenge.rw_ringdoors_k02_ticks_one_by_one.Holds := by
  w_on; o_law
  refine HandSHeadRun.head_any (r := OpenLaw.row PySem.Challenge.rw_ringdoors_k02_ticks_one_by_one) (q := view (OpenLaw.row PySem.Challenge.rw_ringdoors_k02_ticks_one_by_one).prog [58]) (H := RD.hk) (ob := RD.ob) (M := 6000) (loose := RD.lo)
    (d := HandSHeadRun.topDef (OpenLaw.row PySem.Challenge.rw_ringdoors_k02_ticks_one_by_one).prog 58) (kwd := []) RD.ob_is (by kernel_rfl) (fun s => by kernel_rfl) RD.runs (by kernel_rfl)
    (by kernel_rfl) (by kernel_rfl) (by rfl) (by first | assumption | decide +kernel) (by decide +kernel) ⟨rfl, rfl, rfl, rfl, rfl, by decide +kernel⟩ ?hw ?hc
  case hw => w_witness2
  case hc =>
    refine RD.walk_at (ol := PySem.Challenge.rw_ringdoors_k02_ticks_one_by_one) (m := 63) (room := 11) (arg := "script") (CW := fun w => L2.CX (PySem.Challenge.rw_ringdoors_k02_ticks_one_by_one).prog w) rfl (by decide) (by kernel_rfl) ⟨rfl, by decide, by decide⟩ ?F ?nox
    case F =>
      intro w mg fa h Y G hm0
      obtain ⟨K, KX, c⟩ := Y
      have hm : mg ("law" : PySem.Str) = some (.ref fa) := by
        have e : (HandSHeadRun.topDef (OpenLaw.row PySem.Challenge.rw_ringdoors_k02_ticks_one_by_one).prog 58).name = ("law" : PySem.Str) := by kernel_rfl
        rw [← e]
        exact hm0
      have ea := RD.law_place KX G c hm
      subst ea
      obtain ⟨fd, F⟩ := c.def_ 42 (d := RD.dd_law) rfl
      have bn := L2.FunD.bindsA (ps := ["script"]) F fun _ _ _ _ _ _ us hl => match us, hl with | [_], _ => rfl
      exact ⟨K, fd, _, KX, fun s v => bn s [v] rfl, fun H a ns hl hO hS => RD.law_end hl hO hS, fun base _ _ => RD.law_fn KX G c F⟩
    case nox =>
      intro w H s e s' z
      obtain ⟨_, _, _, _, _, _, _, _, _, _, _, _, z⟩ := z
      exact z

