import PyProof.Rows.All
import Wide.All
import OpenK.AllK
import Wide.FinOn
import HandS.ForMost
import HandS.ForExc
import HandS.Comp
import HandS.Iter
import HandS.Lambda
import HandS.NestedK
import HandS.EndTab
import HandS.HeadHook3
import HandS.HeadWalk
import HandS.TryMany
import HandS.CallSlots
import HandS.SortKw
import HandS.Zip
import HandS.Rev
import HandS.TupAny
import HandS.TupMul
import HandS.Wide
import HandS.Flow
import HandS.Style
import HandS.DeepEq
import HandS.ExcSuper
import HandS.SuiteRaise
import KE.SortData
import KE.SortKeyHeap
import HandS.GenList
import HandS.JoinGen
import HandS.MapSum
import PyProof.SumAny
import HandS.Small
import HandS.WordsDict
import HandS.RaiseMore
import HandS.Conv
import HandS.More
import KE.DataMinMax
import HandS.Defaults
import HandS.HeadHook4
import PyProof.ExcBaseAll.ValueError
import HandS.Flt
import HandS.Strs
import HandS.ListItems
import HandS.StrMore
import HandS.StrSplit
import HandS.Text
import KE.DataFind
import HandS.ExcValue
import HandS.NoneIn
import KE.KDictZip
import KE.KDictExact
import KE.GoesMore
import HandS.TupLen
import HandS.DictTup
import HandS.SetKeys
import KE.KDictCopyH
import KE.KDictDisplayH
import HandS.ReplaceLit
import HandS.ReplaceList
import HandS.ReplaceDef
import HandS.DictSubView0
import KE.KExcSuper
import HandS.ExcIs
import HandS.Head0
import HandS.Head1
import HandS.Head2
import HandS.HeadEnd
import PySem.Challenge.RW_saddlehall_k21_refusals_apart
set_option Elab.async false
set_option linter.all false
set_option maxRecDepth 100000
set_option maxHeartbeats 4000000
namespace SPF
open PySem PySem.Spec PyProof.Rows L2 RZ
/-! ### tuples made anew, of which one knows that they carry no attributes -/
def NwT (H : Hp) (xs : List V) (Q : VK) : Prop := ∀ p o, o.dict = none → H p = none → Q (.ref p) (upd H p (.frz o (.tup xs)))
section
variable {X : Cx}
theorem laidT {pins : List (Addr × Obj)} {σ : L2.St} {H : Hp} {s : Shared} (I : Inv X pins σ H s) {xs : List V} {its : List Value} (r : Vals xs its) (hz : xs.length ≤ sizeLine) {h' : Heap} {a : Addr} {t' : Nat} {o : Obj} {n : Nat} (k : ∀ b u, s.heap.get? b = some u → h'.get? b = some u)
    (hp : s.heap.objs.size ≤ a) (e : h'.get? a = some o) (hc : o.cls = .type "tuple") (hd : o.data = .seq its.toArray n) : Inv X pins σ (upd H a (.frz o (.tup xs))) { s with heap := h', toks := t' } :=
  I.laid (t' := t') k hp ⟨e, hz, its, r, o, e, hc, n, hd⟩
section
variable {es : List Expr} {t : TA} {pos : Pos}
def tTupF (t : TA) : TE := fun σ H Q => t σ H fun xs H1 => xs.length ≤ sizeLine ∧ NwT H1 xs Q
theorem pe_tupF {x1} (h : PA X es t) : PE X (.Tuple es x1 pos) (tTupF t) := by
  refine ⟨fun pins s σ H Q I hq => ?_⟩
  refine wpAny_Tuple_spliced (thn (h.run pos pins s σ H _ I hq) fun us s1 ⟨xs, H1, I1, r, z, q⟩ => ⟨by rw [← r.length]; exact z, ?_⟩)
  have hf : H1 s1.heap.objs.size = none := I1.hok.fresh (Nat.le_refl _)
  exact ⟨.ref s1.heap.objs.size, _, laidT (t' := s1.toks) I1 r z (fun b u e => Heap.get?_push_of_some _ e) (Nat.le_refl _) (Heap.get?_push_size _ rfl) rfl rfl, rfl, q _ _ rfl hf⟩
end
def rCatF (K : PySem.W.Frag) : R2 := fun x y H Q => ∃ a b xs ys, x = .ref a ∧ y = .ref b ∧ SqT K H a xs ∧ SqT K H b ys ∧ xs.length + ys.length ≤ sizeLine ∧
  (xs = [] → Q (.ref b) H) ∧ (xs ≠ [] → ys = [] → Q (.ref a) H) ∧ (xs ≠ [] → ys ≠ [] → NwT H (xs ++ ys) Q)
theorem op_catF : OpR X (binaryOp .Add) (rCatF X.K) := by
  intro pins s σ H x y v u Q I rx ry h
  obtain ⟨a, b, xs, ys, rfl, rfl, ha, hb, hz, q0, q1, q2⟩ := h
  cases rx
  cases ry
  obtain ⟨its, r1, p1, _⟩ := I.tuple ha
  obtain ⟨its2, r2, p2, _⟩ := I.tuple hb
  by_cases hx : xs = []
  · subst hx
    cases r1
    exact cat_tup0 p1 p2 ⟨.ref b, H, I, rfl, q0 rfl⟩
  · refine HT.cat_tup p1 p2 (fun z => hx (r1.nil_iff.mp z)) (fun z => ⟨.ref a, H, I, rfl, q1 hx (r2.nil_iff.mp z)⟩) (fun z => ?_) (by rw [← r1.length, ← r2.length]; exact hz)
    exact ⟨.ref s.heap.objs.size, _, laidT (t' := s.toks) I (r1.append r2) (by rw [List.length_append]; exact hz) (fun b ob q => Heap.get?_push_of_some _ q) (Nat.le_refl _) (Heap.get?_push_size _ rfl) rfl rfl, rfl, q2 hx (fun w => z (r2.nil_iff.mpr w)) _ _ rfl (I.hok.fresh (Nat.le_refl _))⟩
def rSlF (K : PySem.W.Frag) : V → Option Int → Option Int → Hp → VK → Prop := fun x lo hi H Q => ∃ a xs, x = .ref a ∧ SqT K H a xs ∧
  (HT.sIx xs.length 0 lo = 0 ∧ HT.sIx xs.length xs.length hi = xs.length → Q (.ref a) H) ∧ (¬ (HT.sIx xs.length 0 lo = 0 ∧ HT.sIx xs.length xs.length hi = xs.length) → NwT H (cutV xs lo hi) Q)
theorem sl_tupF : SlR X (rSlF X.K) := by
  intro pins s σ H x v vl vu lo hi sl Q I rx hs pl pu h
  obtain ⟨a, xs, rfl, hx, q1, q2⟩ := h
  cases rx
  obtain ⟨its, r, ht, hz⟩ := I.tuple hx
  have hlen : its.toArray.size = xs.length := by rw [List.size_toArray]; exact r.length.symm
  refine ⟨"tuple", _, PyProof.Rows.slot_tuple_getitem.lookup, ht.typeIs, ?_⟩
  by_cases hw : HT.sIx xs.length 0 lo = 0 ∧ HT.sIx xs.length xs.length hi = xs.length
  · exact getItem_tuple_whole ht hs pl pu (by rw [hlen]; exact hw) ⟨.ref a, H, I, rfl, q1 hw⟩
  · refine HT.getItem_tuple_cut ht hs pl pu (by rw [hlen]; exact hw) ?_ (by rw [hlen]; exact hz)
    rw [hlen]
    exact ⟨.ref s.heap.objs.size, _, laidT (t' := s.toks) I ((r.drop (HT.sIx xs.length 0 lo)).take (HT.sIx xs.length xs.length hi - HT.sIx xs.length 0 lo)) (Nat.le_trans (cutV_length xs lo hi) hz) (fun b ob q => Heap.get?_push_of_some _ q) (Nat.le_refl _) (Heap.get?_push_size _ rfl) rfl rfl, rfl, q2 hw _ _ rfl (I.hok.fresh (Nat.le_refl _))⟩
def rRepF (K : PySem.W.Frag) : R2 := fun x y H Q => ∃ l k xs, x = .ref l ∧ y = .int k ∧ SqT K H l xs ∧ xs ≠ [] ∧ 2 ≤ k ∧ k ≤ 1000 ∧ xs.length ≤ 1000 ∧ NwT H (List.replicate k.toNat xs).flatten Q
theorem op_repF : OpR X (binaryOp .Mult) (rRepF X.K) := by
  intro pins s σ H x y v u Q I rx ry h
  obtain ⟨l, k, xs, rfl, rfl, hT, hne, h1, h2, hz, q⟩ := h
  cases rx
  obtain ⟨t, rfl⟩ := ry
  obtain ⟨its, r, ⟨⟨cls, dd, data, sl⟩, ho, hc, n, hd⟩, hs⟩ := I.tuple hT
  simp only at hc hd
  subst hc hd
  have hle : its.length = xs.length := r.length.symm
  have hn : its ≠ [] := fun e => hne (by
    rw [e] at hle
    exact List.eq_nil_of_length_eq_zero hle.symm)
  have hi : its.toArray.isEmpty = false := by
    cases its with
    | nil => exact absurd rfl hn
    | cons a b => rfl
  have hsz0 : its.toArray.size = xs.length := by rw [List.size_toArray, hle]
  have hm : ((its.toArray.size : Nat) : Int) * k ≤ 1000000 := by
    rw [hsz0]
    have a1 : ((xs.length : Nat) : Int) * k ≤ 1000 * k := Int.mul_le_mul_of_nonneg_right (by omega) (by omega)
    omega
  have flen : (List.replicate k.toNat its).flatten.length ≤ sizeLine := by
    rw [PyProof.Rows.lm_len_rep_flat, hle, sizeLine_eq]
    have a1 : k.toNat * xs.length ≤ 1000 * 1000 := Nat.mul_le_mul (by omega) hz
    omega
  have c0 : (decide (k < -(2 ^ 63)) || decide (k ≥ 2 ^ 63)) = false := by
    rw [decide_eq_false (by omega), decide_eq_false (by omega)] <;> rfl
  have c1 : (its.toArray.isEmpty || k == 1) = false := by
    rw [hi, Bool.false_or]
    exact beq_eq_false_iff_ne.mpr (by omega)
  have c2 : (decide (k ≤ 0) || its.toArray.isEmpty) = false := by
    rw [hi, Bool.or_false]
    exact decide_eq_false (by omega)
  have c4 : Builtin.Tuple.tupleTooMany (((its.toArray.size : Nat) : Int) * k) = false := by
    unfold Builtin.Tuple.tupleTooMany
    rw [sizeLine_eq]
    exact decide_eq_false (by omega)
  refine wpAny_binaryOp_repeat_ref (T := "tuple") (U := "int") (by decide) ⟨_, ho, rfl⟩ (fun s' => typeIs_int s' k t) noFill_tuple_mul F.fills_int_mul F.slot_int_rmul repeat_tuple F.slot_int_index.lookup
    (call_meets F.slot_int_rmul (typeIs_int s k t) F.entry_int_rmul (F.args_int_rmul_2 _ _) (int_rmul_tuple k t l its.toArray n dd sl)
      ⟨ho, rfl, ⟨_, ho, rfl⟩, call_meets F.slot_tuple_mul ⟨_, ho, rfl⟩ F.entry_tuple_mul (F.args_tuple_mul_2 _ _) (tuple_mulW l its.toArray n dd sl k t c0 c1 c2 (by omega) c4 (by rw [size_rep, List.size_toArray]; exact flen)) ⟨ho, ?_⟩⟩)
  rw [size_rep]
  have flen2 : (List.replicate k.toNat xs).flatten.length ≤ sizeLine := by
    rw [PyProof.Rows.lm_len_rep_flat, sizeLine_eq]
    have a1 : k.toNat * xs.length ≤ 1000 * 1000 := Nat.mul_le_mul (by omega) hz
    omega
  exact ⟨.ref s.heap.objs.size, _, laidT (t' := s.toks) I (r.rep k.toNat) flen2 (fun b ob q => Heap.get?_push_of_some _ q) (Nat.le_refl _) (Heap.get?_push_size _ rfl) rfl rfl, rfl, q _ _ rfl (I.hok.fresh (Nat.le_refl _))⟩
theorem call_tupleF : CallR X (.type "tuple") (fun xs H Q => ∃ p ys, xs = [.ref p] ∧ ((SqL X.K H p ys ∧ NwT H ys Q) ∨ (SqT X.K H p ys ∧ Q (.ref p) H))) := by
  intro pins s σ H xs us Q I r h
  obtain ⟨p, ys, rfl, h⟩ := h
  obtain ⟨u, rfl, rx⟩ := vals1 r
  cases rx
  rcases h with ⟨hq, q⟩ | ⟨hq, q⟩
  · obtain ⟨its, r', pl, hz⟩ := I.list hq
    have hlen := r'.length
    refine call_tuple_list pl.isList (fun h' kp => ?_) (by simp only [List.size_toArray] <;> omega)
    have I1 : Inv X pins σ H { s with heap := h' } := I.kept (t' := s.toks) kp
    exact ⟨.ref h'.objs.size, _, laidT (t' := s.toks) I1 r' hz (fun b o e => Heap.get?_push_of_some _ e) (Nat.le_refl _) (Heap.get?_push_size _ rfl) rfl rfl, rfl, q _ _ rfl (I1.hok.fresh (Nat.le_refl _))⟩
  · obtain ⟨its, r', pl, hz⟩ := I.tuple hq
    exact call_tuple_same pl ⟨.ref p, H, I, rfl, q⟩
end
/-! ### zip: its pairs -/
def ItzF (K : PySem.W.Frag) (a b : Addr) : It :=
  ⟨(ItzT K a b).go, fun i H v H' => ∃ T o x y, v = .ref T ∧ o.dict = none ∧ H T = none ∧ H' = upd H T (.frz o (.tup [x, y])) ∧ (∀ xs, SqT K H a xs → xs[i]? = some x) ∧ ∀ ys, SqT K H b ys → ys[i]? = some y, (ItzT K a b).stop⟩
def ItlF (K : PySem.W.Frag) (a b : Addr) : It :=
  ⟨(Itz K a b).go, fun i H v H' => ∃ T o x y, v = .ref T ∧ o.dict = none ∧ H T = none ∧ H' = upd H T (.frz o (.tup [x, y])) ∧ (∀ xs, SqL K H a xs → xs[i]? = some x) ∧ ∀ ys, SqL K H b ys → ys[i]? = some y, (Itz K a b).stop⟩
def iZipF (K : PySem.W.Frag) (ta : TA) : TI := fun σ H R => ta σ H fun vs H1 => ∃ a b xs ys, vs = [.ref a, .ref b] ∧ ((SqL K H1 a xs ∧ SqL K H1 b ys ∧ R (ItlF K a b) H1) ∨ (SqT K H1 a xs ∧ SqT K H1 b ys ∧ R (ItzF K a b) H1))
/-! ### d.items(), enumerate(xs) -/
def ItiF (d : Addr) (o : Obj) (kvs : List (Key × V)) : It :=
  ⟨(Iti d o kvs).go, fun i H x H' => ∃ T ob k v, kvs[i]? = some (k, v) ∧ x = .ref T ∧ ob.dict = none ∧ H T = none ∧ H' = upd H T (.frz ob (.tup [kV k, v])), (Iti d o kvs).stop⟩
def iItemsF (td : TE) : TI := fun σ H R => td σ H fun x H1 => ∃ d o kvs, x = .ref d ∧ H1 d = some (.frz o (.dK kvs)) ∧ R (ItiF d o kvs) H1
def IteF (K : PySem.W.Frag) (a : Addr) : It :=
  ⟨(Ite K a).go, fun i H v H' => ∃ T o x, v = .ref T ∧ o.dict = none ∧ H T = none ∧ H' = upd H T (.frz o (.tup [.int (i : Nat), x])) ∧ ∀ xs, SqL K H a xs → xs[i]? = some x, (Ite K a).stop⟩
def iEnumF (K : PySem.W.Frag) (ta : TA) : TI := fun σ H R => ta σ H fun vs H1 => ∃ a xs, vs = [.ref a] ∧ SqL K H1 a xs ∧ R (IteF K a) H1
end SPF
namespace SP
open PySem PySem.Spec PyProof.Rows L2
/-! ### trees -/
/-- a value as a tree: what is frozen is told whole; mut n: the n-th mutable object -/
inductive T where
  | non | bl (b : Bool) | int (i : Int) | str (s : Str) | tup (xs : List T) | lst (xs : List T) | dct (kvs : List (T × T)) | dcu (kvs : List (T × T)) | ins (c : Str) (fs : List (Str × T)) | obj (n : Nat) | fz (xs : List T)
abbrev Store := List (Option T)
/-- the mutable objects by number (alive or not, where), and those that a comprehension is filling -/
structure Nu where
  l : List (Bool × Addr)
  hid : List Addr
/-- what stands at a is frozen -/
def Fz (ν : Nu) (a : Addr) : Prop := (true, a) ∉ ν.l ∧ a ∉ ν.hid
abbrev TEnv := List (Option T)
/-- how a computation ends -/
inductive R (α : Type) where
  | ok (a : α) (q : Store)
  | exc (c : Str) (fs : List (Str × T)) (q : Store)
  | stuck
def R.bind {α β : Type} (r : R α) (f : α → Store → R β) : R β := match r with
  | .ok a q => f a q
  | .exc c fs q => .exc c fs q
  | .stuck => .stuck
@[simp] theorem bind_ok {α β : Type} (a : α) (q : Store) (f : α → Store → R β) : (R.ok a q).bind f = f a q := rfl
@[simp] theorem bind_exc {α β : Type} (c : Str) (fs : List (Str × T)) (q : Store) (f : α → Store → R β) : (R.exc c fs q : R α).bind f = .exc c fs q := rfl
@[simp] theorem bind_stuck {α β : Type} (f : α → Store → R β) : (R.stuck : R α).bind f = .stuck := rfl
/-- the classes by names; the tables of code objects -/
structure Lx where
  cl : Str → Option Addr
  tabs : List NdefX.NTab
  pw : Program × World
def KT (K : PySem.W.Frag) (a : Addr) (xs : List V) : Prop :=
  ∃ (o : Obj) (its : Array Value) (n : Nat), K.lookup a = some o ∧ o.cls = .type "tuple" ∧ o.dict = none ∧ o.data = .seq its n ∧ its.size ≤ sizeLine ∧ Vals xs its.toList
/-- a list of the module's own -/
def KL (K : PySem.W.Frag) (a : Addr) (xs : List V) : Prop :=
  ∃ (o : Obj) (its : Array Value) (n : Nat), K.lookup a = some o ∧ o.cls = .type "list" ∧ o.dict = none ∧ o.data = .seq its n ∧ its.size ≤ sizeLine ∧ Vals xs its.toList
def kT : Key → T
  | .inl i => .int i
  | .inr s => .str s
/-- the object of a dict with tuple keys -/
def TDx (pw : Program × World) (o : Obj) (xs : List (List Key × Addr × Value)) : Prop :=
  o.ExactDict ∧ (∃ es ep, o.data = .dict es ep ∧ es.toList = xs.map (entryOfKey (tupleKind (mixKind pw.1 pw.2)))) ∧ (xs.map (·.1)).Nodup ∧ xs.length ≤ sizeLine
abbrev DX (b : Addr) (o : Obj) : HO := .ext fun h => h.get? b = some o ∧ (b == sysModules) = false
mutual
/-- the tree t is what the value v stands for -/
inductive Rep (K : PySem.W.Frag) (L : Lx) (ν : Nu) (H : Hp) : T → V → Prop where
  | non : Rep K L ν H .non .non
  | bl (b : Bool) : Rep K L ν H (.bl b) (.bl b)
  | int (i : Int) : Rep K L ν H (.int i) (.int i)
  | str (s : Str) : Rep K L ν H (.str s) (.str s)
  | tup {a : Addr} {o : Obj} {xs : List V} {ts : List T} (n : Fz ν a) (h : H a = some (.frz o (.tup xs))) (d : o.dict = none) (r : Reps K L ν H ts xs) : Rep K L ν H (.tup ts) (.ref a)
  | tupK {a : Addr} {xs : List V} {ts : List T} (h : KT K a xs) (r : Reps K L ν H ts xs) : Rep K L ν H (.tup ts) (.ref a)
  | lst {a : Addr} {xs : List V} {ts : List T} (n : Fz ν a) (h : H a = some (.lst xs)) (r : Reps K L ν H ts xs) : Rep K L ν H (.lst ts) (.ref a)
  | fz {a : Addr} {o : Obj} {xs : List V} {ts : List T} (n : Fz ν a) (h : H a = some (.frz o (.lst xs))) (r : Reps K L ν H ts xs) : Rep K L ν H (.fz ts) (.ref a)
  | fzK {a : Addr} {xs : List V} {ts : List T} (h : KL K a xs) (r : Reps K L ν H ts xs) : Rep K L ν H (.fz ts) (.ref a)
  | dctK {a : Addr} {kvs : List (Key × V)} {ts : List (T × T)} (n : Fz ν a) (h : Rd H a (.dK kvs)) (r : RepK K L ν H ts kvs) : Rep K L ν H (.dct ts) (.ref a)
  | dctT {a b : Addr} {o : Obj} {xs : List (List Key × Addr × Value)} {ts : List (T × T)} (n : Fz ν a) (h : H a = some (DX b o)) (d : TDx L.pw o xs) (r : RepT K L ν H ts xs) : Rep K L ν H (.dcu ts) (.ref a)
  | ins {a C dx : Addr} {fs : List (Str × V)} {c : Str} {ts : List (Str × T)} (n : Fz ν a) (h : H a = some (.ins C dx fs)) (hc : L.cl c = some C) (r : RepF K L ν H ts fs) : Rep K L ν H (.ins c ts) (.ref a)
  | obj {n : Nat} {b : Bool} {a : Addr} (h : ν.l[n]? = some (b, a)) : Rep K L ν H (.obj n) (.ref a)
inductive Reps (K : PySem.W.Frag) (L : Lx) (ν : Nu) (H : Hp) : List T → List V → Prop where
  | nil : Reps K L ν H [] []
  | cons {t : T} {v : V} {ts : List T} {vs : List V} (h : Rep K L ν H t v) (r : Reps K L ν H ts vs) : Reps K L ν H (t :: ts) (v :: vs)
inductive RepF (K : PySem.W.Frag) (L : Lx) (ν : Nu) (H : Hp) : List (Str × T) → List (Str × V) → Prop where
  | nil : RepF K L ν H [] []
  | cons {f : Str} {t : T} {v : V} {ts : List (Str × T)} {vs : List (Str × V)} (h : Rep K L ν H t v) (r : RepF K L ν H ts vs) : RepF K L ν H ((f, t) :: ts) ((f, v) :: vs)
inductive RepK (K : PySem.W.Frag) (L : Lx) (ν : Nu) (H : Hp) : List (T × T) → List (Key × V) → Prop where
  | nil : RepK K L ν H [] []
  | cons {k : Key} {t : T} {v : V} {ts : List (T × T)} {vs : List (Key × V)} (h : Rep K L ν H t v) (r : RepK K L ν H ts vs) : RepK K L ν H ((kT k, t) :: ts) ((k, v) :: vs)
inductive RepT (K : PySem.W.Frag) (L : Lx) (ν : Nu) (H : Hp) : List (T × T) → List (List Key × Addr × Value) → Prop where
  | nil : RepT K L ν H [] []
  | cons {k : List Key} {b : Addr} {w : Value} {t : T} {v : V} {ts : List (T × T)} {vs : List (List Key × Addr × Value)} (hk : Rep K L ν H (.tup (k.map kT)) (.ref b)) (h : Rep K L ν H t v) (rv : RelV v w) (r : RepT K L ν H ts vs) : RepT K L ν H ((.tup (k.map kT), t) :: ts) ((k, b, w) :: vs)
end
/-- what the trees lean on stays -/
structure Tr (ν : Nu) (H : Hp) (ν' : Nu) (H' : Hp) : Prop where
  keep : ∀ a o, H a = some o → Fz ν a → (∀ ps, o ≠ .tbl ps) → (∀ kvs, o ≠ .dK kvs) → H' a = some o
  keepD : ∀ a kvs, Rd H a (.dK kvs) → Fz ν a → Rd H' a (.dK kvs)
  none : ∀ a, H' a = none → H a = none
  nu : ∀ (n : Nat) b a, ν.l[n]? = some (b, a) → ∃ b', ν'.l[n]? = some (b', a)
  old : ∀ a, Fz ν a → H a ≠ Option.none → Fz ν' a
theorem Tr.notIn {ν ν' : Nu} {H H' : Hp} (f : Tr ν H ν' H') {a : Addr} {o : HO} (h : H a = some o) (n : Fz ν a) : Fz ν' a := f.old a n (by rw [h]; nofun)
theorem Tr.trans {ν ν' ν'' : Nu} {H H' H'' : Hp} (f : Tr ν H ν' H') (g : Tr ν' H' ν'' H'') : Tr ν H ν'' H'' where
  keep := fun a o h n t k => g.keep a o (f.keep a o h n t k) (f.notIn h n) t k
  keepD := fun a kvs h n => g.keepD a kvs (f.keepD a kvs h n) (by
    rcases h with h | ⟨o, h⟩
    · exact f.notIn h n
    · exact f.notIn h n)
  none := fun a h => f.none a (g.none a h)
  nu := fun n b a h => by
    obtain ⟨b', h'⟩ := f.nu n b a h
    exact g.nu n b' a h'
  old := fun a n h => g.old a (f.old a n h) (fun e => h (f.none a e))
theorem Tr.refl (ν : Nu) (H : Hp) : Tr ν H ν H := ⟨fun _ _ h _ _ _ => h, fun _ _ h _ => h, fun _ h => h, fun _ b _ h => ⟨b, h⟩, fun _ h _ => h⟩
/-- what may come: what is frozen stays; the mutable ones stand where they stood; what a comprehension fills is left alone -/
structure Fut (ν : Nu) (H : Hp) (ν' : Nu) (H' : Hp) : Prop extends Tr ν H ν' H' where
  hid : ν'.hid = ν.hid
  keepH : ∀ a ∈ ν.hid, ∀ o, H a = some o → (∀ ps, o ≠ .tbl ps) → H' a = some o
theorem Fut.refl (ν : Nu) (H : Hp) : Fut ν H ν H := ⟨Tr.refl ν H, rfl, fun _ _ _ h _ => h⟩
theorem Fut.notIn {ν ν' : Nu} {H H' : Hp} (f : Fut ν H ν' H') {a : Addr} {o : HO} (h : H a = some o) (n : Fz ν a) : Fz ν' a := f.toTr.notIn h n
theorem Fut.trans {ν ν' ν'' : Nu} {H H' H'' : Hp} (f : Fut ν H ν' H') (g : Fut ν' H' ν'' H'') : Fut ν H ν'' H'' where
  toTr := f.toTr.trans g.toTr
  hid := g.hid.trans f.hid
  keepH := fun a m o h t => g.keepH a (by rw [f.hid]; exact m) o (f.keepH a m o h t) t
section
variable {K : PySem.W.Frag} {L : Lx} {ν ν' : Nu} {H H' : Hp}
theorem Tr.rdD (f : Tr ν H ν' H') {a : Addr} {kvs : List (Key × V)} (h : Rd H a (.dK kvs)) (n : Fz ν a) : Fz ν' a := by
  rcases h with h | ⟨o, h⟩
  · exact f.notIn h n
  · exact f.notIn h n
mutual
theorem Rep.tr (f : Tr ν H ν' H') : ∀ {t : T} {v : V}, Rep K L ν H t v → Rep K L ν' H' t v
  | _, _, .non => .non
  | _, _, .bl b => .bl b
  | _, _, .int b => .int b
  | _, _, .str b => .str b
  | _, _, .tup n h d r => .tup (f.notIn h n) (f.keep _ _ h n nofun nofun) d (Reps.tr f r)
  | _, _, .tupK h r => .tupK h (Reps.tr f r)
  | _, _, .lst n h r => .lst (f.notIn h n) (f.keep _ _ h n nofun nofun) (Reps.tr f r)
  | _, _, .fz n h r => .fz (f.notIn h n) (f.keep _ _ h n nofun nofun) (Reps.tr f r)
  | _, _, .fzK h r => .fzK h (Reps.tr f r)
  | _, _, .dctK n h r => .dctK (f.rdD h n) (f.keepD _ _ h n) (RepK.tr f r)
  | _, _, .dctT n h d r => .dctT (f.notIn h n) (f.keep _ _ h n nofun nofun) d (RepT.tr f r)
  | _, _, .ins n h hc r => .ins (f.notIn h n) (f.keep _ _ h n nofun nofun) hc (RepF.tr f r)
  | _, _, .obj h => by
    obtain ⟨b', h'⟩ := f.nu _ _ _ h
    exact .obj h'
theorem Reps.tr (f : Tr ν H ν' H') : ∀ {t : List T} {v : List V}, Reps K L ν H t v → Reps K L ν' H' t v
  | _, _, .nil => .nil
  | _, _, .cons h r => .cons (Rep.tr f h) (Reps.tr f r)
theorem RepF.tr (f : Tr ν H ν' H') : ∀ {t : List (Str × T)} {v : List (Str × V)}, RepF K L ν H t v → RepF K L ν' H' t v
  | _, _, .nil => .nil
  | _, _, .cons h r => .cons (Rep.tr f h) (RepF.tr f r)
theorem RepK.tr (f : Tr ν H ν' H') : ∀ {t : List (T × T)} {v : List (Key × V)}, RepK K L ν H t v → RepK K L ν' H' t v
  | _, _, .nil => .nil
  | _, _, .cons h r => .cons (Rep.tr f h) (RepK.tr f r)
theorem RepT.tr (f : Tr ν H ν' H') : ∀ {t : List (T × T)} {v : List (List Key × Addr × Value)}, RepT K L ν H t v → RepT K L ν' H' t v
  | _, _, .nil => .nil
  | _, _, .cons hk h rv r => .cons (Rep.tr f hk) (Rep.tr f h) rv (RepT.tr f r)
end
theorem Rep.fut (f : Fut ν H ν' H') {t : T} {v : V} (r : Rep K L ν H t v) : Rep K L ν' H' t v := r.tr f.toTr
theorem Reps.fut (f : Fut ν H ν' H') {t : List T} {v : List V} (r : Reps K L ν H t v) : Reps K L ν' H' t v := r.tr f.toTr
theorem RepF.fut (f : Fut ν H ν' H') {t : List (Str × T)} {v : List (Str × V)} (r : RepF K L ν H t v) : RepF K L ν' H' t v := r.tr f.toTr
theorem RepK.fut (f : Fut ν H ν' H') {t : List (T × T)} {v : List (Key × V)} (r : RepK K L ν H t v) : RepK K L ν' H' t v := r.tr f.toTr
theorem RepT.fut (f : Fut ν H ν' H') {t : List (T × T)} {v : List (List Key × Addr × Value)} (r : RepT K L ν H t v) : RepT K L ν' H' t v := r.tr f.toTr
end
end SP

namespace SP
open PySem PySem.Spec PyProof.Rows L2
/-- what a mutable object holds -/
inductive CellRep (K : PySem.W.Frag) (L : Lx) (ν : Nu) (H : Hp) : T → HO → Prop where
  | lst {ts : List T} {xs : List V} (r : Reps K L ν H ts xs) : CellRep K L ν H (.lst ts) (.lst xs)
  | dctK {ts : List (T × T)} {kvs : List (Key × V)} (r : RepK K L ν H ts kvs) : CellRep K L ν H (.dct ts) (.dK kvs)
  | dctT {ts : List (T × T)} {b : Addr} {o : Obj} {xs : List (List Key × Addr × Value)} (d : TDx L.pw o xs) (r : RepT K L ν H ts xs) : CellRep K L ν H (.dcu ts) (DX b o)
  | ins {C dx : Addr} {fs : List (Str × V)} {c : Str} {ts : List (Str × T)} (hc : L.cl c = some C) (r : RepF K L ν H ts fs) : CellRep K L ν H (.ins c ts) (.ins C dx fs)
theorem CellRep.tr {K : PySem.W.Frag} {L : Lx} {ν ν' : Nu} {H H' : Hp} (f : Tr ν H ν' H') {t : T} {o : HO} (h : CellRep K L ν H t o) : CellRep K L ν' H' t o := by
  cases h with
  | lst r => exact .lst (r.tr f)
  | dctK r => exact .dctK (r.tr f)
  | dctT d r => exact .dctT d (r.tr f)
  | ins hc r => exact .ins hc (r.tr f)
theorem CellRep.fut {K : PySem.W.Frag} {L : Lx} {ν ν' : Nu} {H H' : Hp} (f : Fut ν H ν' H') {t : T} {o : HO} (h : CellRep K L ν H t o) : CellRep K L ν' H' t o := h.tr f.toTr
structure SimQ (K : PySem.W.Frag) (L : Lx) (ν : Nu) (q : Store) (H : Hp) : Prop where
  len : ν.l.length = q.length
  cells : ∀ (n : Nat) c, q[n]? = some (some c) → ∃ a o, ν.l[n]? = some (true, a) ∧ H a = some o ∧ CellRep K L ν H c o
  dead : ∀ (n : Nat) a, ν.l[n]? = some (true, a) → ∃ c, q[n]? = some (some c)
  inj : ∀ (i j : Nat) a, ν.l[i]? = some (true, a) → ν.l[j]? = some (true, a) → i = j
  tabs : NdefX.TabsN L.tabs H
  hidOk : ∀ a ∈ ν.hid, H a ≠ Option.none ∧ (true, a) ∉ ν.l
/-- the store as it was, the heap grown by what is new -/
structure New (H H' : Hp) : Prop where
  keep : ∀ a o, H a = some o → H' a = some o
  none : ∀ a, H' a = none → H a = none
theorem New.refl (H : Hp) : New H H := ⟨fun _ _ h => h, fun _ h => h⟩
theorem New.trans {H H1 H2 : Hp} (a : New H H1) (b : New H1 H2) : New H H2 := ⟨fun x o h => b.keep x o (a.keep x o h), fun x h => a.none x (b.none x h)⟩
theorem New.upd {H : Hp} {p : Addr} {o : HO} (h : H p = Option.none) : New H (upd H p o) :=
  ⟨fun a u e => by rw [upd_ne (fun z => by subst z; rw [h] at e; cases e)]; exact e, fun a e => by
    by_cases z : a = p
    · subst z; exact h
    · rw [upd_ne z] at e; exact e⟩
theorem New.fut {H H' : Hp} (n : New H H') (ν : Nu) : Fut ν H ν H' := ⟨⟨fun a o h _ _ _ => n.keep a o h, fun a kvs h _ => h.elim (fun h => .inl (n.keep _ _ h)) fun ⟨o, h⟩ => .inr ⟨o, n.keep _ _ h⟩, n.none, fun _ b _ h => ⟨b, h⟩, fun _ h _ => h⟩, rfl, fun a _ o h _ => n.keep a o h⟩
section
variable {K : PySem.W.Frag} {L : Lx} {ν : Nu} {q : Store} {H H' : Hp}
theorem SimQ.new (s : SimQ K L ν q H) (n : New H H') : SimQ K L ν q H' where
  len := s.len
  cells := fun i c e => by
    obtain ⟨a, o, h1, h2, h3⟩ := s.cells i c e
    exact ⟨a, o, h1, n.keep _ _ h2, h3.fut (n.fut ν)⟩
  dead := s.dead
  inj := s.inj
  tabs := NdefX.TabsN.ext s.tabs n.keep
  hidOk := fun a m => ⟨fun e => (s.hidOk a m).1 (n.none a e), (s.hidOk a m).2⟩
theorem SimQ.notIn_none (s : SimQ K L ν q H) {p : Addr} (h : H p = none) : Fz ν p := by
  refine ⟨fun m => ?_, fun m => (s.hidOk p m).1 h⟩
  obtain ⟨i, hi, e⟩ := List.getElem_of_mem m
  have e1 : ν.l[i]? = some (true, p) := by rw [List.getElem?_eq_getElem hi, e]
  obtain ⟨c, hc⟩ := s.dead i p e1
  obtain ⟨a, o, h1, h2, _⟩ := s.cells i c hc
  rw [e1] at h1
  cases h1
  rw [h] at h2; cases h2
end
/-- the slots of a frame -/
structure EnvOk (K : PySem.W.Frag) (L : Lx) (ν : Nu) (H : Hp) (ρ : TEnv) (σ : L2.St) : Prop where
  len : ρ.length = σ.length
  at_ : ∀ (i : Nat) t, ρ[i]? = some (some t) → ∃ v, σ[i]? = some (some v) ∧ Rep K L ν H t v
theorem EnvOk.tr {K : PySem.W.Frag} {L : Lx} {ν ν' : Nu} {H H' : Hp} {ρ : TEnv} {σ : L2.St} (e : EnvOk K L ν H ρ σ) (f : Tr ν H ν' H') : EnvOk K L ν' H' ρ σ :=
  ⟨e.len, fun i t h => by
    obtain ⟨v, h1, h2⟩ := e.at_ i t h
    exact ⟨v, h1, h2.tr f⟩⟩
theorem EnvOk.fut {K : PySem.W.Frag} {L : Lx} {ν ν' : Nu} {H H' : Hp} {ρ : TEnv} {σ : L2.St} (e : EnvOk K L ν H ρ σ) (f : Fut ν H ν' H') : EnvOk K L ν' H' ρ σ :=
  ⟨e.len, fun i t h => by
    obtain ⟨v, h1, h2⟩ := e.at_ i t h
    exact ⟨v, h1, h2.fut f⟩⟩
theorem EnvOk.set {K : PySem.W.Frag} {L : Lx} {ν : Nu} {H : Hp} {ρ : TEnv} {σ : L2.St} (e : EnvOk K L ν H ρ σ) (i : Nat) {t : T} {v : V} (r : Rep K L ν H t v) : EnvOk K L ν H (ρ.set i (some t)) (σ.set i (some v)) :=
  ⟨by rw [List.length_set, List.length_set, e.len], fun j u h => by
    rw [List.getElem?_set] at h ⊢
    by_cases z : i = j
    · subst z
      rw [if_pos rfl] at h ⊢
      by_cases l : i < ρ.length
      · rw [if_pos l] at h
        cases h
        rw [if_pos (by rw [← e.len]; exact l)]
        exact ⟨v, rfl, r⟩
      · rw [if_neg l] at h; cases h
    · rw [if_neg z] at h ⊢
      exact e.at_ j u h⟩
theorem EnvOk.drop {K : PySem.W.Frag} {L : Lx} {ν : Nu} {H : Hp} {ρ : TEnv} {σ : L2.St} (e : EnvOk K L ν H ρ σ) (i : Nat) (o : Option V) : EnvOk K L ν H (ρ.set i none) (σ.set i o) :=
  ⟨by rw [List.length_set, List.length_set, e.len], fun j u h => by
    rw [List.getElem?_set] at h ⊢
    by_cases z : i = j
    · subst z
      rw [if_pos rfl] at h
      by_cases l : i < ρ.length
      · rw [if_pos l] at h; cases h
      · rw [if_neg l] at h; cases h
    · rw [if_neg z] at h ⊢
      exact e.at_ j u h⟩
/-- an exception's object: its class by name, its fields (told or not) -/
def ExcAt (K : PySem.W.Frag) (L : Lx) (ν : Nu) (H : Hp) (c : Str) (fs : List (Str × T)) (cls : Value) (d : Option Addr) : Prop :=
  ∃ C, L.cl c = some C ∧ cls = .ref C ∧ ((fs = [] ∧ d = none) ∨ ∃ dd fv, d = some dd ∧ H dd = some (.xd fv) ∧ RepF K L ν H fs fv)
/-! ### expressions -/
abbrev Sm := TEnv → Store → R T
def PostE (K : PySem.W.Frag) (L : Lx) (W : WX) (σ : L2.St) (ν : Nu) (H : Hp) (r : R T) (Q : VK) : Prop := match r with
  | .ok t q => ∀ ν' H' v, Fut ν H ν' H' → SimQ K L ν' q H' → Rep K L ν' H' t v → Q v H'
  | .exc c fs q => ∀ ν' H' cls d, Fut ν H ν' H' → SimQ K L ν' q H' → ExcAt K L ν' H' c fs cls d → W cls d σ H'
  | .stuck => False
theorem PostE.fut {K : PySem.W.Frag} {L : Lx} {W : WX} {σ : L2.St} {ν ν' : Nu} {H H' : Hp} {r : R T} {Q : VK} (f : Fut ν H ν' H') (h : PostE K L W σ ν H r Q) : PostE K L W σ ν' H' r Q := by
  cases r with
  | ok t q => exact fun ν2 H2 v g s r => h ν2 H2 v (f.trans g) s r
  | exc c fs q => exact fun ν2 H2 cls d g s x => h ν2 H2 cls d (f.trans g) s x
  | stuck => exact h
def rdE (K : PySem.W.Frag) (L : Lx) (W : WX) (f : Sm) : TE := fun σ H Q => ∃ ν ρ q, SimQ K L ν q H ∧ EnvOk K L ν H ρ σ ∧ PostE K L W σ ν H (f ρ q) Q
/-- e does what f says -/
structure SE (L : Lx) (X : Cx) (e : Expr) (f : Sm) : Prop where
  pe : ∀ W, Takes X W → PE X e (rdE X.K L W f)
theorem PE.imp {X : Cx} {e : Expr} {t u : TE} (h : PE X e t) (i : ∀ σ H Q, u σ H Q → t σ H Q) : PE X e u := ⟨fun pins s σ H Q I x => h.run pins s σ H Q I (i σ H Q x)⟩
theorem PT.imp {X : Cx} {e : Expr} {t u : TT} (h : PT X e t) (i : ∀ σ H Q, u σ H Q → t σ H Q) : PT X e u := ⟨fun pins s σ H Q I x => h.run pins s σ H Q I (i σ H Q x)⟩
theorem PW.imp {X : Cx} {e : Expr} {t u : TT} (h : PW X e t) (i : ∀ σ H Q, u σ H Q → t σ H Q) : PW X e u := ⟨fun wh pins s σ H Q I x => h.run wh pins s σ H Q I (i σ H Q x)⟩
theorem PS.imp {X : Cx} {e : Stmt} {t u : TS} (h : PS X e t) (i : ∀ D σ H, u D σ H → t D σ H) : PS X e u := ⟨fun pins s σ H Q I x => h.run pins s σ H Q I (i Q σ H x)⟩
theorem PSs.imp {X : Cx} {e : List Stmt} {t u : TS} (h : PSs X e t) (i : ∀ D σ H, u D σ H → t D σ H) : PSs X e u := ⟨fun pins s σ H Q I x => h.run pins s σ H Q I (i Q σ H x)⟩
theorem PA.imp {X : Cx} {e : List Expr} {t u : TA} (h : PA X e t) (i : ∀ σ H Q, u σ H Q → t σ H Q) : PA X e u := ⟨fun p pins s σ H Q I x => h.run p pins s σ H Q I (i σ H Q x)⟩
section
variable {L : Lx} {X : Cx} {e : Expr} {pos : Pos}
/-- first f, then what hangs on its value -/
def andThen (f : Sm) (g : T → TEnv → Store → R T) : Sm := fun ρ q => (f ρ q).bind fun t q' => g t ρ q'
theorem rd_then {K : PySem.W.Frag} {W : WX} {f : Sm} {g : T → TEnv → Store → R T} {σ : L2.St} {H : Hp} {Q : VK} {P : VK} (h : rdE K L W (andThen f g) σ H Q)
    (hP : ∀ t v ν ρ q H', SimQ K L ν q H' → EnvOk K L ν H' ρ σ → Rep K L ν H' t v → PostE K L W σ ν H' (g t ρ q) Q → P v H') : rdE K L W f σ H P := by
  obtain ⟨ν, ρ, q, s, en, p⟩ := h
  refine ⟨ν, ρ, q, s, en, ?_⟩
  unfold andThen at p
  cases e : f ρ q with
  | ok t q' =>
    rw [e] at p
    exact fun ν' H' v ft s' r => hP t v ν' ρ q' H' s' (en.fut ft) r (PostE.fut ft p)
  | exc c fs q' => rw [e] at p; exact p
  | stuck => rw [e] at p; exact p
def sVar (i : Nat) : Sm := fun ρ q => match ρ[i]? with
  | some (some t) => .ok t q
  | _ => .stuck
def sC (t : T) : Sm := fun _ q => .ok t q
theorem post_ok {K : PySem.W.Frag} {W : WX} {σ : L2.St} {ν : Nu} {H : Hp} {t : T} {q : Store} {Q : VK} {v : V} (h : PostE K L W σ ν H (.ok t q) Q) (s : SimQ K L ν q H) (r : Rep K L ν H t v) : Q v H := h ν H v (Fut.refl ν H) s r
/-- .. where the heap has grown -/
theorem post_new {K : PySem.W.Frag} {W : WX} {σ : L2.St} {ν : Nu} {H H' : Hp} {t : T} {q : Store} {Q : VK} {v : V} (h : PostE K L W σ ν H (.ok t q) Q) (s : SimQ K L ν q H) (n : New H H') (r : Rep K L ν H' t v) : Q v H' := h ν H' v (n.fut ν) (s.new n) r
theorem se_var (i : Nat) {x : Str} (hN : X.N[i]? = some x := by rfl) (hv : Vis X.env.scope x := by first | exact Or.inl rfl | exact Or.inr (Or.inl rfl) | exact Or.inr (Or.inr rfl)) (hd : (x == ("__debug__" : Str)) = false := by decide)
    (hcd : (x == ("__classdict__" : Str)) = false := by decide) : SE L X (.Name x pos) (sVar i) := ⟨fun W tk => PE.imp (pe_var hN hv hd hcd) fun σ H Q ⟨ν, ρ, q, s, en, p⟩ => by
  unfold sVar at p
  split at p
  · rename_i t ht
    obtain ⟨v, h1, h2⟩ := en.at_ i t ht
    exact ⟨v, h1, post_ok p s h2⟩
  · exact p.elim⟩
theorem se_c {t : T} {v : V} (h : PE X e (tC v)) (r : ∀ ν H, Rep X.K L ν H t v) : SE L X e (sC t) := ⟨fun W tk => PE.imp h fun σ H Q ⟨ν, ρ, q, s, en, p⟩ => post_ok p s (r ν H)⟩
theorem se_int {i j} : SE L X (.Constant (.int i) j pos) (sC (.int i)) := se_c pe_int fun _ _ => .int i
theorem se_bl {i j} : SE L X (.Constant (.bool i) j pos) (sC (.bl i)) := se_c pe_bl fun _ _ => .bl i
theorem se_str {i j} : SE L X (.Constant (.str i) j pos) (sC (.str i)) := se_c pe_str fun _ _ => .str i
/-! ### operators -/
abbrev Op2 := T → T → Store → R T
def sOp (o : Op2) (f g : Sm) : Sm := andThen f fun t ρ q => (g ρ q).bind fun u q' => o t u q'
/-- by values: r holds where the trees' operation goes well -/
def OpS (L : Lx) (X : Cx) (f : Value → Value → Sem Value) (o : Op2) : Prop :=
  OpR X f fun x y H Q => ∃ ν q t u, SimQ X.K L ν q H ∧ Rep X.K L ν H t x ∧ Rep X.K L ν H u y ∧ match o t u q with
    | .ok w q' => ∀ ν' H' v, Fut ν H ν' H' → SimQ X.K L ν' q' H' → Rep X.K L ν' H' w v → Q v H'
    | _ => False
theorem bin_rd {K : PySem.W.Frag} {W : WX} {o : Op2} {f g : Sm} {r : R2} {σ : L2.St} {H : Hp} {Q : VK}
    (hr : ∀ x y H Q, (∃ ν q t u, SimQ K L ν q H ∧ Rep K L ν H t x ∧ Rep K L ν H u y ∧ match o t u q with
      | .ok w q' => ∀ ν' H' v, Fut ν H ν' H' → SimQ K L ν' q' H' → Rep K L ν' H' w v → Q v H'
      | _ => False) → r x y H Q)
    (ho : ∀ t u q c fs q', o t u q ≠ .exc c fs q') (h : rdE K L W (sOp o f g) σ H Q) : rdE K L W f σ H fun x H1 => rdE K L W g σ H1 fun y H2 => r x y H2 Q := by
  refine rd_then h fun t v ν ρ q H1 s en rt p => ?_
  refine ⟨ν, ρ, q, s, en, ?_⟩
  cases e : g ρ q with
  | ok u q' =>
    rw [e] at p
    intro ν' H' v' ft s' r'
    refine hr _ _ _ _ ⟨ν', q', t, u, s', rt.fut ft, r', ?_⟩
    have p2 := PostE.fut ft p
    rw [bind_ok] at p2
    cases e2 : o t u q' with
    | ok w q2 => rw [e2] at p2; exact p2
    | exc c fs q2 => exact absurd e2 (ho _ _ _ _ _ _)
    | stuck => rw [e2] at p2; exact p2
  | exc c fs q' => rw [e] at p; exact p
  | stuck => rw [e] at p; exact p
theorem se_op {op : Operator} {o : Op2} {a b : Expr} {f g : Sm} (hs : OpS L X (binaryOp op) o) (ho : ∀ t u q c fs q', o t u q ≠ .exc c fs q') (ha : SE L X a f) (hb : SE L X b g) : SE L X (.BinOp a op b pos) (sOp o f g) :=
  ⟨fun W tk => PE.imp (pe_op hs (ha.pe W tk) (hb.pe W tk)) fun σ H Q h => bin_rd (fun x y H Q h => h) ho h⟩
theorem se_cmp {op : CmpOp} {o : Op2} {a b : Expr} {f g : Sm} (hs : OpS L X (compareOp op) o) (ho : ∀ t u q c fs q', o t u q ≠ .exc c fs q') (ha : SE L X a f) (hb : SE L X b g) (hm : behindInMarks op b = false) : SE L X (.Compare a [op] [b] pos) (sOp o f g) :=
  ⟨fun W tk => PE.imp (pe_cmpR hs (ha.pe W tk) (hb.pe W tk) hm) fun σ H Q h => bin_rd (fun x y H Q h => h) ho h⟩
end
end SP

namespace SP
open PySem PySem.Spec PyProof.Rows L2
/-! ### what a value reads as -/
def cell (q : Store) (n : Nat) : Option T := match q[n]? with
  | some (some t) => some t
  | _ => none
def lstAt (q : Store) : T → Option (List T)
  | .lst xs => some xs
  | .obj n => match cell q n with
    | some (.lst xs) => some xs
    | _ => none
  | _ => none
def dctAt (q : Store) : T → Option (List (T × T))
  | .dct xs => some xs
  | .obj n => match cell q n with
    | some (.dct xs) => some xs
    | _ => none
  | _ => none
def insAt (q : Store) : T → Option (Str × List (Str × T))
  | .ins c fs => some (c, fs)
  | .obj n => match cell q n with
    | some (.ins c fs) => some (c, fs)
    | _ => none
  | _ => none
/-- the mutable object behind a value, one level -/
def deref (q : Store) : T → T
  | .obj n => (cell q n).getD (.obj n)
  | t => t
section
variable {K : PySem.W.Frag} {L : Lx} {ν : Nu} {q : Store} {H : Hp}
theorem cell_some {n : Nat} {t : T} (h : cell q n = some t) : q[n]? = some (some t) := by
  unfold cell at h
  split at h
  · rename_i u e
    cases h
    exact e
  · cases h
theorem SimQ.at_ (s : SimQ K L ν q H) {n : Nat} {t : T} {v : V} (r : Rep K L ν H (.obj n) v) (h : cell q n = some t) : ∃ a o, v = .ref a ∧ ν.l[n]? = some (true, a) ∧ H a = some o ∧ CellRep K L ν H t o := by
  obtain ⟨a, o, h1, h2, h3⟩ := s.cells n t (cell_some h)
  cases r with
  | obj e =>
    rw [h1] at e
    cases e
    exact ⟨a, o, rfl, h1, h2, h3⟩
theorem lst_of (s : SimQ K L ν q H) {t : T} {v : V} {ts : List T} (r : Rep K L ν H t v) (h : lstAt q t = some ts) : ∃ a xs, v = .ref a ∧ H a = some (.lst xs) ∧ Reps K L ν H ts xs := by
  cases t with
  | lst us =>
    cases h
    cases r with
    | lst n h r => exact ⟨_, _, rfl, h, r⟩
  | obj n =>
    unfold lstAt at h
    simp only at h
    split at h
    · rename_i us e
      cases h
      obtain ⟨a, o, h1, _, h2, h3⟩ := s.at_ r e
      cases h3 with
      | lst r => exact ⟨a, _, h1, h2, r⟩
    · cases h
  | _ => cases h
theorem KT.sqT {K : PySem.W.Frag} {a : Addr} {xs : List V} (h : SP.KT K a xs) (H : Hp) : SqT K H a xs := let ⟨o, its, n, a1, a2, _, a3, a4, a5⟩ := h; .inr ⟨o, its, n, a1, a2, a3, a4, a5⟩
theorem tup_of {t : List T} {v : V} (r : Rep K L ν H (.tup t) v) : ∃ a xs, v = .ref a ∧ SqT K H a xs ∧ Reps K L ν H t xs := by
  cases r with
  | tup n h d r => exact ⟨_, _, rfl, .inl (.inr ⟨_, h⟩), r⟩
  | tupK h r => exact ⟨_, _, rfl, KT.sqT h H, r⟩
/-- that it carries no attributes -/
def TD (K : PySem.W.Frag) (H : Hp) (a : Addr) : Prop := (∃ o xs, H a = some (.frz o (.tup xs)) ∧ o.dict = none) ∨ ∃ o, K.lookup a = some o ∧ o.dict = none
theorem Reps.length : ∀ {ts : List T} {xs : List V}, Reps K L ν H ts xs → ts.length = xs.length
  | _, _, .nil => rfl
  | _, _, .cons _ r => by rw [List.length_cons, List.length_cons, Reps.length r]
theorem Reps.get : ∀ {ts : List T} {xs : List V} (i : Nat) {t : T}, Reps K L ν H ts xs → ts[i]? = some t → ∃ v, xs[i]? = some v ∧ Rep K L ν H t v
  | _, _, _, _, .nil, e => by simp at e
  | _, _, 0, _, .cons h _, e => by
    rw [List.getElem?_cons_zero] at e
    cases e
    exact ⟨_, rfl, h⟩
  | _, _, i + 1, t, .cons _ r, e => by
    rw [List.getElem?_cons_succ] at e
    obtain ⟨v, h1, h2⟩ := Reps.get i r e
    exact ⟨v, by rw [List.getElem?_cons_succ]; exact h1, h2⟩
theorem Reps.append : ∀ {ts us : List T} {xs ys : List V}, Reps K L ν H ts xs → Reps K L ν H us ys → Reps K L ν H (ts ++ us) (xs ++ ys)
  | _, _, _, _, .nil, s => s
  | _, _, _, _, .cons h r, s => .cons h (Reps.append r s)
theorem Reps.one {t : T} {v : V} (h : Rep K L ν H t v) : Reps K L ν H [t] [v] := .cons h .nil
theorem Reps.set : ∀ {ts : List T} {xs : List V} (i : Nat) {t : T} {v : V}, Reps K L ν H ts xs → Rep K L ν H t v → Reps K L ν H (ts.set i t) (xs.set i v)
  | _, _, _, _, _, .nil, _ => .nil
  | _, _, 0, _, _, .cons _ r, s => .cons s r
  | _, _, i + 1, _, _, .cons h r, s => .cons h (Reps.set i r s)
theorem Reps.drop : ∀ {ts : List T} {xs : List V} (i : Nat), Reps K L ν H ts xs → Reps K L ν H (ts.drop i) (xs.drop i)
  | _, _, 0, r => r
  | _, _, _ + 1, .nil => .nil
  | _, _, i + 1, .cons _ r => Reps.drop i r
theorem Reps.take : ∀ {ts : List T} {xs : List V} (i : Nat), Reps K L ν H ts xs → Reps K L ν H (ts.take i) (xs.take i)
  | _, _, 0, r => .nil
  | _, _, _ + 1, .nil => .nil
  | _, _, i + 1, .cons h r => .cons h (Reps.take i r)
theorem Reps.reverse : ∀ {ts : List T} {xs : List V}, Reps K L ν H ts xs → Reps K L ν H ts.reverse xs.reverse
  | _, _, .nil => .nil
  | _, _, .cons h r => by
    rw [List.reverse_cons, List.reverse_cons]
    exact (Reps.reverse r).append (.one h)
theorem Reps.eraseIdx : ∀ {ts : List T} {xs : List V} (i : Nat), Reps K L ν H ts xs → Reps K L ν H (ts.eraseIdx i) (xs.eraseIdx i)
  | _, _, _, .nil => .nil
  | _, _, 0, .cons _ r => r
  | _, _, i + 1, .cons h r => .cons h (Reps.eraseIdx i r)
theorem Reps.dropLast {ts : List T} {xs : List V} (r : Reps K L ν H ts xs) : Reps K L ν H ts.dropLast xs.dropLast := by
  rw [List.dropLast_eq_take, List.dropLast_eq_take, r.length]
  exact r.take _
theorem Reps.flat {ts : List T} {xs : List V} (r : Reps K L ν H ts xs) : ∀ k : Nat, Reps K L ν H (List.replicate k ts).flatten (List.replicate k xs).flatten
  | 0 => .nil
  | k + 1 => by
    rw [List.replicate_succ, List.replicate_succ, List.flatten_cons, List.flatten_cons]
    exact r.append (Reps.flat r k)
theorem rep_int {i : Int} {v : V} (r : Rep K L ν H (.int i) v) : v = .int i := by cases r; rfl
theorem rep_str {i : Str} {v : V} (r : Rep K L ν H (.str i) v) : v = .str i := by cases r; rfl
/-- a new list, a new tuple -/
theorem new_lst (s : SimQ K L ν q H) {p : Addr} {ts : List T} {xs : List V} (h : H p = none) (r : Reps K L ν H ts xs) : New H (upd H p (.lst xs)) ∧ Rep K L ν (upd H p (.lst xs)) (.lst ts) (.ref p) :=
  ⟨New.upd h, .lst (s.notIn_none h) upd_same (r.fut ((New.upd h).fut ν))⟩
theorem new_tup (s : SimQ K L ν q H) {p : Addr} {o : Obj} {ts : List T} {xs : List V} (d : o.dict = none) (h : H p = none) (r : Reps K L ν H ts xs) : New H (upd H p (.frz o (.tup xs))) ∧ Rep K L ν (upd H p (.frz o (.tup xs))) (.tup ts) (.ref p) :=
  ⟨New.upd h, .tup (s.notIn_none h) upd_same d (r.fut ((New.upd h).fut ν))⟩
end
/-! ### the operators by trees -/
open Classical in
noncomputable def oAdd : Op2 := fun t u q => match t, u with
  | .int i, .int j => .ok (.int (i + j)) q
  | .str a, .str b => if a.length + b.length ≤ sizeLine then .ok (.str (a ++ b)) q else .stuck
  | .tup xs, .tup ys => if xs.length + ys.length ≤ sizeLine then .ok (.tup (xs ++ ys)) q else .stuck
  | t, u => match lstAt q t, lstAt q u with
    | some xs, some ys => if xs.length + ys.length ≤ sizeLine then .ok (.lst (xs ++ ys)) q else .stuck
    | _, _ => .stuck
def oSub : Op2 := fun t u q => match t, u with
  | .int i, .int j => .ok (.int (i - j)) q
  | _, _ => .stuck
end SP

namespace SP
open PySem PySem.Spec PyProof.Rows L2
/-! ### + - * // % ** -/
open Classical in
noncomputable def oMul : Op2 := fun t u q => match t, u with
  | .int i, .int j => if CMul i j ∨ CMulW i j then .ok (.int (i * j)) q else .stuck
  | .tup xs, .int k => if xs ≠ [] ∧ 2 ≤ k ∧ k ≤ 1000 ∧ xs.length ≤ 1000 then .ok (.tup (List.replicate k.toNat xs).flatten) q else .stuck
  | .str s, .int k => if s.length * k.toNat ≤ 1000000 ∧ 0 ≤ k ∧ k ≤ 1000000 then .stuck else .stuck
  | t, .int k => match lstAt q t with
    | some xs => if -(2 ^ 63) ≤ k ∧ k < 2 ^ 63 ∧ xs.length * k.toNat ≤ sizeLine then .ok (.lst (List.replicate k.toNat xs).flatten) q else .stuck
    | none => .stuck
  | _, _ => .stuck
open Classical in
noncomputable def oDiv : Op2 := fun t u q => match t, u with
  | .int i, .int j => if CDivW i j then .ok (.int (i / j)) q else .stuck
  | _, _ => .stuck
open Classical in
noncomputable def oMod : Op2 := fun t u q => match t, u with
  | .int i, .int j => if 0 < j then .ok (.int (i % j)) q else .stuck
  | _, _ => .stuck
open Classical in
noncomputable def oPow : Op2 := fun t u q => match t, u with
  | .int i, .int j => if CPow i j then .ok (.int (i ^ j.toNat)) q else .stuck
  | _, _ => .stuck
/-! ### comparisons of ints and texts -/
def strLt (a b : Str) : Bool := decide (a.cps.toList < b.cps.toList)
def oLt : Op2 := fun t u q => match t, u with
  | .int i, .int j => .ok (.bl (decide (i < j))) q
  | .str a, .str b => .ok (.bl (strLt a b)) q
  | _, _ => .stuck
def oLe : Op2 := fun t u q => match t, u with
  | .int i, .int j => .ok (.bl (decide (i ≤ j))) q
  | _, _ => .stuck
def oGt : Op2 := fun t u q => match t, u with
  | .int i, .int j => .ok (.bl (decide (j < i))) q
  | _, _ => .stuck
def oGe : Op2 := fun t u q => match t, u with
  | .int i, .int j => .ok (.bl (decide (j ≤ i))) q
  | _, _ => .stuck
def oIsN : Op2 := fun t u q => match u, t with
  | .non, .non => .ok (.bl true) q
  | .non, .bl _ | .non, .int _ | .non, .str _ | .non, .tup _ | .non, .lst _ | .non, .dct _ | .non, .dcu _ | .non, .ins _ _ | .non, .obj _ | .non, .fz _ => .ok (.bl false) q
  | _, _ => .stuck
def oIsNot : Op2 := fun t u q => match u, t with
  | .non, .non => .ok (.bl false) q
  | .non, .bl _ | .non, .int _ | .non, .str _ | .non, .tup _ | .non, .lst _ | .non, .dct _ | .non, .dcu _ | .non, .ins _ _ | .non, .obj _ | .non, .fz _ => .ok (.bl true) q
  | _, _ => .stuck
section
variable {L : Lx} {X : Cx}
theorem os_add : OpS L X (binaryOp .Add) oAdd := by
  rintro pins s σ H x y v u Q I rx ry ⟨ν, q, t, w, sim, rt, rw', p⟩
  unfold oAdd at p
  split at p
  · rename_i t' q2 hq
    split at hq
    · cases hq
      obtain rfl := rep_int rt
      obtain rfl := rep_int rw'
      exact op_add pins s σ H _ _ v u Q I rx ry ⟨_, _, rfl, rfl, p ν H _ (Fut.refl _ _) sim (.int _)⟩
    · split at hq
      · rename_i hz
        cases hq
        obtain rfl := rep_str rt
        obtain rfl := rep_str rw'
        exact op_add_str pins s σ H _ _ v u Q I rx ry ⟨_, _, rfl, rfl, hz, p ν H _ (Fut.refl _ _) sim (.str _)⟩
      · cases hq
    · split at hq
      · rename_i hz
        cases hq
        obtain ⟨a, xs, rfl, h1, r1⟩ := tup_of rt
        obtain ⟨b, ys, rfl, h2, r2⟩ := tup_of rw'
        refine SPF.op_catF pins s σ H _ _ v u Q I rx ry ⟨a, b, xs, ys, rfl, rfl, h1, h2, ?_, ?_, ?_, ?_⟩
        · rw [← r1.length, ← r2.length]; exact hz
        · intro e
          subst e
          cases r1
          exact p ν H _ (Fut.refl _ _) sim rw'
        · intro _ e
          subst e
          cases r2
          refine p ν H _ (Fut.refl _ _) sim ?_
          rw [List.append_nil]
          exact rt
        · intro _ _ b o hd hb
          obtain ⟨n1, r3⟩ := new_tup sim hd hb (r1.append r2)
          exact p ν _ _ (n1.fut ν) (sim.new n1) r3
      · cases hq
    · split at hq
      · rename_i xs ys e1 e2
        split at hq
        · rename_i hz
          cases hq
          obtain ⟨a, vs, rfl, h1, r1⟩ := lst_of sim rt e1
          obtain ⟨b, us, rfl, h2, r2⟩ := lst_of sim rw' e2
          refine op_cat pins s σ H _ _ v u Q I rx ry ⟨a, b, vs, us, rfl, rfl, h1, h2, ?_, fun b hb => ?_⟩
          · rw [← r1.length, ← r2.length]; exact hz
          · obtain ⟨n1, r3⟩ := new_lst sim hb (r1.append r2)
            exact p ν _ _ (n1.fut ν) (sim.new n1) r3
        · cases hq
      · cases hq
  · exact p.elim
theorem os_sub : OpS L X (binaryOp .Sub) oSub := by
  rintro pins s σ H x y v u Q I rx ry ⟨ν, q, t, w, sim, rt, rw', p⟩
  unfold oSub at p
  split at p
  · rename_i t' q2 hq
    split at hq
    · cases hq
      obtain rfl := rep_int rt
      obtain rfl := rep_int rw'
      exact op_sub pins s σ H _ _ v u Q I rx ry ⟨_, _, rfl, rfl, p ν H _ (Fut.refl _ _) sim (.int _)⟩
    · cases hq
  · exact p.elim
theorem os_mul : OpS L X (binaryOp .Mult) oMul := by
  rintro pins s σ H x y v u Q I rx ry ⟨ν, q, t, w, sim, rt, rw', p⟩
  unfold oMul at p
  split at p
  · rename_i t' q2 hq
    split at hq
    · split at hq
      · rename_i hz
        cases hq
        obtain rfl := rep_int rt
        obtain rfl := rep_int rw'
        rcases hz with hz | hz
        · exact op_mul pins s σ H _ _ v u Q I rx ry ⟨_, _, rfl, rfl, hz, p ν H _ (Fut.refl _ _) sim (.int _)⟩
        · exact op_mulW pins s σ H _ _ v u Q I rx ry ⟨_, _, rfl, rfl, hz, p ν H _ (Fut.refl _ _) sim (.int _)⟩
      · cases hq
    · split at hq
      · rename_i hz
        cases hq
        obtain ⟨a, xs, rfl, h1, r1⟩ := tup_of rt
        obtain rfl := rep_int rw'
        obtain ⟨z1, z2, z3, z4⟩ := hz
        refine SPF.op_repF pins s σ H _ _ v u Q I rx ry ⟨a, _, xs, rfl, rfl, h1, ?_, z2, z3, ?_, fun b o hd hb => ?_⟩
        · intro e
          subst e
          cases r1
          exact z1 rfl
        · rw [← r1.length]; exact z4
        · obtain ⟨n1, r3⟩ := new_tup sim hd hb (r1.flat _)
          exact p ν _ _ (n1.fut ν) (sim.new n1) r3
      · cases hq
    · split at hq <;> cases hq
    · split at hq
      · rename_i e1
        split at hq
        · rename_i hz
          cases hq
          obtain ⟨a, vs, rfl, h1, r1⟩ := lst_of sim rt e1
          obtain rfl := rep_int rw'
          obtain ⟨z1, z2, z3⟩ := hz
          refine op_rep pins s σ H _ _ v u Q I rx ry ⟨a, _, vs, rfl, rfl, h1, z1, z2, ?_, fun b hb => ?_⟩
          · rw [← r1.length]; exact z3
          · obtain ⟨n1, r3⟩ := new_lst sim hb (r1.flat _)
            exact p ν _ _ (n1.fut ν) (sim.new n1) r3
        · cases hq
      · cases hq
    · cases hq
  · exact p.elim
theorem os_div : OpS L X (binaryOp .FloorDiv) oDiv := by
  rintro pins s σ H x y v u Q I rx ry ⟨ν, q, t, w, sim, rt, rw', p⟩
  unfold oDiv at p
  split at p
  · rename_i t' q2 hq
    split at hq
    · split at hq
      · rename_i hz
        cases hq
        obtain rfl := rep_int rt
        obtain rfl := rep_int rw'
        exact op_fdivW pins s σ H _ _ v u Q I rx ry ⟨_, _, rfl, rfl, hz, p ν H _ (Fut.refl _ _) sim (.int _)⟩
      · cases hq
    · cases hq
  · exact p.elim
theorem os_mod : OpS L X (binaryOp .Mod) oMod := by
  rintro pins s σ H x y v u Q I rx ry ⟨ν, q, t, w, sim, rt, rw', p⟩
  unfold oMod at p
  split at p
  · rename_i t' q2 hq
    split at hq
    · split at hq
      · rename_i hz
        cases hq
        obtain rfl := rep_int rt
        obtain rfl := rep_int rw'
        exact op_mod pins s σ H _ _ v u Q I rx ry ⟨_, _, rfl, rfl, hz, p ν H _ (Fut.refl _ _) sim (.int _)⟩
      · cases hq
    · cases hq
  · exact p.elim
theorem os_pow : OpS L X (binaryOp .Pow) oPow := by
  rintro pins s σ H x y v u Q I rx ry ⟨ν, q, t, w, sim, rt, rw', p⟩
  unfold oPow at p
  split at p
  · rename_i t' q2 hq
    split at hq
    · split at hq
      · rename_i hz
        cases hq
        obtain rfl := rep_int rt
        obtain rfl := rep_int rw'
        exact op_pow pins s σ H _ _ v u Q I rx ry ⟨_, _, rfl, rfl, hz, p ν H _ (Fut.refl _ _) sim (.int _)⟩
      · cases hq
    · cases hq
  · exact p.elim
theorem os_lt : OpS L X (compareOp .Lt) oLt := by
  rintro pins s σ H x y v u Q I rx ry ⟨ν, q, t, w, sim, rt, rw', p⟩
  unfold oLt at p
  split at p
  · rename_i t' q2 hq
    split at hq
    · cases hq
      obtain rfl := rep_int rt
      obtain rfl := rep_int rw'
      exact op_lt pins s σ H _ _ v u Q I rx ry ⟨_, _, rfl, rfl, p ν H _ (Fut.refl _ _) sim (.bl _)⟩
    · cases hq
      obtain rfl := rep_str rt
      obtain rfl := rep_str rw'
      exact op_lt_str pins s σ H _ _ v u Q I rx ry ⟨_, _, rfl, rfl, p ν H _ (Fut.refl _ _) sim (.bl _)⟩
    · cases hq
  · exact p.elim
theorem os_le : OpS L X (compareOp .LtE) oLe := by
  rintro pins s σ H x y v u Q I rx ry ⟨ν, q, t, w, sim, rt, rw', p⟩
  unfold oLe at p
  split at p
  · rename_i t' q2 hq
    split at hq
    · cases hq
      obtain rfl := rep_int rt
      obtain rfl := rep_int rw'
      exact op_le pins s σ H _ _ v u Q I rx ry ⟨_, _, rfl, rfl, p ν H _ (Fut.refl _ _) sim (.bl _)⟩
    · cases hq
  · exact p.elim
theorem os_gt : OpS L X (compareOp .Gt) oGt := by
  rintro pins s σ H x y v u Q I rx ry ⟨ν, q, t, w, sim, rt, rw', p⟩
  unfold oGt at p
  split at p
  · rename_i t' q2 hq
    split at hq
    · cases hq
      obtain rfl := rep_int rt
      obtain rfl := rep_int rw'
      exact op_gt pins s σ H _ _ v u Q I rx ry ⟨_, _, rfl, rfl, p ν H _ (Fut.refl _ _) sim (.bl _)⟩
    · cases hq
  · exact p.elim
theorem os_ge : OpS L X (compareOp .GtE) oGe := by
  rintro pins s σ H x y v u Q I rx ry ⟨ν, q, t, w, sim, rt, rw', p⟩
  unfold oGe at p
  split at p
  · rename_i t' q2 hq
    split at hq
    · cases hq
      obtain rfl := rep_int rt
      obtain rfl := rep_int rw'
      exact op_ge pins s σ H _ _ v u Q I rx ry ⟨_, _, rfl, rfl, p ν H _ (Fut.refl _ _) sim (.bl _)⟩
    · cases hq
  · exact p.elim
end
end SP

namespace SP
open PySem PySem.Spec PyProof.Rows L2 SeqAt
/-! ### == of trees -/
mutual
def eqT : T → T → Bool
  | .non, .non => true
  | .bl a, .bl b => a == b
  | .bl a, .int b => (if a then 1 else 0) == b
  | .int a, .bl b => a == (if b then 1 else 0)
  | .int a, .int b => a == b
  | .str a, .str b => a == b
  | .tup a, .tup b => eqTs a b
  | .lst a, .lst b => eqTs a b
  | _, _ => false
def eqTs : List T → List T → Bool
  | [], [] => true
  | x :: xs, y :: ys => eqT x y && eqTs xs ys
  | _, _ => false
end
/-- plain data, nested n deep at most -/
inductive Dt : Nat → T → Prop where
  | non {n : Nat} : Dt n .non
  | bl {n : Nat} {b : Bool} : Dt n (.bl b)
  | int {n : Nat} {i : Int} : Dt n (.int i)
  | str {n : Nat} {s : Str} : Dt n (.str s)
  | tup {n : Nat} {ts : List T} (h : ∀ t ∈ ts, Dt n t) : Dt (n + 1) (.tup ts)
  | lst {n : Nat} {ts : List T} (h : ∀ t ∈ ts, Dt n t) : Dt (n + 1) (.lst ts)
theorem Dt.mono : ∀ {n m : Nat} {t : T}, Dt n t → n ≤ m → Dt m t
  | _, _, _, .non, _ => .non
  | _, _, _, .bl, _ => .bl
  | _, _, _, .int, _ => .int
  | _, _, _, .str, _ => .str
  | n + 1, m, _, .tup h, l => by
    cases m with
    | zero => omega
    | succ m => exact .tup fun t ht => Dt.mono (h t ht) (by omega)
  | n + 1, m, _, .lst h, l => by
    cases m with
    | zero => omega
    | succ m => exact .lst fun t ht => Dt.mono (h t ht) (by omega)
theorem eqTs_all : ∀ (xs ys : List T), xs.length = ys.length → eqTs xs ys = (List.range xs.length).all fun j => eqT (xs.getD j .non) (ys.getD j .non)
  | [], [], _ => by simp [eqTs]
  | x :: xs, y :: ys, h => by
    have ih := eqTs_all xs ys (by simpa using h)
    rw [eqTs, ih, List.length_cons, List.range_succ_eq_map, List.all_cons, List.all_map]
    rfl
  | [], _ :: _, h => by simp at h
  | _ :: _, [], h => by simp at h
theorem eqTs_len : ∀ (xs ys : List T), xs.length ≠ ys.length → eqTs xs ys = false
  | [], [], h => absurd rfl h
  | x :: xs, y :: ys, h => by
    rw [eqTs, eqTs_len xs ys (by simpa using h), Bool.and_false]
  | [], _ :: _, _ => rfl
  | _ :: _, [], _ => rfl
theorem eqTs_min (xs ys : List T) : ((List.range (min xs.length ys.length)).all (fun j => eqT (xs.getD j .non) (ys.getD j .non)) && xs.length == ys.length) = eqTs xs ys := by
  by_cases h : xs.length = ys.length
  · rw [eqTs_all xs ys h, h, Nat.min_self, beq_self_eq_true, Bool.and_true]
  · rw [eqTs_len xs ys h, beq_false_of_ne h, Bool.and_false]
section
variable {X : Cx} {L : Lx} {ν : Nu} {pins : List (Addr × Obj)} {σ : L2.St} {H : Hp} {s : Shared}
theorem lst_addr {ts : List T} {v : V} (r : Rep X.K L ν H (.lst ts) v) : ∃ a xs, v = .ref a ∧ H a = some (.lst xs) ∧ Reps X.K L ν H ts xs := by
  cases r with
  | lst n h r => exact ⟨_, _, rfl, h, r⟩
theorem eqTs_of (h : ∀ (j : Nat) t u, ts[j]? = some t → us[j]? = some u → eqT t u = true) (hl : ts.length = us.length) : eqTs ts us = true := by
  rw [eqTs_all ts us hl, List.all_eq_true]
  intro j hj
  have hj1 : j < ts.length := List.mem_range.mp hj
  have hj2 : j < us.length := by rw [← hl]; exact hj1
  refine h j _ _ ?_ ?_
  · rw [List.getD_eq_getElem?_getD, List.getElem?_eq_getElem hj1]; rfl
  · rw [List.getD_eq_getElem?_getD, List.getElem?_eq_getElem hj2]; rfl
/-- two trees of one value are equal -/
theorem eqT_same (I : Inv X pins σ H s) : ∀ (n : Nat) (t u : T) (v : V), Dt n t → Dt n u → Rep X.K L ν H t v → Rep X.K L ν H u v → eqT t u = true := by
  intro n
  induction n with
  | zero =>
    intro t u v dt du rt ru
    cases dt <;> cases rt <;> cases du <;> cases ru <;> simp [eqT]
  | succ n ih =>
    intro t u v dt du rt ru
    have go : ∀ {ts us : List T} {xs : List V}, (∀ t ∈ ts, Dt n t) → (∀ t ∈ us, Dt n t) → Reps X.K L ν H ts xs → Reps X.K L ν H us xs → eqTs ts us = true := fun {ts us xs} h1 h2 r1 r2 => by
      refine eqTs_of (fun j t u e1 e2 => ?_) (by rw [r1.length, r2.length])
      obtain ⟨v1, f1, g1⟩ := r1.get j e1
      obtain ⟨v2, f2, g2⟩ := r2.get j e2
      rw [f1] at f2; cases f2
      exact ih t u v1 (h1 t (List.mem_of_getElem? e1)) (h2 u (List.mem_of_getElem? e2)) g1 g2
    cases dt with
    | tup h =>
      obtain ⟨a, xs, rfl, q1, r1⟩ := tup_of rt
      cases du with
      | tup h2 =>
        obtain ⟨b, ys, e, q2, r2⟩ := tup_of ru
        cases e
        have e := I.tuple_inj q1 q2
        subst e
        rw [eqT]
        exact go h h2 r1 r2
      | lst h2 =>
        obtain ⟨b, ys, e, q2, r2⟩ := lst_addr ru
        cases e
        obtain ⟨i1, _, p1, _⟩ := I.tuple q1
        obtain ⟨i2, _, p2, _⟩ := I.list (.inl (.inl q2))
        obtain ⟨o, e1, c1, _⟩ := p1
        obtain ⟨o2, _, e2, c2, _⟩ := p2
        rw [e1] at e2; cases e2
        rw [c1] at c2; injection c2 with e3; exact absurd e3 (by decide)
      | _ => cases ru
    | lst h =>
      obtain ⟨a, xs, rfl, q1, r1⟩ := lst_addr rt
      cases du with
      | lst h2 =>
        obtain ⟨b, ys, e, q2, r2⟩ := lst_addr ru
        cases e
        rw [q1] at q2; cases q2
        rw [eqT]
        exact go h h2 r1 r2
      | tup h2 =>
        obtain ⟨b, ys, e, q2, r2⟩ := tup_of ru
        cases e
        obtain ⟨i1, _, p1, _⟩ := I.tuple q2
        obtain ⟨i2, _, p2, _⟩ := I.list (.inl (.inl q1))
        obtain ⟨o, e1, c1, _⟩ := p1
        obtain ⟨o2, _, e2, c2, _⟩ := p2
        rw [e1] at e2; cases e2
        rw [c1] at c2; injection c2 with e3; exact absurd e3 (by decide)
      | _ => cases ru
    | _ => cases rt <;> cases du <;> cases ru <;> simp [eqT]
/-- a value as one sees it: a list whatever it is to us, or a frozen one -/
inductive Vw (K : PySem.W.Frag) (L : Lx) (ν : Nu) (H : Hp) : T → V → Prop where
  | of {t : T} {v : V} (r : Rep K L ν H t v) : Vw K L ν H t v
  | lst {a : Addr} {ts : List T} {xs : List V} (h : H a = some (.lst xs)) (r : Reps K L ν H ts xs) : Vw K L ν H (.lst ts) (.ref a)
theorem vw_lst {ts : List T} {v : V} (r : Vw X.K L ν H (.lst ts) v) : ∃ a xs, v = .ref a ∧ H a = some (.lst xs) ∧ Reps X.K L ν H ts xs := by
  cases r with
  | of r => exact lst_addr r
  | lst h r => exact ⟨_, _, rfl, h, r⟩
theorem vw_tup {ts : List T} {v : V} (r : Vw X.K L ν H (.tup ts) v) : ∃ a xs, v = .ref a ∧ SqT X.K H a xs ∧ Reps X.K L ν H ts xs := by
  cases r with
  | of r => exact tup_of r
theorem getD_of {ts : List T} {j : Nat} {t : T} (e : ts[j]? = some t) : ts.getD j .non = t := by rw [List.getD_eq_getElem?_getD, e]; rfl
theorem items_eq {A : Around} {n : Nat} {ts us : List T} {xs ys : List V} {its jts : List Value} (ih : ∀ (t u : T) (x y : V) (v w : Value), Dt n t → Dt n u → Rep X.K L ν H t x → Rep X.K L ν H u y → RelV x v → RelV y w → EqAt A.in1 s v w (eqT t u))
    (h1 : ∀ t ∈ ts, Dt n t) (h2 : ∀ t ∈ us, Dt n t) (r1 : Reps X.K L ν H ts xs) (r2 : Reps X.K L ν H us ys) (v1 : Vals xs its) (v2 : Vals ys jts) :
    ∀ j (g1 : j < its.toArray.size) (g2 : j < jts.toArray.size), EqAt A.in1 s its.toArray[j] jts.toArray[j] (eqT (ts.getD j .non) (us.getD j .non)) := by
  intro j g1 g2
  have g1' : j < its.length := by simpa using g1
  have g2' : j < jts.length := by simpa using g2
  have l1 : j < ts.length := by rw [r1.length, v1.length]; exact g1'
  have l2 : j < us.length := by rw [r2.length, v2.length]; exact g2'
  obtain ⟨x, e1, q1⟩ := r1.get j (List.getElem?_eq_getElem l1)
  obtain ⟨y, e2, q2⟩ := r2.get j (List.getElem?_eq_getElem l2)
  obtain ⟨v, f1, p1⟩ := v1.get e1
  obtain ⟨w, f2, p2⟩ := v2.get e2
  have k1 : its.toArray[j] = v := by
    rw [List.getElem?_eq_getElem g1'] at f1
    simpa using Option.some.inj f1
  have k2 : jts.toArray[j] = w := by
    rw [List.getElem?_eq_getElem g2'] at f2
    simpa using Option.some.inj f2
  rw [k1, k2, getD_of (List.getElem?_eq_getElem l1), getD_of (List.getElem?_eq_getElem l2)]
  exact ih _ _ _ _ _ _ (h1 _ (List.getElem_mem l1)) (h2 _ (List.getElem_mem l2)) q1 q2 p1 p2
theorem scal_eq {A : Around} (hu : A.units < cLine) (I : Inv X pins σ H s) : ∀ {t u : T} {x y : V} {v w : Value} {n m : Nat}, Dt n t → Dt m u → Vw X.K L ν H t x → Vw X.K L ν H u y → RelV x v → RelV y w →
    (∀ ts us, t = .lst ts → u = .lst us → False) → (∀ ts us, t = .tup ts → u = .tup us → False) → EqAt A s v w (eqT t u) ∧ RcAt A s v w (eqT t u) ∧ RcNeAt A s v w (!eqT t u) := by
  intro t u x y v w n m dt du rt ru rv rw' nl nt
  have tl : ∀ {ts : List T} {z : V} {k : Value}, Vw X.K L ν H (.lst ts) z → RelV z k → ∃ a its, k = .ref a ∧ s.heap.IsList a its := fun {ts z k} r rk => by
    obtain ⟨a, xs, rfl, h, _⟩ := vw_lst r
    obtain ⟨its, _, p, _⟩ := I.list (.inl (.inl h))
    exact ⟨a, _, rk, p.isList⟩
  have tt : ∀ {ts : List T} {z : V} {k : Value}, Vw X.K L ν H (.tup ts) z → RelV z k → ∃ a its, k = .ref a ∧ s.heap.IsTuple a its := fun {ts z k} r rk => by
    obtain ⟨a, xs, rfl, h, _⟩ := vw_tup r
    obtain ⟨its, _, p, _⟩ := I.tuple h
    exact ⟨a, _, rk, p⟩
  have sc : ∀ {z : V} {k : Value} {p : T}, Vw X.K L ν H p z → RelV z k → (p = .non → k = .none) ∧ (∀ b, p = .bl b → k = .bool b) ∧ (∀ b, p = .int b → ∃ t, k = .int b t) ∧ (∀ b, p = .str b → ∃ t, k = .str b t) := fun {z k p} r rk => by
    cases r with
    | of r =>
      refine ⟨fun e => ?_, fun b e => ?_, fun b e => ?_, fun b e => ?_⟩
      · subst e; cases r; exact rk
      · subst e; cases r; exact rk
      · subst e; cases r; exact rk
      · subst e; cases r; exact rk
    | lst h r => exact ⟨nofun, nofun, nofun, nofun⟩
  obtain ⟨n1, b1, i1, s1⟩ := sc rt rv
  obtain ⟨n2, b2, i2, s2⟩ := sc ru rw'
  cases dt with
  | non =>
    obtain rfl := n1 rfl
    cases du with
    | non =>
      obtain rfl := n2 rfl
      exact ⟨.same _, .none_none, .none_none⟩
    | bl =>
      obtain rfl := b2 _ rfl
      exact ⟨.none_bool _, .none_bool _, .none_bool _⟩
    | int =>
      obtain ⟨t, rfl⟩ := i2 _ rfl
      exact ⟨.none_int _ _, .none_int _ _, .none_int _ _⟩
    | str =>
      obtain ⟨t, rfl⟩ := s2 _ rfl
      exact ⟨.none_str _ _, .none_str _ _, .none_str _ _⟩
    | tup h =>
      obtain ⟨a, its, rfl, hl⟩ := tt ru rw'
      exact ⟨.none_tuple hl hu, .none_tuple hl hu, .none_tuple hl hu⟩
    | lst h =>
      obtain ⟨a, its, rfl, hl⟩ := tl ru rw'
      exact ⟨.none_list hl hu, .none_list hl hu, .none_list hl hu⟩
  | bl =>
    obtain rfl := b1 _ rfl
    cases du with
    | non =>
      obtain rfl := n2 rfl
      exact ⟨.bool_none _, .bool_none _, .bool_none _⟩
    | bl =>
      obtain rfl := b2 _ rfl
      exact ⟨.bool_bool _ _, .bool_bool _ _, .bool_bool _ _⟩
    | int =>
      obtain ⟨t, rfl⟩ := i2 _ rfl
      exact ⟨.bool_int _ _ _, .bool_int _ _ _, .bool_int _ _ _⟩
    | str =>
      obtain ⟨t, rfl⟩ := s2 _ rfl
      exact ⟨.bool_str _ _ _, .bool_str _ _ _, .bool_str _ _ _⟩
    | tup h =>
      obtain ⟨a, its, rfl, hl⟩ := tt ru rw'
      exact ⟨.bool_tuple _ hl hu, .bool_tuple _ hl hu, .bool_tuple _ hl hu⟩
    | lst h =>
      obtain ⟨a, its, rfl, hl⟩ := tl ru rw'
      exact ⟨.bool_list _ hl hu, .bool_list _ hl hu, .bool_list _ hl hu⟩
  | int =>
    obtain ⟨t, rfl⟩ := i1 _ rfl
    cases du with
    | non =>
      obtain rfl := n2 rfl
      exact ⟨.int_none _ _, .int_none _ _, .int_none _ _⟩
    | bl =>
      obtain rfl := b2 _ rfl
      exact ⟨.int_bool _ _ _, .int_bool _ _ _, .int_bool _ _ _⟩
    | int =>
      obtain ⟨t, rfl⟩ := i2 _ rfl
      exact ⟨.int_int _ _ _ _, .int_int _ _ _ _, .int_int _ _ _ _⟩
    | str =>
      obtain ⟨t, rfl⟩ := s2 _ rfl
      exact ⟨.int_str _ _ _ _, .int_str _ _ _ _, .int_str _ _ _ _⟩
    | tup h =>
      obtain ⟨a, its, rfl, hl⟩ := tt ru rw'
      exact ⟨.int_tuple _ _ hl hu, .int_tuple _ _ hl hu, .int_tuple _ _ hl hu⟩
    | lst h =>
      obtain ⟨a, its, rfl, hl⟩ := tl ru rw'
      exact ⟨.int_list _ _ hl hu, .int_list _ _ hl hu, .int_list _ _ hl hu⟩
  | str =>
    obtain ⟨t, rfl⟩ := s1 _ rfl
    cases du with
    | non =>
      obtain rfl := n2 rfl
      exact ⟨.str_none _ _, .str_none _ _, .str_none _ _⟩
    | bl =>
      obtain rfl := b2 _ rfl
      exact ⟨.str_bool _ _ _, .str_bool _ _ _, .str_bool _ _ _⟩
    | int =>
      obtain ⟨t, rfl⟩ := i2 _ rfl
      exact ⟨.str_int _ _ _ _, .str_int _ _ _ _, .str_int _ _ _ _⟩
    | str =>
      obtain ⟨t, rfl⟩ := s2 _ rfl
      exact ⟨.str_str _ _ _ _, .str_str _ _ _ _, .str_str _ _ _ _⟩
    | tup h =>
      obtain ⟨a, its, rfl, hl⟩ := tt ru rw'
      exact ⟨.str_tuple _ _ hl hu, .str_tuple _ _ hl hu, .str_tuple _ _ hl hu⟩
    | lst h =>
      obtain ⟨a, its, rfl, hl⟩ := tl ru rw'
      exact ⟨.str_list _ _ hl hu, .str_list _ _ hl hu, .str_list _ _ hl hu⟩
  | tup h0 =>
    obtain ⟨a, its, rfl, hl⟩ := tt rt rv
    cases du with
    | non =>
      obtain rfl := n2 rfl
      exact ⟨.tuple_none hl hu, .tuple_none hl hu, .tuple_none hl hu⟩
    | bl =>
      obtain rfl := b2 _ rfl
      exact ⟨.tuple_bool _ hl hu, .tuple_bool _ hl hu, .tuple_bool _ hl hu⟩
    | int =>
      obtain ⟨t, rfl⟩ := i2 _ rfl
      exact ⟨.tuple_int _ _ hl hu, .tuple_int _ _ hl hu, .tuple_int _ _ hl hu⟩
    | str =>
      obtain ⟨t, rfl⟩ := s2 _ rfl
      exact ⟨.tuple_str _ _ hl hu, .tuple_str _ _ hl hu, .tuple_str _ _ hl hu⟩
    | tup h => exact (nt _ _ rfl rfl).elim
    | lst h =>
      obtain ⟨b, jts, rfl, hl2⟩ := tl ru rw'
      exact ⟨.tuple_list hl hl2 hu, .tuple_list hl hl2 hu, .tuple_list hl hl2 hu⟩
  | lst h0 =>
    obtain ⟨a, its, rfl, hl⟩ := tl rt rv
    cases du with
    | non =>
      obtain rfl := n2 rfl
      exact ⟨.list_none hl hu, .list_none hl hu, .list_none hl hu⟩
    | bl =>
      obtain rfl := b2 _ rfl
      exact ⟨.list_bool _ hl hu, .list_bool _ hl hu, .list_bool _ hl hu⟩
    | int =>
      obtain ⟨t, rfl⟩ := i2 _ rfl
      exact ⟨.list_int _ _ hl hu, .list_int _ _ hl hu, .list_int _ _ hl hu⟩
    | str =>
      obtain ⟨t, rfl⟩ := s2 _ rfl
      exact ⟨.list_str _ _ hl hu, .list_str _ _ hl hu, .list_str _ _ hl hu⟩
    | tup h =>
      obtain ⟨b, jts, rfl, hl2⟩ := tt ru rw'
      exact ⟨.list_tuple hl hl2 hu, .list_tuple hl hl2 hu, .list_tuple hl hl2 hu⟩
    | lst h => exact (nl _ _ rfl rfl).elim
end
end SP

namespace SP
open PySem PySem.Spec PyProof.Rows L2 SeqAt
def nf : T → T
  | .bl b => .int (if b then 1 else 0)
  | t => t
theorem eqT_nf (a b : T) : eqT a b = eqT (nf a) (nf b) := by
  cases a <;> cases b <;> simp only [nf, eqT]
  rename_i x y
  cases x <;> cases y <;> decide
def scalT : T → Bool
  | .tup _ => false
  | .lst _ => false
  | _ => true
theorem nf_eq {a b : T} (ha : scalT a = true) (e : eqT a b = true) : nf a = nf b := by
  rw [eqT_nf] at e
  cases a <;> cases b <;> simp_all [nf, eqT, scalT]
theorem eqT_cong_scal {a b u : T} (ha : scalT a = true) (e : eqT a b = true) : eqT a u = eqT b u := by
  rw [eqT_nf a u, eqT_nf b u, nf_eq ha e]
theorem eqT_cong : ∀ (n : Nat) (a b u : T), Dt n a → Dt n b → Dt n u → eqT a b = true → eqT a u = eqT b u := by
  intro n
  induction n with
  | zero =>
    intro a b u da db du e
    refine eqT_cong_scal ?_ e
    cases da <;> rfl
  | succ n ih =>
    intro a b u da db du e
    have go : ∀ (xs ys us : List T), (∀ t ∈ xs, Dt n t) → (∀ t ∈ ys, Dt n t) → (∀ t ∈ us, Dt n t) → eqTs xs ys = true → eqTs xs us = eqTs ys us := by
      intro xs
      induction xs with
      | nil =>
        intro ys us _ _ _ e
        cases ys with
        | nil => rfl
        | cons y ys => simp [eqTs] at e
      | cons x xs ihx =>
        intro ys us h1 h2 h3 e
        cases ys with
        | nil => simp [eqTs] at e
        | cons y ys =>
          rw [eqTs, Bool.and_eq_true] at e
          cases us with
          | nil => rfl
          | cons z us =>
            rw [eqTs, eqTs, ih x y z (h1 _ List.mem_cons_self) (h2 _ List.mem_cons_self) (h3 _ List.mem_cons_self) e.1,
              ihx ys us (fun t m => h1 t (List.mem_cons_of_mem _ m)) (fun t m => h2 t (List.mem_cons_of_mem _ m)) (fun t m => h3 t (List.mem_cons_of_mem _ m)) e.2]
    cases da with
    | tup h1 =>
      cases db with
      | tup h2 =>
        rw [eqT] at e
        cases du with
        | tup h3 => rw [eqT, eqT]; exact go _ _ _ h1 h2 h3 e
        | _ => rfl
      | _ => simp [eqT] at e
    | lst h1 =>
      cases db with
      | lst h2 =>
        rw [eqT] at e
        cases du with
        | lst h3 => rw [eqT, eqT]; exact go _ _ _ h1 h2 h3 e
        | _ => rfl
      | _ => simp [eqT] at e
    | _ => exact eqT_cong_scal rfl e
section
variable {X : Cx} {L : Lx} {ν : Nu} {pins : List (Addr × Obj)} {σ : L2.St} {H : Hp} {s : Shared}
theorem range_all_len {its : List Value} {ts : List T} {f : Nat → Bool} (h : ts.length = its.length) : (List.range its.toArray.size).all f = (List.range ts.length).all f := by
  rw [h, List.size_toArray]
theorem seq_eq {A : Around} (hu : A.units < cLine) (I : Inv X pins σ H s) {n : Nat} (ih : ∀ (t u : T) (x y : V) (v w : Value), Dt n t → Dt n u → Rep X.K L ν H t x → Rep X.K L ν H u y → RelV x v → RelV y w → EqAt A.in1 s v w (eqT t u))
    {t u : T} {x y : V} {v w : Value} (dt : Dt (n + 1) t) (du : Dt (n + 1) u) (rt : Vw X.K L ν H t x) (ru : Vw X.K L ν H u y) (rv : RelV x v) (rw' : RelV y w) :
    RcAt A s v w (eqT t u) ∧ RcNeAt A s v w (!eqT t u) ∧ (v ≠ w → EqAt A s v w (eqT t u)) := by
  by_cases hl : ∃ ts us, t = .lst ts ∧ u = .lst us
  · obtain ⟨ts, us, rfl, rfl⟩ := hl
    cases dt with
    | lst h1 =>
      cases du with
      | lst h2 =>
        obtain ⟨a, xs, rfl, q1, r1⟩ := vw_lst rt
        obtain ⟨b, ys, rfl, q2, r2⟩ := vw_lst ru
        cases rv
        cases rw'
        obtain ⟨its, v1, p1, _⟩ := I.list (.inl (.inl q1))
        obtain ⟨jts, v2, p2, _⟩ := I.list (.inl (.inl q2))
        have he := items_eq ih h1 h2 r1 r2 v1 v2
        have l1 : ts.length = its.length := by rw [r1.length, v1.length]
        have l2 : us.length = jts.length := by rw [r2.length, v2.length]
        rw [eqT]
        by_cases hz : ts.length = us.length
        · have hz' : its.toArray.size = jts.toArray.size := by rw [List.size_toArray, List.size_toArray, ← l1, ← l2, hz]
          rw [eqTs_all _ _ hz, ← range_all_len l1]
          have rc := RcAt.lists p1.isList p2.isList hz' hu he
          exact ⟨rc, .lists p1.isList p2.isList hz' hu he, fun ne => .of_refs (fun e => ne (by rw [e])) rc⟩
        · have hz' : (its.toArray.size != jts.toArray.size) = true := by
            rw [List.size_toArray, List.size_toArray, ← l1, ← l2]
            simpa using hz
          rw [eqTs_len _ _ hz]
          have rc := RcAt.lists_lengths p1.isList p2.isList hz' hu
          exact ⟨rc, .lists_lengths p1.isList p2.isList hz' hu, fun ne => .of_refs (fun e => ne (by rw [e])) rc⟩
  · by_cases ht : ∃ ts us, t = .tup ts ∧ u = .tup us
    · obtain ⟨ts, us, rfl, rfl⟩ := ht
      cases dt with
      | tup h1 =>
        cases du with
        | tup h2 =>
          obtain ⟨a, xs, rfl, q1, r1⟩ := vw_tup rt
          obtain ⟨b, ys, rfl, q2, r2⟩ := vw_tup ru
          cases rv
          cases rw'
          obtain ⟨its, v1, p1, _⟩ := I.tuple q1
          obtain ⟨jts, v2, p2, _⟩ := I.tuple q2
          have he := items_eq ih h1 h2 r1 r2 v1 v2
          have l1 : ts.length = its.length := by rw [r1.length, v1.length]
          have l2 : us.length = jts.length := by rw [r2.length, v2.length]
          rw [eqT, ← eqTs_min, l1, l2]
          have e1 : ∀ f : Nat → Bool, ((List.range (min its.length jts.length)).all f && its.length == jts.length) = ((List.range (min its.toArray.size jts.toArray.size)).all f && its.toArray.size == jts.toArray.size) := fun f => by
            rw [List.size_toArray, List.size_toArray]
          rw [e1]
          have rc := RcAt.tuples p1 p2 hu he
          exact ⟨rc, .tuples p1 p2 hu he, fun ne => .of_refs (fun e => ne (by rw [e])) rc⟩
    · obtain ⟨h1, h2, h3⟩ := scal_eq hu I dt du rt ru rv rw' (fun ts us e1 e2 => hl ⟨ts, us, e1, e2⟩) (fun ts us e1 e2 => ht ⟨ts, us, e1, e2⟩)
      exact ⟨h2, h3, fun _ => h1⟩
theorem eqAt_T (I : Inv X pins σ H s) : ∀ (n : Nat) (A : Around), A.units + n < cLine → ∀ (t u : T) (x y : V) (v w : Value), Dt n t → Dt n u → Rep X.K L ν H t x → Rep X.K L ν H u y → RelV x v → RelV y w → EqAt A s v w (eqT t u) := by
  intro n
  induction n with
  | zero =>
    intro A hu t u x y v w dt du rt ru rv rw'
    exact (scal_eq (by omega) I dt du (.of rt) (.of ru) rv rw' (fun ts us e => by subst e; cases dt) (fun ts us e => by subst e; cases dt)).1
  | succ n ih =>
    intro A hu t u x y v w dt du rt ru rv rw'
    by_cases e : v = w
    · subst e
      have e2 := RelV.inj rv rw'
      subst e2
      rw [eqT_same I (n + 1) t u x dt du rt ru]
      exact .same _
    · exact (seq_eq (by omega) I (fun t u x y v w dt du rt ru rv rw' => ih A.in1 (by show A.units + 1 + n < cLine; omega) t u x y v w dt du rt ru rv rw') dt du (.of rt) (.of ru) rv rw').2.2 e
end
/-- both plain data, at most 50 deep -/
def Cmp (q : Store) (t u : T) : Prop := Dt 50 (deref q t) ∧ Dt 50 (deref q u)
open Classical in
noncomputable def oEq : Op2 := fun t u q => if Cmp q t u then .ok (.bl (eqT (deref q t) (deref q u))) q else .stuck
open Classical in
noncomputable def oNe : Op2 := fun t u q => if Cmp q t u then .ok (.bl (!eqT (deref q t) (deref q u))) q else .stuck
theorem vw_deref {K : PySem.W.Frag} {L : Lx} {ν : Nu} {q : Store} {H : Hp} {n : Nat} (sim : SimQ K L ν q H) {t : T} {v : V} (r : Rep K L ν H t v) (d : Dt n (deref q t)) : Vw K L ν H (deref q t) v := by
  cases t with
  | obj m =>
    unfold deref at d ⊢
    simp only at d ⊢
    cases e : cell q m with
    | none => exact .of r
    | some u =>
      rw [e] at d
      obtain ⟨a, o, rfl, _, h2, h3⟩ := sim.at_ r e
      cases h3 with
      | lst r => exact .lst h2 r
      | _ => cases d
  | _ => exact .of r
section
variable {L : Lx} {X : Cx}
theorem rc_top {pins : List (Addr × Obj)} {σ : L2.St} {H : Hp} {s : Shared} {ν : Nu} {A : Around} (hu : A.units + 64 < cLine) (I : Inv X pins σ H s) {t u : T} {x y : V} {v w : Value} (dt : Dt 50 t) (du : Dt 50 u) (rt : Vw X.K L ν H t x) (ru : Vw X.K L ν H u y) (rv : RelV x v) (rw' : RelV y w) :
    RcAt A s v w (eqT t u) ∧ RcNeAt A s v w (!eqT t u) := by
  have h := seq_eq (A := A) (n := 50) (by omega) I (fun t u x y v w dt du rt ru rv rw' => eqAt_T I 50 A.in1 (by show A.units + 1 + 50 < cLine; omega) t u x y v w dt du rt ru rv rw') (dt.mono (by omega)) (du.mono (by omega)) rt ru rv rw'
  exact ⟨h.1, h.2.1⟩
theorem os_eq (hu : X.A.units + 64 < cLine) : OpS L X (compareOp .Eq) oEq := by
  rintro pins s σ H x y v u Q I rx ry ⟨ν, q, t, w, sim, rt, rw', p⟩
  unfold oEq at p
  split at p
  · rename_i t' q2 hq
    split at hq
    · rename_i hc
      cases hq
      have h := (rc_top hu I hc.1 hc.2 (vw_deref sim rt hc.1) (vw_deref sim rw' hc.2) rx ry).1
      exact h X.prog X.w X.xe _ ⟨.bl _, H, I, rfl, p ν H _ (Fut.refl _ _) sim (.bl _)⟩
    · cases hq
  · exact p.elim
theorem os_ne (hu : X.A.units + 64 < cLine) : OpS L X (compareOp .NotEq) oNe := by
  rintro pins s σ H x y v u Q I rx ry ⟨ν, q, t, w, sim, rt, rw', p⟩
  unfold oNe at p
  split at p
  · rename_i t' q2 hq
    split at hq
    · rename_i hc
      cases hq
      have h := (rc_top hu I hc.1 hc.2 (vw_deref sim rt hc.1) (vw_deref sim rw' hc.2) rx ry).2
      exact h X.prog X.w X.xe _ ⟨.bl _, H, I, rfl, p ν H _ (Fut.refl _ _) sim (.bl _)⟩
    · cases hq
  · exact p.elim
/-! ### in, not in -/
/-- what a list or a tuple holds -/
def seqAt (q : Store) (t : T) : Option (List T) := match t with
  | .tup ts => some ts
  | t => lstAt q t
def inT (t : T) (us : List T) : Bool := us.any fun u => eqT u t
/-- a text in a text -/
def strIn (a b : Str) : Bool := !(Builtin.Str.occurrences b a 0 b.length 1).isEmpty
open Classical in
noncomputable def oIn (neg : Bool) : Op2 := fun t u q => match t, u with
  | .str a, .str b => .ok (.bl (strIn a b != neg)) q
  | t, u => match seqAt q u with
    | some us => if Dt 50 t ∧ ∀ u ∈ us, Dt 50 u then .ok (.bl (inT t us != neg)) q else .stuck
    | none => .stuck
open Classical in
/-- the answers by values -/
noncomputable def ansV (its : List Value) (us : List T) (t : T) (v : Value) : Bool := @decide (∃ (j : Nat) (u : T), its[j]? = some v ∧ us[j]? = some u ∧ eqT u t = true) (propDecidable _)
theorem ansV_eq {pins : List (Addr × Obj)} {σ : L2.St} {H : Hp} {s : Shared} {ν : Nu} (I : Inv X pins σ H s) {us : List T} {ys : List V} {its : List Value} {t : T} (ht : Dt 50 t) (hus : ∀ u ∈ us, Dt 50 u) (r : Reps X.K L ν H us ys) (rv : Vals ys its) {j : Nat} {v : Value} {u : T}
    (e1 : its[j]? = some v) (e2 : us[j]? = some u) : ansV its us t v = eqT u t := by
  unfold ansV
  cases e : eqT u t with
  | true => exact @decide_eq_true _ (Classical.propDecidable _) ⟨j, u, e1, e2, e⟩
  | false =>
    refine @decide_eq_false _ (Classical.propDecidable _) ?_
    rintro ⟨k, u', e1', e2', e'⟩
    obtain ⟨y, f1, g1⟩ := r.get j e2
    obtain ⟨y', f2, g2⟩ := r.get k e2'
    obtain ⟨w, k1, l1⟩ := rv.get f1
    obtain ⟨w', k2, l2⟩ := rv.get f2
    rw [e1] at k1; cases k1
    rw [e1'] at k2; cases k2
    have ey := RelV.inj l1 l2
    subst ey
    have c := eqT_cong 50 u u' t (hus u (List.mem_of_getElem? e2)) (hus u' (List.mem_of_getElem? e2')) ht (eqT_same I 50 u u' y (hus u (List.mem_of_getElem? e2)) (hus u' (List.mem_of_getElem? e2')) g1 g2)
    rw [e, e'] at c
    cases c
theorem ansV_any {pins : List (Addr × Obj)} {σ : L2.St} {H : Hp} {s : Shared} {ν : Nu} (I : Inv X pins σ H s) {us : List T} {ys : List V} {its : List Value} {t : T} (ht : Dt 50 t) (hus : ∀ u ∈ us, Dt 50 u) (r : Reps X.K L ν H us ys) (rv : Vals ys its) : its.any (ansV its us t) = inT t us := by
  have hl : us.length = its.length := by rw [r.length, rv.length]
  unfold inT
  rw [Bool.eq_iff_iff, List.any_eq_true, List.any_eq_true]
  constructor
  · rintro ⟨v, hv, e⟩
    obtain ⟨j, hj, ej⟩ := List.getElem_of_mem hv
    have e1 : its[j]? = some v := by rw [List.getElem?_eq_getElem hj, ej]
    have hj2 : j < us.length := by rw [hl]; exact hj
    refine ⟨us[j], List.getElem_mem hj2, ?_⟩
    rw [← ansV_eq I ht hus r rv e1 (List.getElem?_eq_getElem hj2)]
    exact e
  · rintro ⟨u, hu, e⟩
    obtain ⟨j, hj, ej⟩ := List.getElem_of_mem hu
    have e1 : us[j]? = some u := by rw [List.getElem?_eq_getElem hj, ej]
    have hj2 : j < its.length := by rw [← hl]; exact hj
    refine ⟨its[j], List.getElem_mem hj2, ?_⟩
    rw [ansV_eq I ht hus r rv (List.getElem?_eq_getElem hj2) e1]
    exact e
theorem in_items {pins : List (Addr × Obj)} {σ : L2.St} {H : Hp} {s : Shared} {ν : Nu} {A : Around} (hu : A.units + 64 < cLine) (I : Inv X pins σ H s) {us : List T} {ys : List V} {its : List Value} {t : T} {x : V} {v : Value} (ht : Dt 50 t) (hus : ∀ u ∈ us, Dt 50 u) (r : Reps X.K L ν H us ys) (rv : Vals ys its)
    (rt : Rep X.K L ν H t x) (rx : RelV x v) : ∀ y, y ∈ its → EqAt A.in1 s y v (ansV its us t y) := fun y hy => by
  obtain ⟨j, hj, ej⟩ := List.getElem_of_mem hy
  have e1 : its[j]? = some y := by rw [List.getElem?_eq_getElem hj, ej]
  have hl : us.length = its.length := by rw [r.length, rv.length]
  have hj2 : j < us.length := by rw [hl]; exact hj
  have e2 := List.getElem?_eq_getElem hj2
  rw [ansV_eq I ht hus r rv e1 e2]
  obtain ⟨z, f1, g1⟩ := r.get j e2
  obtain ⟨w, k1, l1⟩ := rv.get f1
  rw [e1] at k1; cases k1
  exact eqAt_T I 50 A.in1 (by show A.units + 1 + 50 < cLine; omega) _ _ _ _ _ _ (hus _ (List.getElem_mem hj2)) ht g1 rt l1 rx
theorem os_notin (hu : X.A.units + 64 < cLine) : OpS L X (compareOp .NotIn) (oIn true) := by
  rintro pins s σ H x y v u Q I rx ry ⟨ν, q, t, w, sim, rt, rw', p⟩
  unfold oIn at p
  split at p
  · rename_i t' q2 hq
    split at hq
    · cases hq
      obtain rfl := rep_str rt
      obtain rfl := rep_str rw'
      refine op_notIn_str pins s σ H _ _ v u Q I rx ry ⟨_, _, rfl, rfl, ?_⟩
      have e := p ν H _ (Fut.refl _ _) sim (.bl _)
      rw [show (strIn _ _ != true) = !strIn _ _ from Bool.bne_true _] at e
      exact e
    · split at hq
      · rename_i us e1
        split at hq
        · rename_i hc
          cases hq
          have fin := p ν H _ (Fut.refl _ _) sim (.bl _)
          rw [show (inT t us != true) = !inT t us from Bool.bne_true _] at fin
          unfold seqAt at e1
          split at e1
          · cases e1
            obtain ⟨a, ys, rfl, h, r⟩ := tup_of rw'
            cases ry
            obtain ⟨its, rv, pt, _⟩ := I.tuple h
            refine notIn_tupleAt (ansV its us t) pt (fun z hz => in_items hu I hc.1 hc.2 r rv rt rx z (by simpa using hz)) ?_
            rw [List.any_toArray, ansV_any I hc.1 hc.2 r rv]
            exact ⟨.bl _, H, I, rfl, fin⟩
          · obtain ⟨a, ys, rfl, h, r⟩ := lst_of sim rw' e1
            cases ry
            obtain ⟨its, rv, pt, _⟩ := I.list (.inl (.inl h))
            refine notIn_listAt (ansV its us t) pt.isList (fun z hz => in_items hu I hc.1 hc.2 r rv rt rx z (by simpa using hz)) ?_
            rw [List.any_toArray, ansV_any I hc.1 hc.2 r rv]
            exact ⟨.bl _, H, I, rfl, fin⟩
        · cases hq
      · cases hq
  · exact p.elim
end
end SP

namespace SP
open PySem PySem.Spec PyProof.Rows L2 SeqAt
/-! ### dicts by trees: keys are ints and texts -/
def kEq : T → T → Bool
  | .int i, .int j => decide (i = j)
  | .str a, .str b => decide (a = b)
  | _, _ => false
def keyT : T → Option Key
  | .int i => some (.inl i)
  | .str s => some (.inr s)
  | _ => none
def dval (kvs : List (T × T)) (k : T) : Option T := (kvs.find? fun p => kEq p.1 k).map (·.2)
def dput (kvs : List (T × T)) (k v : T) : List (T × T) :=
  if (kvs.any fun p => kEq p.1 k) = true then kvs.map (fun p => if kEq p.1 k = true then (p.1, v) else p) else kvs ++ [(k, v)]
def ddrop (kvs : List (T × T)) (k : T) : List (T × T) := kvs.filter fun p => !kEq p.1 k
theorem kEq_kT (a b : Key) : kEq (kT a) (kT b) = decide (a = b) := by
  cases a <;> cases b <;> simp [kEq, kT]
theorem keyT_some {t : T} {k : Key} (h : keyT t = some k) : t = kT k := by
  cases t <;> simp only [keyT] at h <;> cases h <;> rfl
section
variable {K : PySem.W.Frag} {L : Lx} {ν : Nu} {q : Store} {H : Hp}
theorem rep_key {k : Key} {v : V} (r : Rep K L ν H (kT k) v) : v = kV k := by
  cases k <;> cases r <;> rfl
theorem key_rep (k : Key) : Rep K L ν H (kT k) (kV k) := by
  cases k
  · exact .int _
  · exact .str _
theorem RepK.length : ∀ {ts : List (T × T)} {vs : List (Key × V)}, RepK K L ν H ts vs → ts.length = vs.length
  | _, _, .nil => rfl
  | _, _, .cons _ r => by rw [List.length_cons, List.length_cons, RepK.length r]
theorem RepK.val (k : Key) : ∀ {ts : List (T × T)} {vs : List (Key × V)}, RepK K L ν H ts vs →
    (dval ts (kT k) = none ∧ valV vs k = none) ∨ ∃ t v, dval ts (kT k) = some t ∧ valV vs k = some v ∧ Rep K L ν H t v
  | _, _, .nil => .inl ⟨rfl, rfl⟩
  | _, _, @RepK.cons _ _ _ _ j t v ts vs h r => by
    by_cases e : j = k
    · subst e
      refine .inr ⟨t, v, ?_, ?_, h⟩
      · simp [dval, kEq_kT]
      · rw [valV_pos rfl]
    · have e1 : dval ((kT j, t) :: ts) (kT k) = dval ts (kT k) := by
        simp [dval, kEq_kT, e]
      rw [e1, valV_neg e]
      exact RepK.val k r
theorem RepK.any (k : Key) : ∀ {ts : List (T × T)} {vs : List (Key × V)}, RepK K L ν H ts vs → (ts.any fun p => kEq p.1 (kT k)) = vs.any fun kv => decide (kv.1 = k)
  | _, _, .nil => rfl
  | _, _, .cons h r => by rw [List.any_cons, List.any_cons, kEq_kT, RepK.any k r]
theorem RepK.repl (k : Key) {w : T} {y : V} (hw : Rep K L ν H w y) : ∀ {ts : List (T × T)} {vs : List (Key × V)}, RepK K L ν H ts vs →
    RepK K L ν H (ts.map fun p => if kEq p.1 (kT k) = true then (p.1, w) else p) (vs.map fun kv => if kv.1 = k then (kv.1, y) else kv)
  | _, _, .nil => .nil
  | _, _, @RepK.cons _ _ _ _ j t v ts vs h r => by
    rw [List.map_cons, List.map_cons, kEq_kT]
    by_cases e : j = k
    · rw [if_pos (decide_eq_true e), if_pos e]
      exact .cons hw (RepK.repl k hw r)
    · rw [if_neg (by simpa using e), if_neg e]
      exact .cons h (RepK.repl k hw r)
theorem RepK.snoc (k : Key) {w : T} {y : V} (hw : Rep K L ν H w y) : ∀ {ts : List (T × T)} {vs : List (Key × V)}, RepK K L ν H ts vs → RepK K L ν H (ts ++ [(kT k, w)]) (vs ++ [(k, y)])
  | _, _, .nil => .cons hw .nil
  | _, _, .cons h r => .cons h (RepK.snoc k hw r)
theorem RepK.put (k : Key) {w : T} {y : V} (hw : Rep K L ν H w y) {ts : List (T × T)} {vs : List (Key × V)} (r : RepK K L ν H ts vs) : RepK K L ν H (dput ts (kT k) w) (putK vs k y) := by
  unfold dput putK
  rw [r.any k]
  split
  · exact r.repl k hw
  · exact r.snoc k hw
theorem RepK.drop (k : Key) : ∀ {ts : List (T × T)} {vs : List (Key × V)}, RepK K L ν H ts vs → RepK K L ν H (ddrop ts (kT k)) (dropK vs k)
  | _, _, .nil => .nil
  | _, _, @RepK.cons _ _ _ _ j t v ts vs h r => by
    have ih := RepK.drop k r
    unfold ddrop dropK at ih ⊢
    rw [List.filter_cons, List.filter_cons, kEq_kT]
    by_cases e : j = k
    · rw [if_neg (by simpa using e), if_neg (by simpa using e)]
      exact ih
    · rw [if_pos (by simpa using e), if_pos (by simpa using e)]
      exact .cons h ih
theorem dct_of (s : SimQ K L ν q H) {t : T} {v : V} {ts : List (T × T)} (r : Rep K L ν H t v) (h : dctAt q t = some ts) : ∃ a kvs, v = .ref a ∧ Rd H a (.dK kvs) ∧ RepK K L ν H ts kvs := by
  cases t with
  | dct us =>
    cases h
    cases r with
    | dctK n h r => exact ⟨_, _, rfl, h, r⟩
  | obj n =>
    unfold dctAt at h
    simp only at h
    split at h
    · rename_i us e
      cases h
      obtain ⟨a, o, h1, _, h2, h3⟩ := s.at_ r e
      cases h3 with
      | dctK r => exact ⟨a, _, h1, .inl h2, r⟩
    · cases h
  | _ => cases h
theorem dget_of {a : Addr} {kvs : List (Key × V)} (h : Rd H a (.dK kvs)) (k : Key) : DGet H a (kV k) (valV kvs k) := .inl ⟨kvs, k, h, rfl, rfl⟩
end
/-! ### in -/
open Classical in
noncomputable def oInA (neg : Bool) : Op2 := fun t u q => match dctAt q u with
  | some kvs => match keyT t with
    | some _ => .ok (.bl ((dval kvs t).isSome != neg)) q
    | none => .stuck
  | none => oIn neg t u q
section
variable {L : Lx} {X : Cx}
theorem os_notinA (hu : X.A.units + 64 < cLine) : OpS L X (compareOp .NotIn) (oInA true) := by
  rintro pins s σ H x y v u Q I rx ry ⟨ν, q, t, w, sim, rt, rw', p⟩
  unfold oInA at p
  cases e : dctAt q w with
  | none =>
    rw [e] at p
    exact os_notin hu pins s σ H x y v u Q I rx ry ⟨ν, q, t, w, sim, rt, rw', p⟩
  | some kvs =>
    rw [e] at p
    cases ek : keyT t with
    | none => rw [ek] at p; exact p.elim
    | some k =>
      rw [ek] at p
      have et := keyT_some ek
      subst et
      obtain ⟨a, vs, rfl, h, r⟩ := dct_of sim rw' e
      obtain rfl := rep_key rt
      cases ry
      refine d_notIn (by omega) I (dget_of h k) rx fun s' I' => ?_
      have fin := p ν H _ (Fut.refl _ _) sim (.bl _)
      rw [show ((dval kvs (kT k)).isSome != true) = !(valV vs k).isSome by
        rcases r.val k with ⟨e1, e2⟩ | ⟨t, v, e1, e2, _⟩ <;> rw [e1, e2] <;> rfl] at fin
      exact ⟨.bl _, H, I', rfl, fin⟩
end
/-! ### subscripts -/
open Classical in
noncomputable def oIx : Op2 := fun t u q => match t, u with
  | .str a, .int i => match atI a.cps.toList i with
    | some c => if a.length ≤ sizeLine then .ok (.str ⟨#[c]⟩) q else .stuck
    | none => .stuck
  | t, u => match dctAt q t with
    | some kvs => match keyT u, dval kvs u with
      | some _, some v => .ok v q
      | _, _ => .stuck
    | none => match seqAt q t, u with
      | some ts, .int i => match atI ts i with
        | some v => .ok v q
        | none => .stuck
      | _, _ => .stuck
section
variable {K : PySem.W.Frag} {L : Lx} {ν : Nu} {q : Store} {H : Hp}
theorem seq_of (s : SimQ K L ν q H) {t : T} {v : V} {ts : List T} (r : Rep K L ν H t v) (h : seqAt q t = some ts) : ∃ a xs, v = .ref a ∧ (SqL K H a xs ∨ SqT K H a xs) ∧ Reps K L ν H ts xs := by
  unfold seqAt at h
  split at h
  · cases h
    obtain ⟨a, xs, e, h1, h2⟩ := tup_of r
    exact ⟨a, xs, e, .inr h1, h2⟩
  · obtain ⟨a, xs, e, h1, h2⟩ := lst_of s r h
    exact ⟨a, xs, e, .inl (.inl (.inl h1)), h2⟩
theorem reps_atI {ts : List T} {xs : List V} {i : Int} {t : T} (r : Reps K L ν H ts xs) (h : atI ts i = some t) : ∃ v, atI xs i = some v ∧ Rep K L ν H t v := by
  unfold atI at h ⊢
  rw [← r.length]
  cases e : ixN ts.length i with
  | none => rw [e] at h; cases h
  | some j =>
    rw [e] at h
    obtain ⟨v, h1, h2⟩ := r.get j (show ts[j]? = some t from h)
    exact ⟨v, h1, h2⟩
end
section
variable {L : Lx} {X : Cx} {a b : Expr} {f g : Sm} {pos : Pos}
theorem ix_all (hu : X.A.units + 64 < cLine) : IxR X fun x y H Q => ∃ ν q t u, SimQ X.K L ν q H ∧ Rep X.K L ν H t x ∧ Rep X.K L ν H u y ∧ match oIx t u q with
    | .ok w q' => ∀ ν' H' v, Fut ν H ν' H' → SimQ X.K L ν' q' H' → Rep X.K L ν' H' w v → Q v H'
    | _ => False := by
  rintro value slice pins s σ H x y v u Q I rx ry ⟨ν, q, t, w, sim, rt, rw', p⟩ hs
  unfold oIx at p
  split at p
  · rename_i t' q2 hq
    split at hq
    · rename_i z i
      cases e : atI z.cps.toList i with
      | none => rw [e] at hq; cases hq
      | some c =>
        rw [e] at hq
        simp only at hq
        split at hq
        · rename_i hz
          cases hq
          obtain rfl := rep_str rt
          obtain rfl := rep_int rw'
          exact ix_str value slice pins s σ H _ _ v u Q I rx ry ⟨_, _, _, rfl, rfl, hz, e, p ν H _ (Fut.refl _ _) sim (.str _)⟩ hs
        · cases hq
    · split at hq
      · rename_i kvs e
        split at hq
        · rename_i k w' ek ev
          cases hq
          have et := keyT_some ek
          subst et
          obtain ⟨a, vs, rfl, h, r⟩ := dct_of sim rt e
          obtain rfl := rep_key rw'
          cases rx
          rcases r.val k with ⟨e1, e2⟩ | ⟨t3, v3, e1, e2, r3⟩
          · rw [e1] at ev; cases ev
          · rw [e1] at ev
            cases ev
            have g := dget_of (H := H) h k
            rw [e2] at g
            refine tail_any (dict_typeIs I g) PySem.F.slot_dict_getitem.lookup ?_ hs
            exact d_getItem (by omega) I g ry fun w2 s3 I3 rw2 => ⟨v3, H, I3, rw2, p ν H _ (Fut.refl _ _) sim r3⟩
        · cases hq
      · cases e1 : seqAt q t with
        | none => rw [e1] at hq; cases hq
        | some ts =>
          rw [e1] at hq
          cases w with
          | int i =>
            cases e : atI ts i with
            | none => simp only [e] at hq; cases hq
            | some w2 =>
              simp only [e] at hq
              cases hq
              obtain ⟨a, xs, rfl, h, r⟩ := seq_of sim rt e1
              obtain rfl := rep_int rw'
              obtain ⟨v2, h2, r2⟩ := reps_atI r e
              have fin := p ν H _ (Fut.refl _ _) sim r2
              rcases h with h | h
              · exact ix_list value slice pins s σ H _ _ v u Q I rx ry ⟨_, _, _, _, rfl, rfl, h, h2, fin⟩ hs
              · exact ix_tup value slice pins s σ H _ _ v u Q I rx ry ⟨_, _, _, _, rfl, rfl, h, h2, fin⟩ hs
          | _ => cases hq
  · exact p.elim
theorem oIx_ne (t u : T) (q : Store) (c : Str) (fs : List (Str × T)) (q' : Store) : oIx t u q ≠ .exc c fs q' := by
  unfold oIx
  repeat' split
  all_goals (first | nofun | (repeat' split) <;> nofun)
theorem se_ix (hu : X.A.units + 64 < cLine) (ha : SE L X a f) (hb : SE L X b g) (hs : PlainIx b := by intro _ _; rfl) : SE L X (.Subscript a b pos) (sOp oIx f g) :=
  ⟨fun W tk => PE.imp (pe_ix (ix_all hu) (ha.pe W tk) (hb.pe W tk) hs) fun σ H Q h => bin_rd (fun x y H Q h => h) oIx_ne h⟩
end
end SP

namespace SP
open PySem PySem.Spec PyProof.Rows L2 SeqAt
/-! ### tests -/
abbrev St' := TEnv → Store → R Bool
def PostR {α : Type} (K : PySem.W.Frag) (L : Lx) (W : WX) (σ : L2.St) (ν : Nu) (H : Hp) (r : R α) (P : α → Nu → Hp → Prop) : Prop := match r with
  | .ok a q => ∀ ν' H', Fut ν H ν' H' → SimQ K L ν' q H' → P a ν' H'
  | .exc c fs q => ∀ ν' H' cls d, Fut ν H ν' H' → SimQ K L ν' q H' → ExcAt K L ν' H' c fs cls d → W cls d σ H'
  | .stuck => False
section
variable {K : PySem.W.Frag} {L : Lx} {W : WX} {σ : L2.St} {ν ν' : Nu} {H H' : Hp}
theorem PostR.fut {α : Type} {r : R α} {P : α → Nu → Hp → Prop} (f : Fut ν H ν' H') (h : PostR K L W σ ν H r P) : PostR K L W σ ν' H' r P := by
  cases r with
  | ok t q => exact fun ν2 H2 g s => h ν2 H2 (f.trans g) s
  | exc c fs q => exact fun ν2 H2 cls d g s x => h ν2 H2 cls d (f.trans g) s x
  | stuck => exact h
/-- the first part of a bind -/
theorem PostR.bind1 {α β : Type} {r : R α} {g : α → Store → R β} {P : β → Nu → Hp → Prop} {P' : α → Nu → Hp → Prop} (h : PostR K L W σ ν H (r.bind g) P)
    (hP : ∀ a q ν' H', r = .ok a q → Fut ν H ν' H' → SimQ K L ν' q H' → PostR K L W σ ν' H' (g a q) P → P' a ν' H') : PostR K L W σ ν H r P' := by
  cases e : r with
  | ok a q =>
    rw [e] at h
    exact fun ν' H' f s => hP a q ν' H' e f s (PostR.fut f h)
  | exc c fs q => rw [e] at h; exact h
  | stuck => rw [e] at h; exact h
theorem postE_iff {r : R T} {Q : VK} : PostE K L W σ ν H r Q ↔ PostR K L W σ ν H r fun t ν' H' => ∀ v, Rep K L ν' H' t v → Q v H' := by
  cases r with
  | ok t q => exact ⟨fun h ν' H' f s v r => h ν' H' v f s r, fun h ν' H' v f s r => h ν' H' f s v r⟩
  | exc c fs q => exact Iff.rfl
  | stuck => exact Iff.rfl
theorem PostR.now {α : Type} {a : α} {q : Store} {P : α → Nu → Hp → Prop} (h : PostR K L W σ ν H (.ok a q) P) (s : SimQ K L ν q H) : P a ν H := h ν H (Fut.refl _ _) s
end
def rdT (K : PySem.W.Frag) (L : Lx) (W : WX) (f : St') : TT := fun σ H Q => ∃ ν ρ q, SimQ K L ν q H ∧ EnvOk K L ν H ρ σ ∧ PostR K L W σ ν H (f ρ q) fun b _ H' => Q b H'
structure ST (L : Lx) (X : Cx) (e : Expr) (f : St') : Prop where
  pt : ∀ W, Takes X W → PT X e (rdT X.K L W f)
structure SW (L : Lx) (X : Cx) (e : Expr) (f : St') : Prop where
  pw : ∀ W, Takes X W → PW X e (rdT X.K L W f)
def truT (q : Store) (t : T) : Option Bool := match t with
  | .non => some false
  | .bl b => some b
  | .int i => some (i != 0)
  | .tup ts => some (!ts.isEmpty)
  | t => (lstAt q t).map fun ts => !ts.isEmpty
def tVal (f : Sm) : St' := fun ρ q => (f ρ q).bind fun t q' => match truT q' t with
  | some b => .ok b q'
  | none => .stuck
def tBl (f : Sm) : St' := fun ρ q => (f ρ q).bind fun t q' => match t with
  | .bl b => .ok b q'
  | _ => .stuck
def tNt (f : St') : St' := fun ρ q => (f ρ q).bind fun b q' => .ok (!b) q'
def tAn (f g : St') : St' := fun ρ q => (f ρ q).bind fun b q' => if b = true then g ρ q' else .ok false q'
def tOr' (f g : St') : St' := fun ρ q => (f ρ q).bind fun b q' => if b = true then .ok true q' else g ρ q'
def sAnd (f g : Sm) : Sm := fun ρ q => (f ρ q).bind fun t q' => match t with
  | .bl b => if b = true then g ρ q' else .ok (.bl false) q'
  | _ => .stuck
def sOr (f g : Sm) : Sm := fun ρ q => (f ρ q).bind fun t q' => match t with
  | .bl b => if b = true then .ok (.bl true) q' else g ρ q'
  | _ => .stuck
def sNot (f : Sm) : Sm := fun ρ q => (f ρ q).bind fun t q' => match t with
  | .bl b => .ok (.bl (!b)) q'
  | _ => .stuck
def sIf (c : St') (f g : Sm) : Sm := fun ρ q => (c ρ q).bind fun b q' => if b = true then f ρ q' else g ρ q'
section
variable {L : Lx} {X : Cx} {a b c e : Expr} {rest : List Expr} {f g h : Sm} {t u : St'} {pos : Pos}
/-- from a value's reading to a reading of what follows -/
theorem rdE_of {K : PySem.W.Frag} {W : WX} {σ : L2.St} {H : Hp} {α : Type} {k : T → Store → R α} {P : α → Nu → Hp → Prop} {Q : VK} {ν : Nu} {ρ : TEnv} {q : Store} (s : SimQ K L ν q H) (en : EnvOk K L ν H ρ σ) (p : PostR K L W σ ν H ((f ρ q).bind k) P)
    (hQ : ∀ t v q' ν' H', Fut ν H ν' H' → SimQ K L ν' q' H' → EnvOk K L ν' H' ρ σ → Rep K L ν' H' t v → PostR K L W σ ν' H' (k t q') P → Q v H') : rdE K L W f σ H Q :=
  ⟨ν, ρ, q, s, en, postE_iff.mpr (PostR.bind1 p fun t q' ν' H' _ ft s' p' v r => hQ t v q' ν' H' ft s' (en.fut ft) r p')⟩
theorem rdT_of {K : PySem.W.Frag} {W : WX} {σ : L2.St} {H : Hp} {α : Type} {k : Bool → Store → R α} {P : α → Nu → Hp → Prop} {Q : Bool → Hp → Prop} {ν : Nu} {ρ : TEnv} {q : Store} (s : SimQ K L ν q H) (en : EnvOk K L ν H ρ σ) (p : PostR K L W σ ν H ((t ρ q).bind k) P)
    (hQ : ∀ b q' ν' H', Fut ν H ν' H' → SimQ K L ν' q' H' → EnvOk K L ν' H' ρ σ → PostR K L W σ ν' H' (k b q') P → Q b H') : rdT K L W t σ H Q :=
  ⟨ν, ρ, q, s, en, PostR.bind1 p fun b q' ν' H' _ ft s' p' => hQ b q' ν' H' ft s' (en.fut ft) p'⟩
theorem tru_of {K : PySem.W.Frag} {ν : Nu} {q : Store} {H : Hp} (s : SimQ K L ν q H) {t : T} {v : V} {b : Bool} (r : Rep K L ν H t v) (h : truT q t = some b) : TruV K v H b := by
  unfold truT at h
  split at h
  · cases h; cases r; rfl
  · cases h; cases r; rfl
  · cases h; cases r; rfl
  · cases h
    obtain ⟨a, xs, rfl, h1, r1⟩ := tup_of r
    refine .inr (.inl ⟨xs, h1, ?_⟩)
    cases r1 <;> rfl
  · cases e : lstAt q t with
    | none => rw [e] at h; cases h
    | some us =>
      rw [e] at h
      cases h
      obtain ⟨a, xs, rfl, h1, r1⟩ := lst_of s r e
      refine .inl ⟨xs, .inl (.inl h1), ?_⟩
      cases r1 <;> rfl
theorem st_val (ha : SE L X a f) (he : ∀ whole, isTrue a X.env whole = (do let v ← whole; standAt a.pos; holding [v] (truthy v)) := by intro _; rfl) : ST L X a (tVal f) :=
  ⟨fun W tk => PT.imp (pt_truth (ha.pe W tk) he) fun σ H Q ⟨ν, ρ, q, s, en, p⟩ => rdE_of s en p fun t v q' ν' H' ft s' en' r p' => by
    cases e : truT q' t with
    | none => rw [e] at p'; exact p'.elim
    | some b =>
      rw [e] at p'
      exact ⟨b, tru_of s' r e, p'.now s'⟩⟩
theorem st_cmp {op : CmpOp} {o : Op2} (hs : OpS L X (compareOp op) o) (ho : ∀ t u q c fs q', o t u q ≠ .exc c fs q') (ha : SE L X a f) (hb : SE L X b g) (hm : behindInMarks op b = false) : ST L X (.Compare a [op] [b] pos) (tBl (sOp o f g)) :=
  ⟨fun W tk => PT.imp (pt_cmpR hs (ha.pe W tk) (hb.pe W tk) hm) fun σ H Q ⟨ν, ρ, q, s, en, p⟩ => by
    refine bin_rd (fun x y H Q h => h) ho ?_
    exact rdE_of s en p fun t v q' ν' H' ft s' en' r p' => by
      cases t with
      | bl b => cases r; exact ⟨b, rfl, p'.now s'⟩
      | _ => exact p'.elim⟩
theorem st_not (ha : ST L X a t) : ST L X (.UnaryOp .Not a pos) (tNt t) :=
  ⟨fun W tk => PT.imp (pt_not (ha.pt W tk)) fun σ H Q ⟨ν, ρ, q, s, en, p⟩ => rdT_of s en p fun b q' ν' H' ft s' en' p' => p'.now s'⟩
theorem sw_and1 (ha : ST L X a t) : SW L X (.BoolOp .And [a] pos) t := ⟨fun W tk => pw_and1 (ha.pt W tk)⟩
theorem sw_or1 (ha : ST L X a t) : SW L X (.BoolOp .Or [a] pos) t := ⟨fun W tk => pw_or1 (ha.pt W tk)⟩
theorem sw_and (ha : ST L X a t) (hb : SW L X (.BoolOp .And (b :: rest) pos) u) : SW L X (.BoolOp .And (a :: b :: rest) pos) (tAn t u) :=
  ⟨fun W tk => PW.imp (pw_and (ha.pt W tk) (hb.pw W tk)) fun σ H Q ⟨ν, ρ, q, s, en, p⟩ => rdT_of s en p fun b q' ν' H' ft s' en' p' => by
    cases b with
    | true => exact ⟨ν', ρ, q', s', en', p'⟩
    | false => exact p'.now s'⟩
theorem sw_or (ha : ST L X a t) (hb : SW L X (.BoolOp .Or (b :: rest) pos) u) : SW L X (.BoolOp .Or (a :: b :: rest) pos) (tOr' t u) :=
  ⟨fun W tk => PW.imp (pw_or (ha.pt W tk) (hb.pw W tk)) fun σ H Q ⟨ν, ρ, q, s, en, p⟩ => rdT_of s en p fun b q' ν' H' ft s' en' p' => by
    cases b with
    | true => exact p'.now s'
    | false => exact ⟨ν', ρ, q', s', en', p'⟩⟩
theorem SW.st (h : SW L X e t) : ST L X e t := ⟨fun W tk => (h.pw W tk).pt⟩
/-! ### as values -/
theorem se_not (ha : SE L X a f) : SE L X (.UnaryOp .Not a pos) (sNot f) :=
  ⟨fun W tk => PE.imp (pe_not (ha.pe W tk)) fun σ H Q ⟨ν, ρ, q, s, en, p⟩ => rdE_of s en (postE_iff.mp p) fun t v q' ν' H' ft s' en' r p' => by
    cases t with
    | bl b =>
      cases r
      exact ⟨b, rfl, (p'.now s') _ (.bl _)⟩
    | _ => exact p'.elim⟩
/-- a op b op' c -/
def sChain (o o' : Op2) (f g h : Sm) : Sm := fun ρ q => (f ρ q).bind fun t q1 => (g ρ q1).bind fun u q2 => (o t u q2).bind fun w q3 => match w with
  | .bl k => if k = true then (h ρ q3).bind fun z q4 => o' u z q4 else .ok (.bl false) q3
  | _ => .stuck
theorem chain_rd {K : PySem.W.Frag} {W : WX} {o o' : Op2} {r r' : R2} {σ : L2.St} {H : Hp} {Q : VK}
    (hr : ∀ x y H Q, (∃ ν q t u, SimQ K L ν q H ∧ Rep K L ν H t x ∧ Rep K L ν H u y ∧ match o t u q with
      | .ok w q' => ∀ ν' H' v, Fut ν H ν' H' → SimQ K L ν' q' H' → Rep K L ν' H' w v → Q v H'
      | _ => False) → r x y H Q)
    (hr' : ∀ x y H Q, (∃ ν q t u, SimQ K L ν q H ∧ Rep K L ν H t x ∧ Rep K L ν H u y ∧ match o' t u q with
      | .ok w q' => ∀ ν' H' v, Fut ν H ν' H' → SimQ K L ν' q' H' → Rep K L ν' H' w v → Q v H'
      | _ => False) → r' x y H Q)
    (ho : ∀ t u q c fs q', o t u q ≠ .exc c fs q') (ho' : ∀ t u q c fs q', o' t u q ≠ .exc c fs q') (p : rdE K L W (sChain o o' f g h) σ H Q) : tChain r r' (rdE K L W f) (rdE K L W g) (rdE K L W h) σ H Q := by
  obtain ⟨ν, ρ, q, s, en, p⟩ := p
  refine rdE_of s en (postE_iff.mp p) fun t x q1 ν1 H1 f1 s1 en1 r1 p1 => ?_
  refine rdE_of s1 en1 p1 fun u y q2 ν2 H2 f2 s2 en2 r2 p2 => ?_
  refine hr _ _ _ _ ⟨ν2, q2, t, u, s2, r1.fut f2, r2, ?_⟩
  cases e : o t u q2 with
  | exc c fs q' => exact absurd e (ho _ _ _ _ _ _)
  | stuck => rw [e] at p2; exact p2
  | ok w q3 =>
    rw [e, bind_ok] at p2
    intro ν3 H3 z f3 s3 r3
    have p3 := PostR.fut f3 p2
    cases w with
    | bl k =>
      cases r3
      refine ⟨k, rfl, ?_⟩
      cases k with
      | true =>
        have p3 : PostR K L W σ ν3 H3 ((h ρ q3).bind fun z q4 => o' u z q4) (fun t ν' H' => ∀ v, Rep K L ν' H' t v → Q v H') := p3
        show rdE K L W h σ H3 fun w' H4 => r' y w' H4 Q
        refine rdE_of s3 (en2.fut f3) p3 fun w2 y2 q4 ν4 H4 f4 s4 en4 r4 p4 => ?_
        refine hr' _ _ _ _ ⟨ν4, q4, u, w2, s4, r2.fut (f3.trans f4), r4, ?_⟩
        cases e4 : o' u w2 q4 with
        | exc c fs q' => exact absurd e4 (ho' _ _ _ _ _ _)
        | stuck => rw [e4] at p4; exact p4
        | ok w4 q5 => rw [e4] at p4; exact fun ν5 H5 v f5 s5 r5 => p4 ν5 H5 f5 s5 v r5
      | false =>
        have p3 : PostR K L W σ ν3 H3 (.ok (.bl false) q3) (fun t ν' H' => ∀ v, Rep K L ν' H' t v → Q v H') := p3
        show Q (V.bl false) H3
        exact (p3.now s3) _ (.bl _)
    | _ => exact p3.elim
theorem se_chain {op op' : CmpOp} {o o' : Op2} (hs : OpS L X (compareOp op) o) (hs' : OpS L X (compareOp op') o') (ho : ∀ t u q c fs q', o t u q ≠ .exc c fs q') (ho' : ∀ t u q c fs q', o' t u q ≠ .exc c fs q') (ha : SE L X a f) (hb : SE L X b g) (hc : SE L X c h)
    (hm : lastMarks [op, op'] [b, c] = false := by with_unfolding_all rfl) : SE L X (.Compare a [op, op'] [b, c] pos) (sChain o o' f g h) :=
  ⟨fun W tk => PE.imp (pe_chain hs hs' (ha.pe W tk) (hb.pe W tk) (hc.pe W tk) hm) fun σ H Q p => chain_rd (fun x y H Q h => h) (fun x y H Q h => h) ho ho' p⟩
theorem st_chain {op op' : CmpOp} {o o' : Op2} (hs : OpS L X (compareOp op) o) (hs' : OpS L X (compareOp op') o') (ho : ∀ t u q c fs q', o t u q ≠ .exc c fs q') (ho' : ∀ t u q c fs q', o' t u q ≠ .exc c fs q') (ha : SE L X a f) (hb : SE L X b g) (hc : SE L X c h)
    (hm : lastMarks [op, op'] [b, c] = false := by with_unfolding_all rfl) : ST L X (.Compare a [op, op'] [b, c] pos) (tBl (sChain o o' f g h)) :=
  ⟨fun W tk => PT.imp (pt_chain hs hs' (ha.pe W tk) (hb.pe W tk) (hc.pe W tk) hm) fun σ H Q ⟨ν, ρ, q, s, en, p⟩ => by
    refine chain_rd (fun x y H Q h => h) (fun x y H Q h => h) ho ho' ?_
    exact rdE_of s en p fun t v q' ν' H' ft s' en' r p' => by
      cases t with
      | bl b => cases r; exact ⟨b, rfl, p'.now s'⟩
      | _ => exact p'.elim⟩
end
end SP

namespace SP
open PySem PySem.Spec PyProof.Rows L2 SeqAt
/-! ### statements -/
inductive RS where
  | nx (ρ : TEnv) (q : Store) | brk (ρ : TEnv) (q : Store) | cnt (ρ : TEnv) (q : Store) | ret (t : T) (q : Store)
  | exc (c : Str) (fs : List (Str × T)) (ρ : TEnv) (q : Store) | stuck
abbrev Ss := TEnv → Store → RS
def RS.then (r : RS) (g : Ss) : RS := match r with
  | .nx ρ q => g ρ q
  | r => r
@[simp] theorem then_nx (ρ : TEnv) (q : Store) (g : Ss) : (RS.nx ρ q).then g = g ρ q := rfl
@[simp] theorem then_ret (t : T) (q : Store) (g : Ss) : (RS.ret t q).then g = .ret t q := rfl
@[simp] theorem then_brk (ρ : TEnv) (q : Store) (g : Ss) : (RS.brk ρ q).then g = .brk ρ q := rfl
@[simp] theorem then_cnt (ρ : TEnv) (q : Store) (g : Ss) : (RS.cnt ρ q).then g = .cnt ρ q := rfl
@[simp] theorem then_exc (c : Str) (fs : List (Str × T)) (ρ : TEnv) (q : Store) (g : Ss) : (RS.exc c fs ρ q).then g = .exc c fs ρ q := rfl
@[simp] theorem then_stuck (g : Ss) : RS.stuck.then g = .stuck := rfl
/-- an expression ahead of a statement's rest -/
def R.to {α : Type} (r : R α) (ρ : TEnv) (k : α → Store → RS) : RS := match r with
  | .ok a q => k a q
  | .exc c fs q => .exc c fs ρ q
  | .stuck => .stuck
@[simp] theorem to_ok {α : Type} (a : α) (q : Store) (ρ : TEnv) (k : α → Store → RS) : (R.ok a q).to ρ k = k a q := rfl
@[simp] theorem to_exc {α : Type} (c : Str) (fs : List (Str × T)) (q : Store) (ρ : TEnv) (k : α → Store → RS) : (R.exc c fs q : R α).to ρ k = .exc c fs ρ q := rfl
@[simp] theorem to_stuck {α : Type} (ρ : TEnv) (k : α → Store → RS) : (R.stuck : R α).to ρ k = .stuck := rfl
def PostS (K : PySem.W.Frag) (L : Lx) (W : WX) (ν : Nu) (H : Hp) (r : RS) (D : Ends) : Prop := match r with
  | .nx ρ q => ∀ ν' H' σ', Fut ν H ν' H' → SimQ K L ν' q H' → EnvOk K L ν' H' ρ σ' → D.nx σ' H'
  | .brk ρ q => ∀ ν' H' σ', Fut ν H ν' H' → SimQ K L ν' q H' → EnvOk K L ν' H' ρ σ' → D.bk σ' H'
  | .cnt ρ q => ∀ ν' H' σ', Fut ν H ν' H' → SimQ K L ν' q H' → EnvOk K L ν' H' ρ σ' → D.ct σ' H'
  | .ret t q => ∀ ν' H' v, Fut ν H ν' H' → SimQ K L ν' q H' → Rep K L ν' H' t v → D.rt v H'
  | .exc c fs ρ q => ∀ ν' H' σ' cls d, Fut ν H ν' H' → SimQ K L ν' q H' → EnvOk K L ν' H' ρ σ' → ExcAt K L ν' H' c fs cls d → W cls d σ' H'
  | .stuck => False
theorem PostS.fut {K : PySem.W.Frag} {L : Lx} {W : WX} {ν ν' : Nu} {H H' : Hp} {r : RS} {D : Ends} (f : Fut ν H ν' H') (h : PostS K L W ν H r D) : PostS K L W ν' H' r D := by
  cases r with
  | nx ρ q => exact fun ν2 H2 σ g => h ν2 H2 σ (f.trans g)
  | brk ρ q => exact fun ν2 H2 σ g => h ν2 H2 σ (f.trans g)
  | cnt ρ q => exact fun ν2 H2 σ g => h ν2 H2 σ (f.trans g)
  | ret t q => exact fun ν2 H2 σ g => h ν2 H2 σ (f.trans g)
  | exc c fs ρ q => exact fun ν2 H2 σ cls d g => h ν2 H2 σ cls d (f.trans g)
  | stuck => exact h
def rdS (K : PySem.W.Frag) (L : Lx) (W : WX) (f : Ss) : TS := fun D σ H => ∃ ν ρ q, SimQ K L ν q H ∧ EnvOk K L ν H ρ σ ∧ PostS K L W ν H (f ρ q) D
structure SS (L : Lx) (X : Cx) (st : Stmt) (f : Ss) : Prop where
  ps : ∀ W, Takes X W → PassesOwn (model X.prog X.w) X.A X.env X.xe → PS X st (rdS X.K L W f)
structure SSs (L : Lx) (X : Cx) (st : List Stmt) (f : Ss) : Prop where
  ps : ∀ W, Takes X W → PassesOwn (model X.prog X.w) X.A X.env X.xe → PSs X st (rdS X.K L W f)
/-- targets -/
abbrev Tg := T → TEnv → Store → Option (TEnv × Store)
def rdG (K : PySem.W.Frag) (L : Lx) (g : Tg) : TG := fun v σ H Q => ∃ ν ρ q t, SimQ K L ν q H ∧ EnvOk K L ν H ρ σ ∧ Rep K L ν H t v ∧ match g t ρ q with
  | some (ρ', q') => ∀ ν' H' σ', Fut ν H ν' H' → SimQ K L ν' q' H' → EnvOk K L ν' H' ρ' σ' → Q σ' H'
  | none => False
structure SG (L : Lx) (X : Cx) (target : Expr) (g : Tg) : Prop where
  pg : PG X target (rdG X.K L g)
theorem PG.imp {X : Cx} {e : Expr} {t u : TG} (h : PG X e t) (i : ∀ v σ H Q, u v σ H Q → t v σ H Q) : PG X e u := ⟨fun pins s σ H v w Q I r x => h.run pins s σ H v w Q I r (i v σ H Q x)⟩
theorem PGs.imp {X : Cx} {e : List Expr} {t u : TGs} (h : PGs X e t) (i : ∀ v σ H Q, u v σ H Q → t v σ H Q) : PGs X e u := ⟨fun pins s σ H v w Q I r x => h.run pins s σ H v w Q I r (i v σ H Q x)⟩
section
variable {L : Lx} {X : Cx} {e : Expr} {f : Sm} {t : St'} {s1 s2 : Ss} {st : Stmt} {rest a b : List Stmt} {pos : Pos}
/-- from a value's reading, ahead of a statement's end -/
theorem rdE_to {K : PySem.W.Frag} {W : WX} {σ : L2.St} {H : Hp} {k : T → Store → RS} {D : Ends} {Q : VK} {ν : Nu} {ρ : TEnv} {q : Store} (s : SimQ K L ν q H) (en : EnvOk K L ν H ρ σ) (p : PostS K L W ν H ((f ρ q).to ρ k) D)
    (hQ : ∀ t v q' ν' H', Fut ν H ν' H' → SimQ K L ν' q' H' → EnvOk K L ν' H' ρ σ → Rep K L ν' H' t v → PostS K L W ν' H' (k t q') D → Q v H') : rdE K L W f σ H Q := by
  refine ⟨ν, ρ, q, s, en, ?_⟩
  cases e : f ρ q with
  | ok t q' =>
    rw [e] at p
    exact fun ν' H' v ft s' r => hQ t v q' ν' H' ft s' (en.fut ft) r (PostS.fut ft p)
  | exc c fs q' =>
    rw [e] at p
    exact fun ν' H' cls d ft s' x => p ν' H' σ cls d ft s' (en.fut ft) x
  | stuck => rw [e] at p; exact p
theorem rdT_to {K : PySem.W.Frag} {W : WX} {σ : L2.St} {H : Hp} {k : Bool → Store → RS} {D : Ends} {Q : Bool → Hp → Prop} {ν : Nu} {ρ : TEnv} {q : Store} (s : SimQ K L ν q H) (en : EnvOk K L ν H ρ σ) (p : PostS K L W ν H ((t ρ q).to ρ k) D)
    (hQ : ∀ b q' ν' H', Fut ν H ν' H' → SimQ K L ν' q' H' → EnvOk K L ν' H' ρ σ → PostS K L W ν' H' (k b q') D → Q b H') : rdT K L W t σ H Q := by
  refine ⟨ν, ρ, q, s, en, ?_⟩
  cases e : t ρ q with
  | ok t q' =>
    rw [e] at p
    exact fun ν' H' ft s' => hQ t q' ν' H' ft s' (en.fut ft) (PostS.fut ft p)
  | exc c fs q' =>
    rw [e] at p
    exact fun ν' H' cls d ft s' x => p ν' H' σ cls d ft s' (en.fut ft) x
  | stuck => rw [e] at p; exact p
theorem PostS.now {K : PySem.W.Frag} {W : WX} {ν : Nu} {H : Hp} {ρ : TEnv} {σ : L2.St} {q : Store} {D : Ends} (h : PostS K L W ν H (.nx ρ q) D) (s : SimQ K L ν q H) (en : EnvOk K L ν H ρ σ) : D.nx σ H := h ν H σ (Fut.refl _ _) s en
/-! ### small statements -/
def xSeq (s1 s2 : Ss) : Ss := fun ρ q => (s1 ρ q).then s2
def xNil : Ss := fun ρ q => .nx ρ q
def xExpr (f : Sm) : Ss := fun ρ q => (f ρ q).to ρ fun _ q' => .nx ρ q'
def xRet (f : Sm) : Ss := fun ρ q => (f ρ q).to ρ fun t q' => .ret t q'
def xRetN : Ss := fun _ q => .ret .non q
def xIf (t : St') (s1 s2 : Ss) : Ss := fun ρ q => (t ρ q).to ρ fun b q' => if b = true then s1 ρ q' else s2 ρ q'
def xBrk : Ss := fun ρ q => .brk ρ q
def xCnt : Ss := fun ρ q => .cnt ρ q
theorem sss_nil : SSs L X [] xNil := ⟨fun W tk hp => PSs.imp pss_nil fun D σ H ⟨ν, ρ, q, s, en, p⟩ => p.now s en⟩
theorem sss_cons (h1 : SS L X st s1) (h2 : SSs L X rest s2) : SSs L X (st :: rest) (xSeq s1 s2) := ⟨fun W tk hp => PSs.imp (pss_cons (h1.ps W tk hp) (h2.ps W tk hp)) fun D σ H ⟨ν, ρ, q, s, en, p⟩ => by
  refine ⟨ν, ρ, q, s, en, ?_⟩
  unfold xSeq at p
  cases e : s1 ρ q with
  | nx ρ' q' =>
    rw [e, then_nx] at p
    exact fun ν' H' σ' f s' en' => ⟨ν', ρ', q', s', en', PostS.fut f p⟩
  | _ => rw [e] at p; exact p⟩
theorem ss_expr (he : SE L X e f) (hs : swapsWith e none pos.line X.env = pure false := by rfl) : SS L X (.Expr e pos) (xExpr f) :=
  ⟨fun W tk hp => PS.imp (ps_expr (he.pe W tk) hs) fun D σ H ⟨ν, ρ, q, s, en, p⟩ => rdE_to s en p fun t v q' ν' H' f s' en' r p' => p'.now s' en'⟩
theorem ss_ret (he : SE L X e f) : SS L X (.Return (some e) pos) (xRet f) :=
  ⟨fun W tk hp => PS.imp (ps_ret (he.pe W tk)) fun D σ H ⟨ν, ρ, q, s, en, p⟩ => rdE_to s en p fun t v q' ν' H' f s' en' r p' => p' ν' H' v (Fut.refl _ _) s' r⟩
theorem ss_if {c : Expr} (hc : ST L X c t) (ha : SSs L X a s1) (hb : SSs L X b s2) : SS L X (.If c a b pos) (xIf t s1 s2) :=
  ⟨fun W tk hp => PS.imp (ps_if (hc.pt W tk) (ha.ps W tk hp) (hb.ps W tk hp)) fun D σ H ⟨ν, ρ, q, s, en, p⟩ => rdT_to s en p fun b q' ν' H' f s' en' p' => by
    cases b with
    | true => exact ⟨ν', ρ, q', s', en', p'⟩
    | false => exact ⟨ν', ρ, q', s', en', p'⟩⟩
/-! ### stores -/
def gNm (i : Nat) : Tg := fun t ρ q => some (ρ.set i (some t), q)
def xSet (i : Nat) (f : Sm) : Ss := fun ρ q => (f ρ q).to ρ fun t q' => .nx (ρ.set i (some t)) q'
theorem sg_name {i : Nat} {x : Str} (hN : X.N.Nodup) (hi : X.N[i]? = some x) (hx : Loc X.env.scope x) (hf : X.fn x = true ∨ X.env.scope.names.lookup x = some .local := by first | exact .inl rfl | exact .inr rfl | assumption) : SG L X (.Name x pos) (gNm i) :=
  ⟨PG.imp (pg_name hN hi hx hf) fun v σ H Q ⟨ν, ρ, q, t, s, en, r, p⟩ => p ν H _ (Fut.refl _ _) s (en.set i r)⟩
theorem ss_set {i : Nat} {x : Str} {pos' : Pos} (hN : X.N.Nodup) (hi : X.N[i]? = some x) (hx : Loc X.env.scope x) (he : SE L X e f) (hs : swapsWith e (some (.Name x pos')) pos.line X.env = pure false := by rfl)
    (hf : X.fn x = true ∨ X.env.scope.names.lookup x = some .local := by first | exact .inl rfl | exact .inr rfl | assumption) : SS L X (.Assign [.Name x pos'] e pos) (xSet i f) :=
  ⟨fun W tk hp => PS.imp (ps_set (i := i) hN hi hx (he.pe W tk) hs hf) fun D σ H ⟨ν, ρ, q, s, en, p⟩ => rdE_to s en p fun t v q' ν' H' f s' en' r p' => p'.now s' (en'.set i r)⟩
def xAsg (g : Tg) (f : Sm) : Ss := fun ρ q => (f ρ q).to ρ fun t q' => match g t ρ q' with
  | some (ρ', q'') => .nx ρ' q''
  | none => .stuck
theorem ss_asg {tg : Expr} {g : Tg} (he : SE L X e f) (hg : SG L X tg g) (hs : swapsWithSole [tg] e pos.line X.env = pure false := by rfl) (hw : swappedStores [tg] e X.env = pure none := by rfl)
    (h1 : (assignEach [tg] X.env).map (·.2) = [assign tg X.env] := by rfl) : SS L X (.Assign [tg] e pos) (xAsg g f) :=
  ⟨fun W tk hp => PS.imp (ps_asg (he.pe W tk) hg.pg hs hw h1) fun D σ H ⟨ν, ρ, q, s, en, p⟩ => rdE_to s en p fun t v q' ν' H' f s' en' r p' => by
    refine ⟨ν', ρ, q', t, s', en', r, ?_⟩
    cases e : g t ρ q' with
    | none => rw [e] at p'; exact p'
    | some z => rw [e] at p'; exact p'⟩
/-- a tuple's targets -/
def gTs : List Tg → List T → TEnv → Store → Option (TEnv × Store)
  | [], [], ρ, q => some (ρ, q)
  | g :: gs, t :: ts, ρ, q => match g t ρ q with
    | some (ρ', q') => gTs gs ts ρ' q'
    | none => none
  | _, _, _, _ => none
def rdGs (K : PySem.W.Frag) (L : Lx) (gs : List Tg) : TGs := fun vs σ H Q => ∃ ν ρ q ts, SimQ K L ν q H ∧ EnvOk K L ν H ρ σ ∧ Reps K L ν H ts vs ∧ match gTs gs ts ρ q with
  | some (ρ', q') => ∀ ν' H' σ', Fut ν H ν' H' → SimQ K L ν' q' H' → EnvOk K L ν' H' ρ' σ' → Q σ' H'
  | none => False
structure SGs (L : Lx) (X : Cx) (ts : List Expr) (gs : List Tg) : Prop where
  pgs : PGs X ts (rdGs X.K L gs)
theorem sgs_nil : SGs L X [] [] := ⟨PGs.imp pgs_nil fun v σ H Q ⟨ν, ρ, q, ts, s, en, r, p⟩ => by
  cases r with
  | nil => exact ⟨rfl, p ν H σ (Fut.refl _ _) s en⟩
  | cons h r => exact p.elim⟩
theorem sgs_cons {es : List Expr} {g : Tg} {gs : List Tg} (h1 : SG L X e g) (h2 : SGs L X es gs) (hs : (assignEach (e :: es) X.env).map (·.2) = assign e X.env :: (assignEach es X.env).map (·.2) := by rfl) : SGs L X (e :: es) (g :: gs) :=
  ⟨PGs.imp (pgs_cons h1.pg h2.pgs hs) fun v σ H Q ⟨ν, ρ, q, ts, s, en, r, p⟩ => by
    cases r with
    | nil => exact p.elim
    | @cons t v ts vs h r =>
      refine ⟨_, _, rfl, ν, ρ, q, t, s, en, h, ?_⟩
      unfold gTs at p
      cases e : g t ρ q with
      | none => rw [e] at p; exact p
      | some z =>
        rw [e] at p
        intro ν' H' σ' f s' en'
        refine ⟨ν', z.1, z.2, ts, s', en', r.fut f, ?_⟩
        cases e2 : gTs gs ts z.1 z.2 with
        | none => simp only [e2] at p
        | some y =>
          simp only [e2] at p
          exact fun ν2 H2 σ2 f2 s2 en2 => p ν2 H2 σ2 (f.trans f2) s2 en2⟩
def gTp (gs : List Tg) : Tg := fun t ρ q => match t with
  | .tup ts => gTs gs ts ρ q
  | _ => none
theorem sg_tup {es : List Expr} {k n : Nat} {gs : List Tg} (hc : X.calm = true) (h : SGs L X es gs) (hl : gs.length = n) (hn : (assignEach es X.env).length = n := by rfl) (hst : (assignEach es X.env).findIdx? (·.1) = none := by rfl) : SG L X (.Tuple es k pos) (gTp gs) :=
  ⟨PG.imp (pg_tup (n := n) hc h.pgs hn hst) fun v σ H Q ⟨ν, ρ, q, t, s, en, r, p⟩ => by
    cases t with
    | tup ts =>
      obtain ⟨a, xs, rfl, h1, r1⟩ := tup_of r
      refine ⟨a, xs, rfl, h1, ?_, ν, ρ, q, ts, s, en, r1, p⟩
      rw [← r1.length, ← hl]
      have len : ∀ (gs : List Tg) (ts : List T) (ρ : TEnv) (q : Store), (gTs gs ts ρ q).isSome = true → ts.length = gs.length := by
        intro gs
        induction gs with
        | nil => intro ts ρ q h; cases ts with
          | nil => rfl
          | cons _ _ => cases h
        | cons g gs ih => intro ts ρ q h; cases ts with
          | nil => cases h
          | cons t ts =>
            unfold gTs at h
            cases e : g t ρ q with
            | none => rw [e] at h; cases h
            | some z => rw [e] at h; rw [List.length_cons, List.length_cons, ih ts z.1 z.2 h]
      refine len gs ts ρ q ?_
      unfold gTp at p
      simp only at p
      cases e : gTs gs ts ρ q with
      | none => rw [e] at p; exact p.elim
      | some z => rfl
    | _ => exact p.elim⟩
end
end SP

namespace SP
open PySem PySem.Spec PyProof.Rows L2 SeqAt
/-! ### what is walked -/
abbrev Si := TEnv → Store → R (List T)
/-- the iterator J yields what the trees say, as long as what is frozen stays -/
def Yields (K : PySem.W.Frag) (L : Lx) (ν : Nu) (H : Hp) (J : It) (ts : List T) : Prop :=
  ∀ (i : Nat) ν' H' q, Tr ν H ν' H' → SimQ K L ν' q H' → (ts.length ≤ i → J.stop i H') ∧ ∀ t, ts[i]? = some t → J.go i H' ∧ ∀ x H2, J.yld i H' x H2 → New H' H2 ∧ Rep K L ν' H2 t x
def rdI (K : PySem.W.Frag) (L : Lx) (W : WX) (f : Si) : TI := fun σ H Rr => ∃ ν ρ q, SimQ K L ν q H ∧ EnvOk K L ν H ρ σ ∧ PostR K L W σ ν H (f ρ q) fun ts ν' H' => ∀ J, Yields K L ν' H' J ts → Rr J H'
structure SI (L : Lx) (X : Cx) (tg iter : Expr) (f : Si) : Prop where
  pi : ∀ W, Takes X W → PI X tg iter (rdI X.K L W f)
theorem PI.imp {X : Cx} {tg e : Expr} {t u : TI} (h : PI X tg e t) (i : ∀ σ H Q, u σ H Q → t σ H Q) : PI X tg e u := ⟨fun pins s σ H Q I x => h.run pins s σ H Q I (i σ H Q x)⟩
theorem Yields.fut {K : PySem.W.Frag} {L : Lx} {ν ν' : Nu} {H H' : Hp} {J : It} {ts : List T} (f : Fut ν H ν' H') (y : Yields K L ν H J ts) : Yields K L ν' H' J ts := fun i ν2 H2 q g s => y i ν2 H2 q (f.toTr.trans g) s
section
variable {K : PySem.W.Frag} {L : Lx} {ν : Nu} {H : Hp} {q : Store}
theorem yields_list {a : Addr} {ts : List T} {xs : List V} (h : ∀ ν' H', Tr ν H ν' H' → SqL K H' a xs) (r : Reps K L ν H ts xs) : Yields K L ν H (Itl K a) ts := by
  intro i ν' H' q f s
  have h' := h ν' H' f
  refine ⟨fun l => ⟨xs, h', by rw [← r.length]; exact l⟩, fun t e => ?_⟩
  obtain ⟨v, e1, r1⟩ := r.get i e
  refine ⟨⟨xs, v, h', e1⟩, fun x H2 ⟨e2, y⟩ => ?_⟩
  subst e2
  have e3 := y xs h'
  rw [e1] at e3; cases e3
  exact ⟨New.refl _, r1.tr f⟩
theorem yields_tup {a : Addr} {ts : List T} {xs : List V} (h : ∀ ν' H', Tr ν H ν' H' → SqT K H' a xs) (r : Reps K L ν H ts xs) : Yields K L ν H (Itt K a) ts := by
  intro i ν' H' q f s
  have h' := h ν' H' f
  refine ⟨fun l => ⟨xs, h', by rw [← r.length]; exact l⟩, fun t e => ?_⟩
  obtain ⟨v, e1, r1⟩ := r.get i e
  refine ⟨⟨xs, v, h', e1⟩, fun x H2 ⟨e2, y⟩ => ?_⟩
  subst e2
  have e3 := y xs h'
  rw [e1] at e3; cases e3
  exact ⟨New.refl _, r1.tr f⟩
theorem yields_range (lo : Int) (n : Nat) : Yields K L ν H (Itr lo n) ((List.range n).map fun i => .int (lo + (i : Nat))) := by
  intro i ν' H' q f s
  refine ⟨fun l => (by show n ≤ i; simpa using l), fun t e => ?_⟩
  rw [List.getElem?_map] at e
  by_cases h : i < n
  · rw [List.getElem?_range h] at e
    cases e
    refine ⟨h, fun x H2 ⟨e2, e3⟩ => ?_⟩
    subst e2 e3
    exact ⟨New.refl _, .int _⟩
  · rw [List.getElem?_eq_none (by simpa using h)] at e
    cases e
theorem yields_str (x : Str) : Yields K L ν H (Its x) (x.cps.toList.map fun c => .str ⟨#[c]⟩) := by
  intro i ν' H' q f s
  refine ⟨fun l => (by show x.cps.size ≤ i; simpa using l), fun t e => ?_⟩
  rw [List.getElem?_map] at e
  by_cases h : i < x.cps.size
  · have e0 : x.cps.toList[i]? = some x.cps[i] := by
      rw [Array.getElem?_toList, Array.getElem?_eq_getElem h]
    rw [e0] at e
    cases e
    refine ⟨h, fun v H2 ⟨e2, c, e3, e4⟩ => ?_⟩
    subst e2 e4
    rw [Array.getElem?_eq_getElem h] at e3
    cases e3
    exact ⟨New.refl _, .str _⟩
  · rw [List.getElem?_eq_none (by simpa using h)] at e
    cases e
end
/-- a list that stays; what a for walks of a value -/
theorem Tr.sqL {K : PySem.W.Frag} {ν ν' : Nu} {H H' : Hp} (f : Tr ν H ν' H') {a : Addr} {xs : List V} (n : Fz ν a) (h : Rd H a (.lst xs)) : SqL K H' a xs := by
  rcases h with h | ⟨o, h⟩
  · exact .inl (.inl (f.keep a _ h n nofun nofun))
  · exact .inl (.inr ⟨o, f.keep a _ h n nofun nofun⟩)
def walkT (t : T) : Option (List T) := match t with
  | .lst ts => some ts
  | .tup ts => some ts
  | .fz ts => some ts
  | .str x => some (x.cps.toList.map fun c => .str ⟨#[c]⟩)
  | .dct kvs => some (kvs.map (·.1))
  | _ => none
def iSeq (f : Sm) : Si := fun ρ q => (f ρ q).bind fun t q' => match walkT t with
  | some ts => .ok ts q'
  | none => .stuck
section
variable {L : Lx} {X : Cx} {tg e : Expr} {f : Sm} {pos : Pos}
theorem rdE_fi {K : PySem.W.Frag} {W : WX} {σ : L2.St} {H : Hp} {Rr : It → Hp → Prop} {Q : VK} {k : T → Store → R (List T)} (p : rdI K L W (fun ρ q => (f ρ q).bind k) σ H Rr)
    (hQ : ∀ t v ν' ρ q' H', SimQ K L ν' q' H' → EnvOk K L ν' H' ρ σ → Rep K L ν' H' t v → PostR K L W σ ν' H' (k t q') (fun ts ν' H' => ∀ J, Yields K L ν' H' J ts → Rr J H') → Q v H') : rdE K L W f σ H Q := by
  obtain ⟨ν, ρ, q, s, en, p⟩ := p
  exact rdE_of s en p fun t v q' ν' H' f s' en' r p' => hQ t v ν' ρ q' H' s' en' r p'
/-- a dict is locked for good -/
theorem Fut.lock {ν : Nu} {H : Hp} {d : Addr} {o : Obj} {kvs : List (Key × V)} (h : H d = some (.dK kvs)) (n : Fz ν d) : Fut ν H ν (upd H d (.frz o (.dK kvs))) where
  keep := fun a u e _ _ k => by rw [upd_ne (fun z => by subst z; rw [h] at e; cases e; exact k _ rfl)]; exact e
  keepD := fun a ls e _ => by
    by_cases z : a = d
    · subst z
      rcases e with e | ⟨u, e⟩
      · rw [h] at e; cases e
        exact .inr ⟨o, upd_same⟩
      · rw [h] at e; cases e
    · rcases e with e | ⟨u, e⟩
      · exact .inl (by rw [upd_ne z]; exact e)
      · exact .inr ⟨u, by rw [upd_ne z]; exact e⟩
  none := fun a e => by
    by_cases z : a = d
    · subst z; rw [upd_same] at e; cases e
    · rw [upd_ne z] at e; exact e
  nu := fun _ b _ h => ⟨b, h⟩
  old := fun _ h _ => h
  hid := rfl
  keepH := fun a m u e _ => by rw [upd_ne (fun z => n.2 (by rw [← z]; exact m))]; exact e
theorem SimQ.lock {K : PySem.W.Frag} {L : Lx} {ν : Nu} {q : Store} {H : Hp} {d : Addr} {o : Obj} {kvs : List (Key × V)} (s : SimQ K L ν q H) (h : H d = some (.dK kvs)) (n : Fz ν d) : SimQ K L ν q (upd H d (.frz o (.dK kvs))) where
  len := s.len
  cells := fun i c e => by
    obtain ⟨a, u, h1, h2, h3⟩ := s.cells i c e
    have z : a ≠ d := fun z => by subst z; exact n.1 (List.mem_of_getElem? h1)
    exact ⟨a, u, h1, by rw [upd_ne z]; exact h2, h3.fut (Fut.lock h n)⟩
  dead := s.dead
  inj := s.inj
  tabs := fun p hp => by
    obtain ⟨ps, h1, h2, h3⟩ := s.tabs p hp
    refine ⟨ps, by rw [upd_ne (fun z => by rw [z, h] at h1; cases h1)]; exact h1, h2, fun pos cv e => ?_⟩
    obtain ⟨c, e1, e2⟩ := h3 pos cv e
    exact ⟨c, e1, by rw [upd_ne (fun z => by rw [z, h] at e2; cases e2)]; exact e2⟩
  hidOk := fun a m => ⟨by rw [upd_ne (fun z => n.2 (by rw [← z]; exact m))]; exact (s.hidOk a m).1, (s.hidOk a m).2⟩
theorem lockD {K : PySem.W.Frag} {ν : Nu} {q : Store} {H1 H2 : Hp} {d : Addr} {o : Obj} {kvs : List (Key × V)} (s : SimQ K L ν q H1) (n : Fz ν d) (h : H2 = H1 ∨ (H1 d = some (.dK kvs) ∧ H2 = upd H1 d (.frz o (.dK kvs)))) : SimQ K L ν q H2 ∧ Fut ν H1 ν H2 := by
  rcases h with h | ⟨h, e⟩
  · subst h; exact ⟨s, Fut.refl _ _⟩
  · subst e; exact ⟨s.lock h n, Fut.lock h n⟩
theorem repK_at {K : PySem.W.Frag} {ν : Nu} {H : Hp} : ∀ {ts : List (T × T)} {vs : List (Key × V)} (i : Nat) {p : T × T}, RepK K L ν H ts vs → ts[i]? = some p → ∃ k v, vs[i]? = some (k, v) ∧ p.1 = kT k ∧ Rep K L ν H p.2 v
  | _, _, _, _, .nil, e => by simp at e
  | _, _, 0, _, .cons h _, e => by
    rw [List.getElem?_cons_zero] at e
    cases e
    exact ⟨_, _, rfl, rfl, h⟩
  | _, _, i + 1, p, .cons _ r, e => by
    rw [List.getElem?_cons_succ] at e
    obtain ⟨k, v, h1, h2⟩ := repK_at i r e
    exact ⟨k, v, by rw [List.getElem?_cons_succ]; exact h1, h2⟩
theorem yields_keys {K : PySem.W.Frag} {ν : Nu} {H : Hp} {d : Addr} {o : Obj} {ts : List (T × T)} {kvs : List (Key × V)} (n : Fz ν d) (h : H d = some (.frz o (.dK kvs))) (r : RepK K L ν H ts kvs) : Yields K L ν H (Itk d o kvs) (ts.map (·.1)) := by
  intro i ν' H' q f s
  have h' := f.keep d _ h n nofun nofun
  refine ⟨fun l => ⟨h', by rw [← r.length]; simpa using l⟩, fun t e => ?_⟩
  rw [List.getElem?_map] at e
  cases e0 : ts[i]? with
  | none => rw [e0] at e; cases e
  | some p =>
    rw [e0] at e
    cases e
    obtain ⟨k, v, h1, h2, h3⟩ := repK_at i r e0
    refine ⟨⟨h', (List.getElem?_eq_some_iff.mp h1).1⟩, fun x H2 ⟨e2, k2, v2, e3, e4⟩ => ?_⟩
    subst e2 e4
    rw [h1] at e3; cases e3
    exact ⟨New.refl _, by show Rep K L ν' H2 p.1 (kV k); rw [h2]; exact key_rep k⟩
/-- any value that a for walks: its iterator -/
theorem pi_any {te : TE} (he : PE X e te) : PI X tg e (fun σ H R => te σ H fun v H1 =>
    (∃ a xs, v = .ref a ∧ SqL X.K H1 a xs ∧ R (Itl X.K a) H1) ∨ (∃ a xs, v = .ref a ∧ SqT X.K H1 a xs ∧ R (Itt X.K a) H1) ∨ (∃ x, v = .str x ∧ R (Its x) H1) ∨
      ∃ d kvs, v = .ref d ∧ Rd H1 d (.dK kvs) ∧ ∀ o H2, (H2 = H1 ∨ (H1 d = some (.dK kvs) ∧ H2 = upd H1 d (.frz o (.dK kvs)))) → H2 d = some (.frz o (.dK kvs)) → R (Itk d o kvs) H2) := by
  refine ⟨fun pins s σ H R I h => ?_⟩
  refine thn (he.run pins s σ H _ I h) fun v s1 ⟨x, H1, I1, r1, q1⟩ => ?_
  rcases q1 with ⟨a, xs, rfl, hq, q⟩ | ⟨a, xs, rfl, hq, q⟩ | ⟨z, rfl, q⟩ | ⟨d, kvs, rfl, hd, q⟩
  · cases r1
    obtain ⟨its, rv, p, hz⟩ := I1.list hq
    exact wpAny_pyIter_list p.isList (pi_one (tk := s1.toks) I1 _ (turn_list a _) ⟨_, Heap.get?_push_size _ rfl, rfl, rfl⟩ q)
  · cases r1
    obtain ⟨its, rv, p, hz⟩ := I1.tuple hq
    exact wpAny_pyIter_tuple (show s1.heap.IsTuple a its.toArray from p) (pi_one (tk := s1.toks) I1 _ (turn_tuple a _) ⟨_, Heap.get?_push_size _ rfl, rfl, rfl⟩ q)
  · obtain ⟨t, rfl⟩ := r1
    cases ha : z.cps.all (· < 128)
    · exact wpAny_pyIter_wide ha (pi_one (tk := s1.toks) I1 _ (turn_str _ z t "str_iterator" (.inr rfl)) ⟨_, Heap.get?_push_size _ rfl, rfl, rfl⟩ q)
    · exact wpAny_pyIter_ascii ha (pi_one (tk := s1.toks) I1 _ (turn_str _ z t "str_ascii_iterator" (.inl rfl)) ⟨_, Heap.get?_push_size _ rfl, rfl, rfl⟩ q)
  · cases r1
    have go : ∀ {o : Obj} {H2 : Hp}, Inv X pins σ H2 s1 → H2 d = some (.frz o (.dK kvs)) → R (Itk d o kvs) H2 → wpAny (model X.prog X.w) X.A (pyIter (.ref d)) (PIE X pins σ tg R) X.xe s1 := fun {o H2} I2 h2 q2 => by
      obtain ⟨hs, hgd, hx, es, ep, vs, hdt, hsz, kv, hm⟩ := I2.frzK h2
      refine iter_keys hs hgd hx hdt (pi_one (tk := s1.toks) I2 _ (turn_keys _ hdt) ⟨_, Heap.get?_push_size _ rfl, rfl, ?_⟩ q2)
      rw [hsz] <;> rfl
    rcases hd with hd | ⟨o, hd⟩
    · obtain ⟨od, I2⟩ := I1.lock hd trivial
      exact go I2 upd_same (q od _ (.inr ⟨hd, rfl⟩) upd_same)
    · exact go I1 hd (q o _ (.inl rfl) hd)
theorem KL.sqL {K : PySem.W.Frag} {a : Addr} {xs : List V} (h : SP.KL K a xs) (H : Hp) : SqL K H a xs := .inr h
/-- a frozen tuple, at any later time -/
theorem rep_tup {K : PySem.W.Frag} {ν : Nu} {H : Hp} {ts : List T} {v : V} (r : Rep K L ν H (.tup ts) v) : ∃ a xs, v = .ref a ∧ (∀ ν' H', Tr ν H ν' H' → SqT K H' a xs) ∧ Reps K L ν H ts xs := by
  cases r with
  | tup n h d r => exact ⟨_, _, rfl, fun ν' H' f => .inl (.inr ⟨_, f.keep _ _ h n nofun nofun⟩), r⟩
  | tupK h r => exact ⟨_, _, rfl, fun ν' H' f => KT.sqT h H', r⟩
theorem rep_lst {K : PySem.W.Frag} {ν : Nu} {H : Hp} {ts : List T} {v : V} (r : Rep K L ν H (.lst ts) v) : ∃ a xs, v = .ref a ∧ (∀ ν' H', Tr ν H ν' H' → SqL K H' a xs) ∧ Reps K L ν H ts xs := by
  cases r with
  | lst n h r => exact ⟨_, _, rfl, fun ν' H' f => f.sqL n (.inl h), r⟩
theorem rep_fz {K : PySem.W.Frag} {ν : Nu} {H : Hp} {ts : List T} {v : V} (r : Rep K L ν H (.fz ts) v) : ∃ a xs, v = .ref a ∧ (∀ ν' H', Tr ν H ν' H' → SqL K H' a xs) ∧ Reps K L ν H ts xs := by
  cases r with
  | fz n h r => exact ⟨_, _, rfl, fun ν' H' f => f.sqL n (.inr ⟨_, h⟩), r⟩
  | fzK h r => exact ⟨_, _, rfl, fun ν' H' f => KL.sqL h H', r⟩
theorem rep_dct {K : PySem.W.Frag} {ν : Nu} {H : Hp} {ts : List (T × T)} {v : V} (r : Rep K L ν H (.dct ts) v) : ∃ d kvs, v = .ref d ∧ Fz ν d ∧ Rd H d (.dK kvs) ∧ RepK K L ν H ts kvs := by
  cases r with
  | dctK n h r => exact ⟨_, _, rfl, n, h, r⟩
theorem si_seq (he : SE L X e f) : SI L X tg e (iSeq f) := ⟨fun W tk => PI.imp (pi_any (he.pe W tk)) fun σ H Rr p => rdE_fi p fun t v ν' ρ q' H' s' en' r p' => by
  cases t with
  | lst ts =>
    obtain ⟨a, xs, rfl, h, r1⟩ := rep_lst r
    exact .inl ⟨a, xs, rfl, h _ _ (Tr.refl _ _), (p'.now s') _ (yields_list h r1)⟩
  | fz ts =>
    obtain ⟨a, xs, rfl, h, r1⟩ := rep_fz r
    exact .inl ⟨a, xs, rfl, h _ _ (Tr.refl _ _), (p'.now s') _ (yields_list h r1)⟩
  | tup ts =>
    obtain ⟨a, xs, rfl, h, r1⟩ := rep_tup r
    exact .inr (.inl ⟨a, xs, rfl, h _ _ (Tr.refl _ _), (p'.now s') _ (yields_tup h r1)⟩)
  | str x =>
    obtain rfl := rep_str r
    exact .inr (.inr (.inl ⟨x, rfl, (p'.now s') _ (yields_str x)⟩))
  | dct ts =>
    obtain ⟨d, kvs, rfl, n, h, r1⟩ := rep_dct r
    refine .inr (.inr (.inr ⟨d, kvs, rfl, h, fun o H2 hl h2 => ?_⟩))
    obtain ⟨s2, f2⟩ := lockD s' n hl
    exact p' ν' H2 f2 s2 _ (yields_keys n h2 (r1.fut f2))
  | _ => exact p'.elim⟩
end
end SP

namespace SP
open PySem PySem.Spec PyProof.Rows L2 SeqAt
/-! ### arguments -/
abbrev Sa := TEnv → Store → R (List T)
def rdA (K : PySem.W.Frag) (L : Lx) (W : WX) (f : Sa) : TA := fun σ H Q => ∃ ν ρ q, SimQ K L ν q H ∧ EnvOk K L ν H ρ σ ∧ PostR K L W σ ν H (f ρ q) fun ts ν' H' => ∀ vs, Reps K L ν' H' ts vs → Q vs H'
structure SA (L : Lx) (X : Cx) (es : List Expr) (f : Sa) : Prop where
  pa : ∀ W, Takes X W → PA X es (rdA X.K L W f)
def aNil : Sa := fun _ q => .ok [] q
def aCons (f : Sm) (g : Sa) : Sa := fun ρ q => (f ρ q).bind fun t q1 => (g ρ q1).bind fun ts q2 => .ok (t :: ts) q2
section
variable {L : Lx} {X : Cx} {tg e : Expr} {es : List Expr} {f g h : Sm} {fa : Sa} {pos : Pos}
theorem rdA_of {K : PySem.W.Frag} {W : WX} {σ : L2.St} {H : Hp} {α : Type} {k : List T → Store → R α} {P : α → Nu → Hp → Prop} {Q : List V → Hp → Prop} {ν : Nu} {ρ : TEnv} {q : Store} (s : SimQ K L ν q H) (en : EnvOk K L ν H ρ σ) (p : PostR K L W σ ν H ((fa ρ q).bind k) P)
    (hQ : ∀ ts vs q' ν' H', Fut ν H ν' H' → SimQ K L ν' q' H' → EnvOk K L ν' H' ρ σ → Reps K L ν' H' ts vs → PostR K L W σ ν' H' (k ts q') P → Q vs H') : rdA K L W fa σ H Q :=
  ⟨ν, ρ, q, s, en, PostR.bind1 p fun t q' ν' H' _ ft s' p' v r => hQ t v q' ν' H' ft s' (en.fut ft) r p'⟩
theorem sa_nil : SA L X [] aNil := ⟨fun W tk => PA.imp pa_nil fun σ H Q ⟨ν, ρ, q, s, en, p⟩ => (p.now s) _ .nil⟩
theorem sa_cons (ha : SE L X e f) (hr : SA L X es fa) (hs : starEach (e :: es) X.env = (false, eval e X.env) :: starEach es X.env := by rfl) : SA L X (e :: es) (aCons f fa) :=
  ⟨fun W tk => PA.imp (pa_cons (ha.pe W tk) (hr.pa W tk) hs) fun σ H Q ⟨ν, ρ, q, s, en, p⟩ => rdE_of s en p fun t v q' ν' H' ft s' en' r p' =>
    rdA_of s' en' p' fun ts vs q2 ν2 H2 f2 s2 en2 r2 p2 => (p2.now s2) _ (.cons (r.fut f2) r2)⟩
/-! ### displays -/
open Classical in
noncomputable def sTup (fa : Sa) : Sm := fun ρ q => (fa ρ q).bind fun ts q' => if ts.length ≤ sizeLine then .ok (.tup ts) q' else .stuck
open Classical in
noncomputable def sLst (fa : Sa) : Sm := fun ρ q => (fa ρ q).bind fun ts q' => if ts.length ≤ sizeLine then .ok (.lst ts) q' else .stuck
theorem se_tup {x1} (h : SA L X es fa) : SE L X (.Tuple es x1 pos) (sTup fa) := ⟨fun W tk => PE.imp (SPF.pe_tupF (h.pa W tk)) fun σ H Q ⟨ν, ρ, q, s, en, p⟩ =>
  rdA_of s en (postE_iff.mp p) fun ts vs q' ν' H' ft s' en' r p' => by
    split at p'
    · rename_i hz
      refine ⟨by rw [← r.length]; exact hz, fun b o hd hb => ?_⟩
      obtain ⟨n1, r3⟩ := new_tup s' hd hb r
      exact p' ν' _ (n1.fut ν') (s'.new n1) _ r3
    · exact p'.elim⟩
/-- p is being filled: nobody leans on it yet -/
def Nu.hide (ν : Nu) (p : Addr) : Nu := ⟨ν.l, p :: ν.hid⟩
def Nu.push (ν : Nu) (p : Addr) : Nu := ⟨ν.l ++ [(true, p)], ν.hid⟩
/-- what is made anew (it stands at p, which was free; nobody leans on it): frozen, or mutable -/
def PostN (K : PySem.W.Frag) (L : Lx) (W : WX) (σ : L2.St) (ν : Nu) (H : Hp) (r : R T) (Q : VK) : Prop := match r with
  | .ok t q => ∀ ν' H' p o, Fut ν H ν' H' → SimQ K L (ν'.hide p) q H' → H p = none → H' p = some o → CellRep K L (ν'.hide p) H' t o → Q (.ref p) H'
  | .exc c fs q => ∀ ν' H' cls d, Fut ν H ν' H' → SimQ K L ν' q H' → ExcAt K L ν' H' c fs cls d → W cls d σ H'
  | .stuck => False
theorem PostN.fut {K : PySem.W.Frag} {W : WX} {σ : L2.St} {ν ν' : Nu} {H H' : Hp} {r : R T} {Q : VK} (f : Fut ν H ν' H') (h : PostN K L W σ ν H r Q) : PostN K L W σ ν' H' r Q := by
  cases r with
  | ok t q => exact fun ν2 H2 p o g s e => h ν2 H2 p o (f.trans g) s (f.none p e)
  | exc c fs q => exact fun ν2 H2 cls d g s x => h ν2 H2 cls d (f.trans g) s x
  | stuck => exact h
def rdN (K : PySem.W.Frag) (L : Lx) (W : WX) (f : Sm) : TE := fun σ H Q => ∃ ν ρ q, SimQ K L ν q H ∧ EnvOk K L ν H ρ σ ∧ PostN K L W σ ν H (f ρ q) Q
structure SN (L : Lx) (X : Cx) (e : Expr) (f : Sm) : Prop where
  pe : ∀ W, Takes X W → PE X e (rdN X.K L W f)
/-- made, then mutable -/
def thaw (f : Sm) : Sm := fun ρ q => (f ρ q).bind fun t q' => .ok (.obj q'.length) (q' ++ [some t])
def isCell : T → Bool
  | .lst _ => true
  | .dct _ => true
  | .dcu _ => true
  | _ => false
/-- made, frozen -/
def froz (f : Sm) : Sm := fun ρ q => (f ρ q).bind fun t q' => if isCell t = true then .ok t q' else .stuck
theorem CellRep.rep {K : PySem.W.Frag} {ν : Nu} {H : Hp} {p : Addr} {t : T} {o : HO} (n : Fz ν p) (h : H p = some o) (r : CellRep K L ν H t o) (c : isCell t = true) : Rep K L ν H t (.ref p) := by
  cases r with
  | lst r' => exact .lst n h r'
  | dctK r' => exact .dctK n (.inl h) r'
  | dctT d r' => exact .dctT n h d r'
  | ins hc r' => cases c
theorem getElem?_snoc {α : Type} (l : List α) (a : α) (n : Nat) : (l ++ [a])[n]? = if n = l.length then some a else l[n]? := by
  by_cases h : n < l.length
  · rw [List.getElem?_append_left h, if_neg (by omega)]
  · by_cases e : n = l.length
    · rw [if_pos e, e, List.getElem?_append_right (Nat.le_refl _)]
      simp
    · rw [if_neg e, List.getElem?_eq_none (by simp; omega), List.getElem?_eq_none (by omega)]
/-- it is hidden no longer -/
theorem Tr.unhide (ν : Nu) (p : Addr) (H : Hp) : Tr (ν.hide p) H ν H :=
  have fz : ∀ a, Fz (ν.hide p) a → Fz ν a := fun a n => ⟨n.1, fun m => n.2 (List.mem_cons_of_mem _ m)⟩
  ⟨fun _ _ h _ _ _ => h, fun _ _ h _ => h, fun _ h => h, fun _ b _ h => ⟨b, h⟩, fun a n _ => fz a n⟩
theorem SimQ.unhide {K : PySem.W.Frag} {ν : Nu} {q : Store} {H : Hp} {p : Addr} (s : SimQ K L (ν.hide p) q H) : SimQ K L ν q H where
  len := s.len
  cells := fun i c e => by
    obtain ⟨a, o, h1, h2, h3⟩ := s.cells i c e
    exact ⟨a, o, h1, h2, h3.tr (Tr.unhide ν p H)⟩
  dead := s.dead
  inj := s.inj
  tabs := s.tabs
  hidOk := fun a m => s.hidOk a (List.mem_cons_of_mem _ m)
theorem SimQ.fz_hidden {K : PySem.W.Frag} {ν ν0 : Nu} {q q0 : Store} {H H0 : Hp} {p : Addr} (s : SimQ K L (ν.hide p) q H) (s0 : SimQ K L ν0 q0 H0) (f : Fut ν0 H0 ν H) (h0 : H0 p = none) : Fz ν p :=
  ⟨(s.hidOk p List.mem_cons_self).2, fun m => (s0.hidOk p (by rw [← f.hid]; exact m)).1 h0⟩
/-- a new object, hidden at first -/
theorem Tr.hideNew {K : PySem.W.Frag} {ν : Nu} {q : Store} {H : Hp} {p : Addr} {o : HO} (h : H p = Option.none) : Tr ν H (ν.hide p) (upd H p o) := by
  have nw := New.upd (o := o) h
  refine ⟨fun a u e _ _ _ => nw.keep a u e, fun a kvs e _ => e.elim (fun e => .inl (nw.keep _ _ e)) fun ⟨u, e⟩ => .inr ⟨u, nw.keep _ _ e⟩, nw.none, fun _ b _ h => ⟨b, h⟩, fun a n e => ⟨n.1, fun m => ?_⟩⟩
  rcases List.mem_cons.mp m with m | m
  · rw [m] at e; exact e h
  · exact n.2 m
theorem SimQ.hideNew {K : PySem.W.Frag} {ν : Nu} {q : Store} {H : Hp} {p : Addr} {o : HO} (s : SimQ K L ν q H) (h : H p = none) : SimQ K L (ν.hide p) q (upd H p o) where
  len := s.len
  cells := fun i c e => by
    obtain ⟨a, u, h1, h2, h3⟩ := s.cells i c e
    exact ⟨a, u, h1, (New.upd h).keep _ _ h2, h3.tr (Tr.hideNew (K := K) (q := q) h)⟩
  dead := s.dead
  inj := s.inj
  tabs := NdefX.TabsN.ext s.tabs (New.upd h).keep
  hidOk := fun a m => by
    rcases List.mem_cons.mp m with m | m
    · rw [m, upd_same]
      exact ⟨nofun, (s.notIn_none h).1⟩
    · exact ⟨fun e => (s.hidOk a m).1 ((New.upd h).none a e), (s.hidOk a m).2⟩
/-- straight from a display -/
theorem PostN.here {K : PySem.W.Frag} {W : WX} {σ : L2.St} {ν : Nu} {H : Hp} {t : T} {q : Store} {Q : VK} {p : Addr} {o : HO} (h : PostN K L W σ ν H (.ok t q) Q) (s : SimQ K L ν q H) (hp : H p = none) (r : CellRep K L ν H t o) : Q (.ref p) (upd H p o) :=
  h ν _ p o ((New.upd hp).fut ν) (s.hideNew hp) hp upd_same (r.tr (Tr.hideNew (K := K) (q := q) hp))
theorem SN.se (h : SN L X e f) : SE L X e (froz f) := ⟨fun W tk => PE.imp (h.pe W tk) fun σ H Q ⟨ν, ρ, q, s, en, p⟩ => ⟨ν, ρ, q, s, en, by
  unfold froz at p
  cases e : f ρ q with
  | ok t q' =>
    rw [e, bind_ok] at p
    intro ν' H' b o ft s' h0 hb r
    split at p
    · rename_i hc
      exact p ν' H' _ ft s'.unhide ((r.tr (Tr.unhide ν' b H')).rep (s'.fz_hidden s ft h0) hb hc)
    · exact p.elim
  | exc c fs q' => rw [e] at p; exact p
  | stuck => rw [e] at p; exact p⟩⟩
theorem Tr.pushed (ν : Nu) (p : Addr) (H : Hp) : Tr (ν.hide p) H (ν.push p) H := by
  refine ⟨fun _ _ h _ _ _ => h, fun _ _ h _ => h, fun _ h => h, fun n b a e => ⟨b, ?_⟩, fun a n _ => ⟨fun m => ?_, fun m => n.2 (List.mem_cons_of_mem _ m)⟩⟩
  · show (ν.l ++ [(true, p)])[n]? = _
    have e : ν.l[n]? = some (b, a) := e
    rw [getElem?_snoc, if_neg (by have := (List.getElem?_eq_some_iff.mp e).1; omega)]; exact e
  · rcases List.mem_append.mp m with m | m
    · exact n.1 m
    · have e : a = p := by simpa using m
      exact n.2 (by rw [e]; exact List.mem_cons_self)
/-- .. becomes a mutable one -/
theorem SimQ.push {K : PySem.W.Frag} {ν : Nu} {q : Store} {H : Hp} {p : Addr} {t : T} {o : HO} (s : SimQ K L (ν.hide p) q H) (h : H p = some o) (r : CellRep K L (ν.hide p) H t o) (np : p ∉ ν.hid) : SimQ K L (ν.push p) (q ++ [some t]) H := by
  have len : ν.l.length = q.length := s.len
  refine ⟨by show (ν.l ++ [(true, p)]).length = _; simp [len], fun n c e => ?_, fun n a e => ?_, fun i j a e1 e2 => ?_, s.tabs, fun a m => ⟨(s.hidOk a (List.mem_cons_of_mem _ m)).1, fun m2 => ?_⟩⟩
  · rw [getElem?_snoc] at e
    split at e
    · rename_i en
      cases e
      exact ⟨p, o, by show (ν.l ++ [(true, p)])[n]? = _; rw [getElem?_snoc, if_pos (by rw [len]; exact en)], h, r.tr (Tr.pushed ν p H)⟩
    · rename_i en
      obtain ⟨a, u, h1, h2, h3⟩ := s.cells n c e
      exact ⟨a, u, by show (ν.l ++ [(true, p)])[n]? = _; rw [getElem?_snoc, if_neg (by rw [len]; exact en)]; exact h1, h2, h3.tr (Tr.pushed ν p H)⟩
  · have e : (ν.l ++ [(true, p)])[n]? = some (true, a) := e
    rw [getElem?_snoc] at e
    split at e
    · rename_i en
      exact ⟨t, by rw [getElem?_snoc, if_pos (by rw [← len]; exact en)]⟩
    · rename_i en
      obtain ⟨c, hc⟩ := s.dead n a e
      exact ⟨c, by rw [getElem?_snoc, if_neg (by rw [← len]; exact en)]; exact hc⟩
  · have old : ∀ (k : Nat) a, k ≠ ν.l.length → (ν.l ++ [(true, p)])[k]? = some (true, a) → ν.l[k]? = some (true, a) ∧ a ≠ p := fun k a hk e => by
      rw [getElem?_snoc, if_neg hk] at e
      exact ⟨e, fun z => by subst z; exact (s.hidOk a List.mem_cons_self).2 (List.mem_of_getElem? e)⟩
    have e1 : (ν.l ++ [(true, p)])[i]? = some (true, a) := e1
    have e2 : (ν.l ++ [(true, p)])[j]? = some (true, a) := e2
    by_cases h1 : i = ν.l.length <;> by_cases h2 : j = ν.l.length
    · rw [h1, h2]
    · rw [h1, getElem?_snoc, if_pos rfl] at e1
      cases e1
      exact absurd rfl (old j _ h2 e2).2
    · rw [h2, getElem?_snoc, if_pos rfl] at e2
      cases e2
      exact absurd rfl (old i _ h1 e1).2
    · exact s.inj i j a (old i a h1 e1).1 (old j a h2 e2).1
  · rcases List.mem_append.mp m2 with m2 | m2
    · exact (s.hidOk a (List.mem_cons_of_mem _ m)).2 m2
    · have e : a = p := by simpa using m2
      exact np (by rw [← e]; exact m)
theorem Fut.push {ν0 ν : Nu} {H0 H : Hp} {p : Addr} (f : Fut ν0 H0 ν H) (h0 : H0 p = none) : Fut ν0 H0 (ν.push p) H where
  keep := f.keep
  keepD := f.keepD
  none := f.none
  nu := fun n b a e => by
    obtain ⟨b', e'⟩ := f.nu n b a e
    refine ⟨b', ?_⟩
    show (ν.l ++ [(true, p)])[n]? = _
    rw [getElem?_snoc, if_neg (by have := (List.getElem?_eq_some_iff.mp e').1; omega)]; exact e'
  old := fun a n e => ⟨fun m => by
    rcases List.mem_append.mp m with m | m
    · exact (f.old a n e).1 m
    · have z : a = p := by simpa using m
      rw [z] at e; exact e h0, (f.old a n e).2⟩
  hid := f.hid
  keepH := f.keepH
theorem SN.mut (h : SN L X e f) : SE L X e (thaw f) := ⟨fun W tk => PE.imp (h.pe W tk) fun σ H Q ⟨ν, ρ, q, s, en, p⟩ => ⟨ν, ρ, q, s, en, by
  unfold thaw at p
  cases e : f ρ q with
  | ok t q' =>
    rw [e, bind_ok] at p
    intro ν' H' b o ft s' h0 hb r
    refine p _ H' _ (ft.push h0) (s'.push hb r (s'.fz_hidden s ft h0).2) (.obj (b := true) ?_)
    show (ν'.l ++ [(true, b)])[q'.length]? = _
    rw [getElem?_snoc, if_pos]
    exact (show ν'.l.length = q'.length from s'.len).symm
  | exc c fs q' => rw [e] at p; exact p
  | stuck => rw [e] at p; exact p⟩⟩
open Classical in
noncomputable def nLst (fa : Sa) : Sm := fun ρ q => (fa ρ q).bind fun ts q' => if ts.length ≤ sizeLine then .ok (.lst ts) q' else .stuck
theorem sn_lst (h : SA L X es fa) : SN L X (.List es pos) (nLst fa) := ⟨fun W tk => PE.imp (pe_lst (h.pa W tk)) fun σ H Q ⟨ν, ρ, q, s, en, p⟩ => by
  unfold nLst at p
  refine ⟨ν, ρ, q, s, en, ?_⟩
  cases e : fa ρ q with
  | ok ts q' =>
    rw [e, bind_ok] at p
    intro ν' H' ft s' vs r
    split at p
    · rename_i hz
      exact ⟨by rw [← r.length]; exact hz, fun b hb => (PostN.fut ft p).here s' hb (.lst r)⟩
    · exact p.elim
  | exc c fs q' => rw [e] at p; exact p
  | stuck => rw [e] at p; exact p⟩
/-- a frozen list display, straight -/
theorem se_lst (h : SA L X es fa) : SE L X (.List es pos) (sLst fa) := ⟨fun W tk => PE.imp (pe_lst (h.pa W tk)) fun σ H Q ⟨ν, ρ, q, s, en, p⟩ =>
  rdA_of s en (postE_iff.mp p) fun ts vs q' ν' H' ft s' en' r p' => by
    split at p'
    · rename_i hz
      refine ⟨by rw [← r.length]; exact hz, fun b hb => ?_⟩
      obtain ⟨n1, r3⟩ := new_lst s' hb r
      exact p' ν' _ (n1.fut ν') (s'.new n1) _ r3
    · exact p'.elim⟩
def nDct : Sm := fun _ q => .ok (.dct []) q
/-! ### for -/
def forT (g : Tg) (body : Ss) : List T → TEnv → Store → RS
  | [], ρ, q => .nx ρ q
  | t :: ts, ρ, q => match g t ρ q with
    | none => .stuck
    | some (ρ1, q1) => match body ρ1 q1 with
      | .nx ρ2 q2 => forT g body ts ρ2 q2
      | .cnt ρ2 q2 => forT g body ts ρ2 q2
      | .brk ρ2 q2 => .nx ρ2 q2
      | r => r
def xFor (fi : Si) (g : Tg) (body : Ss) : Ss := fun ρ q => (fi ρ q).to ρ fun ts q' => forT g body ts ρ q'
theorem ss_for {body : List Stmt} {fi : Si} {g : Tg} {fb : Ss} (hc : X.calm = true) (hi : SI L X tg e fi) (hg : SG L X tg g) (hb : SSs L X body fb) (hs : ∀ x, foldedSetIterable e X.env x = pure x := by intro _; rfl) : SS L X (.For tg e body [] pos) (xFor fi g fb) :=
  ⟨fun W tk hp => PS.imp (ps_for hp hc (hi.pi W tk) hg.pg (hb.ps W tk hp) hs) fun D σ H ⟨ν, ρ, q, s, en, p⟩ => by
    unfold xFor at p
    refine ⟨ν, ρ, q, s, en, ?_⟩
    cases e : fi ρ q with
    | exc c fs q' => rw [e] at p; exact fun ν' H' cls d ft s' x => p ν' H' σ cls d ft s' (en.fut ft) x
    | stuck => rw [e] at p; exact p
    | ok ts q' =>
      rw [e] at p
      intro ν1 H1 f1 s1 J Y
      refine ⟨fun i m σ H => m = ts.length - i ∧ i ≤ ts.length ∧ ∃ ν ρ q, SimQ X.K L ν q H ∧ EnvOk X.K L ν H ρ σ ∧ Fut ν1 H1 ν H ∧ PostS X.K L W ν H (forT g fb (ts.drop i) ρ q) D,
        ⟨ts.length, by simp, Nat.zero_le _, ν1, ρ, q', s1, en.fut f1, Fut.refl _ _, PostS.fut f1 p⟩, ?_⟩
      rintro i m σ2 H2 ⟨rfl, hi, ν2, ρ2, q2, s2, en2, f2, p2⟩
      obtain ⟨y1, y2⟩ := Y i ν2 H2 q2 f2.toTr s2
      by_cases hl : i < ts.length
      · have et : ts[i]? = some ts[i] := List.getElem?_eq_getElem hl
        obtain ⟨go, yl⟩ := y2 _ et
        refine .inr ⟨go, fun σ' H' => i + 1 ≤ ts.length ∧ ∃ ν ρ q, SimQ X.K L ν q H' ∧ EnvOk X.K L ν H' ρ σ' ∧ Fut ν1 H1 ν H' ∧ PostS X.K L W ν H' (forT g fb (ts.drop (i + 1)) ρ q) D, fun σ' H' hN => ⟨ts.length - (i + 1), by omega, rfl, hN⟩, fun x H3 hy => ?_⟩
        obtain ⟨n3, r3⟩ := yl x H3 hy
        rw [List.drop_eq_getElem_cons hl] at p2
        unfold forT at p2
        have f3 := n3.fut ν2
        refine ⟨ν2, ρ2, q2, ts[i], s2.new n3, en2.fut f3, r3, ?_⟩
        cases eg : g ts[i] ρ2 q2 with
        | none => rw [eg] at p2; exact p2
        | some z =>
          rw [eg] at p2
          intro ν4 H4 σ4 f4 s4 en4
          refine ⟨ν4, z.1, z.2, s4, en4, ?_⟩
          have f24 := f2.trans (f3.trans f4)
          have p4 := PostS.fut (f3.trans f4) p2
          cases eb : fb z.1 z.2 with
          | nx ρ5 q5 =>
            simp only [eb] at p4
            exact fun ν5 H5 σ5 f5 s5 en5 => ⟨hl, ν5, ρ5, q5, s5, en5, f24.trans f5, PostS.fut f5 p4⟩
          | cnt ρ5 q5 =>
            simp only [eb] at p4
            exact fun ν5 H5 σ5 f5 s5 en5 => ⟨hl, ν5, ρ5, q5, s5, en5, f24.trans f5, PostS.fut f5 p4⟩
          | brk ρ5 q5 => simp only [eb] at p4; exact p4
          | ret t q5 => simp only [eb] at p4; exact p4
          | exc c fs ρ5 q5 => simp only [eb] at p4; exact p4
          | stuck => simp only [eb] at p4; exact p4
      · refine .inl ⟨y1 (by omega), ?_⟩
        rw [List.drop_eq_nil_of_le (by omega)] at p2
        exact p2.now s2 en2⟩
/-! ### while, at most n turns -/
def whileT (c : St') (body : Ss) : Nat → TEnv → Store → RS
  | 0, _, _ => .stuck
  | n + 1, ρ, q => (c ρ q).to ρ fun b q1 => if b = true then (match body ρ q1 with
      | .nx ρ2 q2 => whileT c body n ρ2 q2
      | .cnt ρ2 q2 => whileT c body n ρ2 q2
      | .brk ρ2 q2 => .nx ρ2 q2
      | r => r) else .nx ρ q1
def xWhile (n : Nat) (c : St') (body : Ss) : Ss := whileT c body n
end
end SP

namespace SP
open PySem PySem.Spec PyProof.Rows L2 SeqAt
/-! ### sources -/
open Classical in
noncomputable def iRange1 (fa : Sa) : Si := fun ρ q => (fa ρ q).bind fun ts q' => match ts with
  | [.int j] => if -(2 ^ 62) ≤ j ∧ j < 2 ^ 62 then .ok ((List.range j.toNat).map fun (i : Nat) => .int (0 + (i : Nat))) q' else .stuck
  | _ => .stuck
open Classical in
noncomputable def iRange2 (fa : Sa) : Si := fun ρ q => (fa ρ q).bind fun ts q' => match ts with
  | [.int i, .int j] => if -(2 ^ 62) ≤ i ∧ i < 2 ^ 62 ∧ -(2 ^ 62) ≤ j ∧ j < 2 ^ 62 then .ok ((List.range (j - i).toNat).map fun (k : Nat) => .int (i + (k : Nat))) q' else .stuck
  | _ => .stuck
open Classical in
noncomputable def iRange3 (fa : Sa) : Si := fun ρ q => (fa ρ q).bind fun ts q' => match ts with
  | [.int i, .int j, .int c] => if RgC i j c (Builtin.Range.rangeSize i j c).toNat then .ok ((List.range (Builtin.Range.rangeSize i j c).toNat).map fun (k : Nat) => .int (i + (k : Nat) * c)) q' else .stuck
  | _ => .stuck
def iZipS (fa : Sa) : Si := fun ρ q => (fa ρ q).bind fun ts q' => match ts with
  | [.lst a, .lst b] => .ok ((a.zip b).map fun p => .tup [p.1, p.2]) q'
  | [.tup a, .tup b] => .ok ((a.zip b).map fun p => .tup [p.1, p.2]) q'
  | _ => .stuck
def iEnumS (fa : Sa) : Si := fun ρ q => (fa ρ q).bind fun ts q' => match ts with
  | [.lst a] => .ok (a.zipIdx.map fun p => .tup [.int (p.2 : Nat), p.1]) q'
  | _ => .stuck
def iItemsS (f : Sm) : Si := fun ρ q => (f ρ q).bind fun t q' => match t with
  | .dct kvs => .ok (kvs.map fun p => .tup [p.1, p.2]) q'
  | _ => .stuck
def iValsS (f : Sm) : Si := fun ρ q => (f ρ q).bind fun t q' => match t with
  | .dct kvs => .ok (kvs.map (·.2)) q'
  | _ => .stuck
def iRevS (f : Sm) : Si := fun ρ q => (f ρ q).bind fun t q' => match t with
  | .lst ts => .ok ts.reverse q'
  | .tup ts => .ok ts.reverse q'
  | _ => .stuck
section
variable {K : PySem.W.Frag} {L : Lx} {ν : Nu} {H : Hp}
end
section
variable {L : Lx} {X : Cx} {tg e e2 : Expr} {es : List Expr} {f : Sm} {fa : Sa} {p pos apos tpos : Pos} {elts : List Expr} {kk : Nat}
theorem rdI_a {K : PySem.W.Frag} {W : WX} {σ : L2.St} {H : Hp} {Rr : It → Hp → Prop} {Q : List V → Hp → Prop} {k : List T → Store → R (List T)} (p : rdI K L W (fun ρ q => (fa ρ q).bind k) σ H Rr)
    (hQ : ∀ ts vs ν' q' H', SimQ K L ν' q' H' → Reps K L ν' H' ts vs → PostR K L W σ ν' H' (k ts q') (fun ts ν' H' => ∀ J, Yields K L ν' H' J ts → Rr J H') → Q vs H') : rdA K L W fa σ H Q := by
  obtain ⟨ν, ρ, q, s, en, p⟩ := p
  exact rdA_of s en p fun t v q' ν' H' f s' en' r p' => hQ t v ν' q' H' s' r p'
theorem reps1 {K : PySem.W.Frag} {ν : Nu} {H : Hp} {t : T} {vs : List V} (r : Reps K L ν H [t] vs) : ∃ v, vs = [v] ∧ Rep K L ν H t v := by
  cases r with
  | cons h r => cases r; exact ⟨_, rfl, h⟩
theorem reps2 {K : PySem.W.Frag} {ν : Nu} {H : Hp} {t u : T} {vs : List V} (r : Reps K L ν H [t, u] vs) : ∃ v w, vs = [v, w] ∧ Rep K L ν H t v ∧ Rep K L ν H u w := by
  cases r with
  | cons h r =>
    obtain ⟨w, rfl, h2⟩ := reps1 r
    exact ⟨_, _, rfl, h, h2⟩
theorem si_range1 {a : Expr} (hg : Gl X "range") (hm : X.mg "range" = none) (ha : SA L X [a] fa) (hs : starEach [a] X.env = [(false, eval a X.env)] := by rfl) : SI L X tg (.Call (.Name "range" p) [a] [] pos) (iRange1 fa) :=
  ⟨fun W tk => PI.imp (pi_range1 hg hm (ha.pa W tk) hs) fun σ H Rr pp => rdI_a pp fun ts vs ν' q' H' s r p' => by
    split at p'
    · obtain ⟨v, rfl, h⟩ := reps1 r
      split at p'
      · rename_i hz
        obtain rfl := rep_int h
        exact ⟨_, rfl, hz.1, hz.2, (p'.now s) _ (yields_range _ _)⟩
      · exact p'.elim
    · exact p'.elim⟩
theorem si_range2 {a b : Expr} (hg : Gl X "range") (hm : X.mg "range" = none) (ha : SA L X [a, b] fa) (hs : starEach [a, b] X.env = [(false, eval a X.env), (false, eval b X.env)] := by rfl) (hs2 : starEach [b] X.env = [(false, eval b X.env)] := by rfl) :
    SI L X tg (.Call (.Name "range" p) [a, b] [] pos) (iRange2 fa) :=
  ⟨fun W tk => PI.imp (pi_range2 hg hm (ha.pa W tk) hs hs2) fun σ H Rr pp => rdI_a pp fun ts vs ν' q' H' s r p' => by
    split at p'
    · obtain ⟨v, w, rfl, h, h2⟩ := reps2 r
      split at p'
      · rename_i hz
        obtain rfl := rep_int h
        obtain rfl := rep_int h2
        exact ⟨_, _, rfl, hz, (p'.now s) _ (yields_range _ _)⟩
      · exact p'.elim
    · exact p'.elim⟩
/-! ### list comprehensions -/
theorem wipe_set {σ : L2.St} {i : Nat} {x : Option V} : ∀ {vs : List Nat}, wipe (σ.set i x) vs = if i ∈ vs then wipe σ vs else (wipe σ vs).set i x
  | [] => by simp [wipe]
  | v :: vs => by
    unfold wipe
    rw [wipe_set (vs := vs)]
    by_cases h : i ∈ vs
    · rw [if_pos h, if_pos (List.mem_cons_of_mem _ h)]
    · rw [if_neg h]
      by_cases e : i = v
      · subst e
        rw [if_pos List.mem_cons_self, List.set_set]
      · rw [if_neg (by intro m; rcases List.mem_cons.mp m with m | m; exact e m; exact h m), List.set_comm _ _ (fun z => e z)]
def wipeT (ρ : TEnv) : List Nat → TEnv
  | [] => ρ
  | v :: vs => (wipeT ρ vs).set v none
theorem EnvOk.wipe {K : PySem.W.Frag} {ν : Nu} {H : Hp} {ρ : TEnv} {σ : L2.St} (e : EnvOk K L ν H ρ σ) : ∀ vs, EnvOk K L ν H (wipeT ρ vs) (wipe σ vs)
  | [] => e
  | v :: vs => (EnvOk.wipe e vs).drop v none
/-- a target of a comprehension: the slots vs alone change -/
def rdGw (K : PySem.W.Frag) (L : Lx) (vs : List Nat) (g : Tg) : TG := fun v σ H Q => ∃ ν ρ q t, SimQ K L ν q H ∧ EnvOk K L ν H ρ σ ∧ Rep K L ν H t v ∧ match g t ρ q with
  | some (ρ', q') => ∀ σ', q' = q → EnvOk K L ν H ρ' σ' → wipe σ' vs = wipe σ vs → Q σ' H
  | none => False
structure SGw (L : Lx) (X : Cx) (vs : List Nat) (target : Expr) (g : Tg) : Prop where
  pg : PG X target (rdGw X.K L vs g)
def rdGws (K : PySem.W.Frag) (L : Lx) (vs : List Nat) (gs : List Tg) : TGs := fun xs σ H Q => ∃ ν ρ q ts, SimQ K L ν q H ∧ EnvOk K L ν H ρ σ ∧ Reps K L ν H ts xs ∧ match gTs gs ts ρ q with
  | some (ρ', q') => ∀ σ', q' = q → EnvOk K L ν H ρ' σ' → wipe σ' vs = wipe σ vs → Q σ' H
  | none => False
structure SGws (L : Lx) (X : Cx) (vs : List Nat) (ts : List Expr) (gs : List Tg) : Prop where
  pgs : PGs X ts (rdGws X.K L vs gs)
  noq : ∀ g ∈ gs, ∀ t ρ q ρ' q', g t ρ q = some (ρ', q') → q' = q
theorem sgw_name {i : Nat} {x : Str} {vs : List Nat} (hN : X.N.Nodup) (hi : X.N[i]? = some x) (hx : Loc X.env.scope x) (hv : i ∈ vs) (hf : X.fn x = true ∨ X.env.scope.names.lookup x = some .local := by first | exact .inl rfl | exact .inr rfl | assumption) : SGw L X vs (.Name x pos) (gNm i) :=
  ⟨PG.imp (pg_name hN hi hx hf) fun v σ H Q ⟨ν, ρ, q, t, s, en, r, p⟩ => p _ rfl (en.set i r) (by rw [wipe_set, if_pos hv])⟩
end
end SP

namespace SP
open PySem PySem.Spec PyProof.Rows L2 SeqAt
/-! ### list comprehensions: one clause -/
def lcT (g : Tg) (tt : St') (te : Sm) (ρ : TEnv) : List T → Store → List T → R (List T)
  | [], q, acc => .ok acc q
  | t :: ts, q, acc => match g t ρ q with
    | none => .stuck
    | some (ρ1, q1) => match tt ρ1 q1 with
      | .ok b q2 => if b = true then (match te ρ1 q2 with
          | .ok y q3 => lcT g tt te ρ ts q3 (acc ++ [y])
          | _ => .stuck) else lcT g tt te ρ ts q2 acc
      | _ => .stuck
def tTrue : St' := fun _ q => .ok true q
open Classical in
noncomputable def nLc (fi : Si) (g : Tg) (tt : St') (te : Sm) (vs : List Nat) : Sm := fun ρ q => (fi ρ q).bind fun ts q1 => if ts.length ≤ sizeLine then (lcT g tt te (wipeT ρ vs) ts q1 []).bind fun ys q2 => .ok (.lst ys) q2 else .stuck
structure STs (L : Lx) (X : Cx) (ifs : List Expr) (f : St') : Prop where
  pt : ∀ W, Takes X W → PTs X ifs (rdT X.K L W f)
section
variable {L : Lx} {X : Cx} {e : Expr} {t : St'}
theorem sts_nil : STs L X [] tTrue := ⟨fun W tk => ⟨fun pins s σ H Q I ⟨ν, ρ, q, sim, en, p⟩ => pts_nil.run pins s σ H Q I (p.now sim)⟩⟩
theorem sts_one (h : ST L X e t) : STs L X [e] t := ⟨fun W tk => pts_one (h.pt W tk)⟩
end
/-- the new list at D is filled further -/
theorem Tr.fill {ν : Nu} {H : Hp} {D : Addr} {o : HO} (hD : H D ≠ Option.none) : Tr (ν.hide D) H (ν.hide D) (upd H D o) := by
  have ne : ∀ {a : Addr}, Fz (ν.hide D) a → a ≠ D := fun {a} n z => n.2 (by rw [z]; exact List.mem_cons_self)
  refine ⟨fun a u e n _ _ => by rw [upd_ne (ne n)]; exact e, fun a kvs e n => ?_, fun a e => ?_, fun _ b _ h => ⟨b, h⟩, fun a n _ => n⟩
  · rcases e with e | ⟨u, e⟩
    · exact .inl (by rw [upd_ne (ne n)]; exact e)
    · exact .inr ⟨u, by rw [upd_ne (ne n)]; exact e⟩
  · by_cases z : a = D
    · subst z; rw [upd_same] at e; cases e
    · rw [upd_ne z] at e; exact e
theorem SimQ.fill {K : PySem.W.Frag} {L : Lx} {ν : Nu} {q : Store} {H : Hp} {D : Addr} {acc acc' : List V} (s : SimQ K L (ν.hide D) q H) (hD : H D = some (.lst acc)) : SimQ K L (ν.hide D) q (upd H D (.lst acc')) := by
  have h0 := s.hidOk D List.mem_cons_self
  refine ⟨s.len, fun i c e => ?_, s.dead, s.inj, fun p hp => ?_, fun a m => ⟨fun e => ?_, (s.hidOk a m).2⟩⟩
  · obtain ⟨a, u, h1, h2, h3⟩ := s.cells i c e
    have ne : a ≠ D := fun z => h0.2 (by rw [← z]; exact List.mem_of_getElem? h1)
    exact ⟨a, u, h1, by rw [upd_ne ne]; exact h2, h3.tr (Tr.fill h0.1)⟩
  · obtain ⟨ps, h1, h2, h3⟩ := s.tabs p hp
    refine ⟨ps, by rw [upd_ne (fun z => by rw [z, hD] at h1; cases h1)]; exact h1, h2, fun pos cv e => ?_⟩
    obtain ⟨c, e1, e2⟩ := h3 pos cv e
    exact ⟨c, e1, by rw [upd_ne (fun z => by rw [z, hD] at e2; cases e2)]; exact e2⟩
  · by_cases z : a = D
    · rw [z, upd_same] at e; cases e
    · rw [upd_ne z] at e; exact (s.hidOk a m).1 e
/-- what was known before the list was begun, behind one more turn -/
theorem Fut.turn {ν1 ν ν4 : Nu} {H1 H H4 : Hp} {D : Addr} {o : HO} (f : Fut ν1 H1 ν H) (h1 : H1 D = Option.none) (g : Fut (ν.hide D) H ν4 H4) : ν4 = (⟨ν4.l, ν1.hid⟩ : Nu).hide D ∧ Fut ν1 H1 ⟨ν4.l, ν1.hid⟩ (upd H4 D o) := by
  have hh : ν4.hid = D :: ν1.hid := by rw [g.hid]; show D :: ν.hid = _; rw [f.hid]
  refine ⟨by cases ν4; cases hh; rfl, ?_⟩
  have ne : ∀ {a : Addr}, H1 a ≠ Option.none → a ≠ D := fun {a} n z => n (by rw [z]; exact h1)
  have fz : ∀ {a : Addr}, Fz ν a → a ≠ D → Fz (ν.hide D) a := fun {a} n z => ⟨n.1, fun m => (List.mem_cons.mp m).elim z n.2⟩
  have some_ne : ∀ {a : Addr} {u : HO}, H1 a = some u → H1 a ≠ Option.none := fun {a u} e => by rw [e]; nofun
  refine ⟨⟨fun a u e n t k => ?_, fun a kvs e n => ?_, fun a e => ?_, fun m b a e => ?_, fun a n e => ?_⟩, rfl, fun a m u e t => ?_⟩
  · rw [upd_ne (ne (some_ne e))]
    exact g.keep a u (f.keep a u e n t k) (fz (f.notIn e n) (ne (some_ne e))) t k
  · have e0 : H1 a ≠ Option.none := by rcases e with e | ⟨u, e⟩ <;> exact some_ne e
    have r := g.keepD a kvs (f.keepD a kvs e n) (fz (f.old a n e0) (ne e0))
    rcases r with r | ⟨u, r⟩
    · exact .inl (by rw [upd_ne (ne e0)]; exact r)
    · exact .inr ⟨u, by rw [upd_ne (ne e0)]; exact r⟩
  · by_cases z : a = D
    · rw [z, upd_same] at e; cases e
    · rw [upd_ne z] at e
      exact f.none a (g.none a e)
  · obtain ⟨b', e'⟩ := f.nu m b a e
    exact g.nu m b' a e'
  · have r := g.old a (fz (f.old a n e) (ne e)) (fun z => e (f.none a z))
    exact ⟨r.1, fun m => r.2 (by rw [hh]; exact List.mem_cons_of_mem _ m)⟩
  · rw [upd_ne (ne (some_ne e))]
    exact g.keepH a (by show a ∈ D :: ν.hid; rw [f.hid]; exact List.mem_cons_of_mem _ m) u (f.keepH a m u e t) t
theorem Fut.hideTr {ν1 ν : Nu} {H1 H : Hp} {D : Addr} (f : Fut ν1 H1 ν H) (h1 : H1 D = Option.none) : Tr ν1 H1 (ν.hide D) H :=
  ⟨f.keep, f.keepD, f.none, f.nu, fun a n e => ⟨(f.old a n e).1, fun m => (List.mem_cons.mp m).elim (fun z => e (by rw [z]; exact h1)) (f.old a n e).2⟩⟩
theorem wipe_sub {σ : L2.St} {vs : List Nat} : ∀ ws : List Nat, (∀ w ∈ ws, w ∈ vs) → wipe (wipe σ ws) vs = wipe σ vs
  | [], _ => rfl
  | w :: ws, h => by
    show wipe ((wipe σ ws).set w none) vs = _
    rw [wipe_set, if_pos (h w List.mem_cons_self)]
    exact wipe_sub ws fun w m => h w (List.mem_cons_of_mem _ m)
/-- what a comprehension's turns keep: the new list at D holds what acc tells -/
def LcAt (K : PySem.W.Frag) (L : Lx) (W : WX) (σ : L2.St) (Q : VK) (ν1 : Nu) (H1 : Hp) (D : Addr) (vs : List Nat) (ρ : TEnv) (i : Nat) (H : Hp) (post : Store → List T → R T) : Prop :=
  ∃ (l : List (Bool × Addr)) (q : Store) (acc : List T) (xs : List V), SimQ K L ((⟨l, ν1.hid⟩ : Nu).hide D) q H ∧ H D = some (.lst xs) ∧ Reps K L ((⟨l, ν1.hid⟩ : Nu).hide D) H acc xs ∧
    xs.length ≤ i ∧ EnvOk K L ((⟨l, ν1.hid⟩ : Nu).hide D) H ρ (wipe σ vs) ∧ Fut ν1 H1 ⟨l, ν1.hid⟩ H ∧ PostN K L W σ ν1 H1 (post q acc) Q
section
variable {L : Lx} {X : Cx} {elt tg iter : Expr} {ifs : List Expr} {scope : Scope} {own : List (Str × Nat)} {pos : Pos} {fi : Si} {g : Tg} {tt : St'} {te : Sm}
/-- a comprehension's turns, from the trees -/
theorem lc_in {K : PySem.W.Frag} {W : WX} {σ : L2.St} {Q : VK} {vs : List Nat} {ts : List T} {ρ : TEnv} {q' : Store} {ν1 : Nu} {H1 : Hp} {J : It} (s1 : SimQ K L ν1 q' H1) (en0 : EnvOk K L ν1 H1 ρ σ) (Y : Yields K L ν1 H1 J ts) (hz : ts.length ≤ sizeLine)
    (p : PostN K L W σ ν1 H1 ((lcT g tt te (wipeT ρ vs) ts q' []).bind fun ys q2 => .ok (.lst ys) q2) Q) :
    ∀ D, H1 D = none → ∃ W2 : Nat → Nat → Hp → Prop, (∃ m, W2 0 m (upd H1 D (.lst []))) ∧ ∀ i m H, W2 i m H →
      (J.stop i H ∧ Q (.ref D) H) ∨ (J.go i H ∧ ∃ Nx : Hp → Prop, (∀ H', Nx H' → ∃ m', m' < m ∧ W2 (i + 1) m' H') ∧ ∀ x H', J.yld i H x H' → rdGw K L vs g x (wipe σ vs) H' fun σ2 H2 => wipe σ2 vs = wipe σ vs ∧ rdT K L (fun _ _ _ _ => False) tt σ2 H2 fun b H3 =>
        if b = true then rdE K L (fun _ _ _ _ => False) te σ2 H3 fun y H4 => ∃ acc, H4 D = some (.lst acc) ∧ acc.length < sizeLine ∧ Nx (upd H4 D (.lst (acc ++ [y]))) else Nx H3) := by
  intro D hD
  have en1 := en0.wipe vs
  let post := fun i q acc => (lcT g tt te (wipeT ρ vs) (ts.drop i) q acc).bind fun ys q2 => R.ok (T.lst ys) q2
  refine ⟨fun i m H => m = ts.length - i ∧ i ≤ ts.length ∧ LcAt K L W σ Q ν1 H1 D vs (wipeT ρ vs) i H (post i),
    ⟨ts.length, by simp, Nat.zero_le _, ν1.l, q', [], [], s1.hideNew hD, upd_same, .nil, Nat.zero_le _, (en1.tr (Tr.hideNew (K := K) (q := q') hD)), (New.upd hD).fut ν1, p⟩, ?_⟩
  rintro i m H2 ⟨rfl, hi, l, q2, acc, xs, s2, hD2, ra, hx, en2, f2, p2⟩
  obtain ⟨y1, y2⟩ := Y i ⟨l, ν1.hid⟩ H2 q2 f2.toTr s2.unhide
  by_cases hl : i < ts.length
  · have et : ts[i]? = some ts[i] := List.getElem?_eq_getElem hl
    -- the source's step, D hidden
    obtain ⟨_, z2⟩ := Y i ((⟨l, ν1.hid⟩ : Nu).hide D) H2 q2 (f2.hideTr hD) s2
    obtain ⟨go, yl⟩ := z2 _ et
    refine .inr ⟨go, fun H => i + 1 ≤ ts.length ∧ LcAt K L W σ Q ν1 H1 D vs (wipeT ρ vs) (i + 1) H (post (i + 1)), fun H' hN => ⟨ts.length - (i + 1), by omega, rfl, hN⟩, fun x H3 hy => ?_⟩
    obtain ⟨n3, r3⟩ := yl x H3 hy
    have p2 : PostN K L W σ ν1 H1 ((lcT g tt te (wipeT ρ vs) (ts.drop i) q2 acc).bind fun ys q2 => .ok (.lst ys) q2) Q := p2
    rw [List.drop_eq_getElem_cons hl] at p2
    unfold lcT at p2
    have f3 := n3.fut ((⟨l, ν1.hid⟩ : Nu).hide D)
    refine ⟨_, wipeT ρ vs, q2, ts[i], s2.new n3, en2.fut f3, r3, ?_⟩
    cases eg : g ts[i] (wipeT ρ vs) q2 with
    | none => rw [eg] at p2; exact p2
    | some z =>
      rw [eg] at p2
      intro σ4 eq4 en4 ew4
      refine ⟨by rw [ew4]; exact wipe_sub vs fun _ m => m, _, z.1, z.2, by rw [eq4]; exact s2.new n3, en4, ?_⟩
      simp only at p2
      cases ett : tt z.1 z.2 with
      | exc c fs q' => simp only [ett] at p2; exact p2.elim
      | stuck => simp only [ett] at p2; exact p2.elim
      | ok b q4 =>
        simp only [ett] at p2
        intro ν5 H5 f5 s5
        have f35 := f3.trans f5
        cases b with
        | false =>
          show _ ∧ _
          have p2 : PostN K L W σ ν1 H1 ((lcT g tt te (wipeT ρ vs) (ts.drop (i + 1)) q4 acc).bind fun ys q2 => .ok (.lst ys) q2) Q := p2
          have hD5 : H5 D = some (.lst xs) := f35.keepH D List.mem_cons_self _ hD2 nofun
          obtain ⟨eν, fν⟩ := Fut.turn (o := .lst xs) f2 hD f35
          have eH : upd H5 D (.lst xs) = H5 := by
            funext a
            by_cases z : a = D
            · rw [z, upd_same, hD5]
            · rw [upd_ne z]
          rw [eH] at fν
          refine ⟨hl, ν5.l, q4, acc, xs, ?_, hD5, ?_, by omega, ?_, fν, p2⟩
          · rw [← eν]; exact s5
          · rw [← eν]; exact ra.fut f35
          · rw [← eν]; exact en2.fut f35
        | true =>
          show rdE K L (fun _ _ _ _ => False) te σ4 H5 _
          simp only [if_true] at p2
          refine ⟨ν5, z.1, q4, s5, en4.fut f5, ?_⟩
          cases ete : te z.1 q4 with
          | exc c fs q' => simp only [ete] at p2; exact p2.elim
          | stuck => simp only [ete] at p2; exact p2.elim
          | ok y q6 =>
            simp only [ete] at p2
            intro ν6 H6 v f6 s6 r6
            have f36 := f35.trans f6
            have hD6 : H6 D = some (.lst xs) := f36.keepH D List.mem_cons_self _ hD2 nofun
            obtain ⟨eν, fν⟩ := Fut.turn (o := .lst (xs ++ [v])) f2 hD f36
            rw [eν] at s6 r6
            have ra6 := ra.fut f36
            have en6 := en2.fut f36
            rw [eν] at ra6 en6
            have ft := Tr.fill (ν := ⟨ν6.l, ν1.hid⟩) (H := H6) (D := D) (o := .lst (xs ++ [v])) (by rw [hD6]; nofun)
            refine ⟨xs, hD6, by omega, hl, ν6.l, q6, acc ++ [y], xs ++ [v], s6.fill hD6, upd_same, (ra6.append (.one r6)).tr ft, by rw [List.length_append, List.length_singleton]; omega, en6.tr ft, fν, p2⟩
  · refine .inl ⟨y1 (by omega), ?_⟩
    have p2 : PostN K L W σ ν1 H1 ((lcT g tt te (wipeT ρ vs) (ts.drop i) q2 acc).bind fun ys q2 => .ok (.lst ys) q2) Q := p2
    rw [List.drop_eq_nil_of_le (by omega)] at p2
    have p3 : PostN K L W σ ν1 H1 (.ok (.lst acc) q2) Q := p2
    exact p3 ⟨l, ν1.hid⟩ H2 D _ f2 s2 hD hD2 (.lst ra)
/-- the reading of a comprehension, from the trees -/
theorem lc_rd {K : PySem.W.Frag} {W : WX} {σ : L2.St} {H : Hp} {Q : VK} {vs : List Nat} (p : rdN K L W (nLc fi g tt te vs) σ H Q) :
    tLc (rdI K L W fi) (rdGw K L vs g) (rdT K L (fun _ _ _ _ => False) tt) (rdE K L (fun _ _ _ _ => False) te) vs σ H Q := by
  obtain ⟨ν, ρ, q, s, en, p⟩ := p
  unfold nLc at p
  refine ⟨ν, ρ, q, s, en, ?_⟩
  cases e : fi ρ q with
  | exc c fs q' => rw [e] at p; exact p
  | stuck => rw [e] at p; exact p
  | ok ts q' =>
    rw [e, bind_ok] at p
    intro ν1 H1 f1 s1 J Y
    split at p
    case isFalse => exact p.elim
    rename_i hz
    exact lc_in s1 (en.fut f1) Y hz (PostN.fut f1 p)
theorem sn_lc (hc : X.calm = true) (hN : X.N.Nodup) (hi : SI L X tg iter fi) (ok : BlkOk X.N X.env.scope scope own)
    (hg : ∀ (s : Shared) (H : Hp) (C : Addr) (cl : List (Str × Addr)) (fp : List Addr), SGw L (X.blk s H scope (compEnvC scope cl C X.env) fp) (own.map (·.2)) tg g)
    (ht : ∀ (s : Shared) (H : Hp) (C : Addr) (cl : List (Str × Addr)) (fp : List Addr), STs L (X.blk s H scope (compEnvC scope cl C X.env) fp) ifs tt)
    (he : ∀ (s : Shared) (H : Hp) (C : Addr) (cl : List (Str × Addr)) (fp : List Addr), SE L (X.blk s H scope (compEnvC scope cl C X.env) fp) elt te)
    (hs : ∀ x, foldedSetIterable iter X.env x = pure x := by intro _; rfl) : SN L X (.ListComp elt [⟨tg, iter, ifs, 0⟩] scope pos) (nLc fi g tt te (own.map (·.2))) :=
  ⟨fun W tk => PE.imp (pe_lc hc hN (hi.pi W tk) ok (fun s H C cl fp => (hg s H C cl fp).pg) (fun s H C cl fp => (ht s H C cl fp).pt _ takes0) (fun s H C cl fp => (he s H C cl fp).pe _ takes0) hs) fun σ H Q p => lc_rd p⟩
/-- name = [..] on one line -/
theorem ss_setLc {i : Nat} {y : Str} {py spos : Pos} (hc : X.calm = true) (hN : X.N.Nodup) (hy : X.N[i]? = some y) (hyl : X.env.scope.names.lookup y = some .local)
    (hsw : swapsWith (.ListComp elt [⟨tg, iter, ifs, 0⟩] scope pos) (some (.Name y py)) spos.line X.env = pure true) (hi : SI L X tg iter fi) (ok : BlkOk X.N X.env.scope scope own)
    (hg : ∀ (s : Shared) (H : Hp) (C : Addr) (cl : List (Str × Addr)) (fp : List Addr), SGw L (X.blk s H scope (compEnvC scope cl C X.env) fp) (own.map (·.2)) tg g)
    (ht : ∀ (s : Shared) (H : Hp) (C : Addr) (cl : List (Str × Addr)) (fp : List Addr), STs L (X.blk s H scope (compEnvC scope cl C X.env) fp) ifs tt)
    (he : ∀ (s : Shared) (H : Hp) (C : Addr) (cl : List (Str × Addr)) (fp : List Addr), SE L (X.blk s H scope (compEnvC scope cl C X.env) fp) elt te)
    (hs : ∀ x, foldedSetIterable iter X.env x = pure x := by intro _; rfl) (mu : Bool) :
    SS L X (.Assign [.Name y py] (.ListComp elt [⟨tg, iter, ifs, 0⟩] scope pos) spos) (xSet i ((if mu = true then thaw else froz) (nLc fi g tt te (own.map (·.2))))) := by
  refine ⟨fun W tk hp => PS.imp (ps_setLc (wi := rdI X.K L W fi) (g := rdGw X.K L (own.map (·.2)) g) (tt := rdT X.K L (fun _ _ _ _ => False) tt) (te := rdE X.K L (fun _ _ _ _ => False) te) hc hN hy hyl hsw (hi.pi W tk) ok (fun s H C cl fp => (hg s H C cl fp).pg) (fun s H C cl fp => (ht s H C cl fp).pt _ takes0) (fun s H C cl fp => (he s H C cl fp).pe _ takes0) hs) fun D σ H ⟨ν, ρ, q, s, en, p⟩ => ?_⟩
  refine lc_rd (W := W) ⟨ν, ρ, q, s, en, ?_⟩
  cases mu with
  | true =>
    unfold xSet at p
    simp only [if_true] at p
    unfold thaw at p
    cases e : nLc fi g tt te (own.map (·.2)) ρ q with
    | ok t q' =>
      rw [e, bind_ok, to_ok] at p
      intro ν' H' b o ft s' h0 hb r
      refine p _ H' _ (ft.push h0) (s'.push hb r (s'.fz_hidden s ft h0).2) ((en.fut (ft.push h0)).set i (.obj (b := true) ?_))
      show (ν'.l ++ [(true, b)])[q'.length]? = _
      rw [getElem?_snoc, if_pos]
      exact (show ν'.l.length = q'.length from s'.len).symm
    | exc c fs q' => rw [e] at p; exact fun ν' H' cls d ft s' x => p ν' H' σ cls d ft s' (en.fut ft) x
    | stuck => rw [e] at p; exact p
  | false =>
    unfold xSet at p
    simp only [Bool.false_eq_true, if_false] at p
    unfold froz at p
    cases e : nLc fi g tt te (own.map (·.2)) ρ q with
    | ok t q' =>
      rw [e, bind_ok] at p
      intro ν' H' b o ft s' h0 hb r
      split at p
      · rename_i hc
        rw [to_ok] at p
        exact p ν' H' _ ft s'.unhide ((en.fut ft).set i ((r.tr (Tr.unhide ν' b H')).rep (s'.fz_hidden s ft h0) hb hc))
      · exact p.elim
    | exc c fs q' => rw [e] at p; exact fun ν' H' cls d ft s' x => p ν' H' σ cls d ft s' (en.fut ft) x
    | stuck => rw [e] at p; exact p
end
end SP

namespace SP
open PySem PySem.Spec PyProof.Rows L2 SeqAt LamX GenW
/-! ### generator expressions: the frame -/
abbrev genCenv (X : Cx) (scope : Scope) (C : Addr) (code : Value) : Env := genEnv scope (cloFrom X.env.cells scope.names []) C code builtinsNs X.env
def genX (X : Cx) (A : Around) (s : Shared) (H : Hp) (scope : Scope) (C : Addr) (code : Value) (fp : List Addr) (pn : List (Addr × Obj)) : Cx where
  prog := X.prog
  w := X.w
  K := X.K
  mg := X.mg
  base := X.base
  A := A.deeper (genCenv X scope C code)
  N := X.N
  s_0 := s
  H_0 := H
  env := genCenv X scope C code
  outer := X.stack
  stack := genCenv X scope C code :: X.stack
  ex := fp
  fn := fun _ => false
  calm := true
  pn := pn
  xe := fun _ _ => False
theorem over_genL {A : Around} {elt : Expr} {gs : List Comprehension} {scope : Scope} {pos : Pos} {it acc : Value} {env : Env} : A.over (.compLoop (.GeneratorExp elt gs scope pos) 0 it acc env) [] = A.deeper env := by
  first
    | rfl
    | (obtain ⟨hd, d, fr, gs, u⟩ := A; simp [Around.over, Around.deeper, marksOver, frameCount, unitsOf, envsOf, guardsOf, pushEnvs, pushGuards, Code.envs, Code.env?, Code.isFrame, Code.guards, Code.isGuard, Code.weight, Code.frames, Code.isCreation, Code.isCaller, Code.cUnits])
theorem over_genS {A : Around} {elt : Expr} {gs : List Comprehension} {scope : Scope} {pos : Pos} {it acc : Value} {env : Env} : A.over (.compStart (.GeneratorExp elt gs scope pos) 0 it acc env) [] = A.deeper env := by
  first
    | rfl
    | (obtain ⟨hd, d, fr, gs, u⟩ := A; simp [Around.over, Around.deeper, marksOver, frameCount, unitsOf, envsOf, guardsOf, pushEnvs, pushGuards, Code.envs, Code.env?, Code.isFrame, Code.guards, Code.isGuard, Code.weight, Code.frames, Code.isCreation, Code.isCaller, Code.cUnits])
section
variable {X : Cx} {pins : List (Addr × Obj)} {σ : L2.St} {H : Hp} {s : Shared}
theorem gen_start {scope : Scope} {own : List (Str × Nat)} {fp : List Addr} {A : Around} {code : Value} {pn : List (Addr × Obj)} {h₁ : Heap} {gens : Array GenState} {dr : Drawn} {tk : Nat} {m : Str → Option Value}
    (I : Inv X pins σ H s) (ok : BlkOk X.N X.env.scope scope own) (hN : X.N.Nodup) (hcell : ∀ y ∈ scope.names, y.2 ≠ .cell) (hfp : ∀ b ∈ fp, FpOk X pins H b ∧ b < s.heap.objs.size) (hd : A.handled = none) (hfr : A.frames = some X.stack)
    (hns : h₁.Ns s.heap.objs.size m) (kp : ∀ b o, s.heap.get? b = some o → h₁.get? b = some o) (hg : AllBare gens)
    (hpn : ∀ p ∈ pn, h₁.get? p.1 = some p.2 ∧ H p.1 = none ∧ p.1 ≠ s.heap.objs.size ∧ p.1 ∉ frs X.stack ∧ ∀ v, p.2.data ≠ .cell v) :
    Inv (genX X A s H scope s.heap.objs.size code fp pn) [] (wipe σ (own.map (·.2))) H { s with heap := h₁, gens := gens, drawn := dr, toks := tk } := by
  have hfree : ∀ y ∈ scope.names, y.2 = .free → ∃ c, X.env.cells.lookup y.1 = some c := fun y hy e => by
    rcases ok.free y hy e with k | k
    · exact I.ok.has _ (.inl k)
    · exact I.ok.has _ (.inr k)
  have e0 := I.env0
  have cm : ∀ {y c}, (cloFrom X.env.cells scope.names []).lookup y = some c → X.env.cells.lookup y = some c := fun {y c} e => by
    rcases cloFrom_mem (PySem.mem_of_lookup e) with hm | ⟨h1, h2⟩
    · cases hm
    · obtain ⟨c1, hc⟩ := hfree _ h1 rfl
      have hc : X.env.cells.lookup y = some c1 := hc
      have e2 : c = c1 := by
        rw [h2, hc] <;> rfl
      rw [e2]
      exact hc
  have look : ∀ {y}, scope.names.lookup y = some .free → ∃ c, (cloFrom X.env.cells scope.names []).lookup y = some c := fun {y} hl => by
    have hy : (y, NameKind.free) ∈ scope.names := PySem.mem_of_lookup hl
    exact mem_lookup (cloFrom_has (cells := X.env.cells) (acc := []) hy)
  refine ⟨⟨I.ok.mod, ok.kind, I.ok.glob, rfl, Nat.le_refl _, fun y z c e1 e2 => I.ok.inj y z c (cm e1) (cm e2), fun y hy => ?_, fun y c z _ => ?_, fun _ => hd, Around.frames_deeper hfr, .inr ⟨rfl, rfl⟩, fun b hb => ⟨Nat.ne_of_lt (hfp b hb).2, fun y c e z => ?_⟩, I.bs, Nat.le_trans I.ok.bsz I.sz, fun b o e hb => ?_,
      fun b hb z => ?_, I.stack, I.stkFree⟩,
    rfl, hg, Un.kept kp, ⟨m, hns, fun i y v e1 e2 e3 => ?_⟩, fun y c e => ?_, I.hok.fresh (Nat.le_refl _), fun y c e => I.freeC y c (cm e), fun p hp => ?_, I.hok.kept kp, by rw [wipe_length]; exact I.len⟩
  · have hy : scope.names.lookup y = some .cell ∨ scope.names.lookup y = some .free := hy
    rcases hy with hy | hy
    · exact absurd rfl (hcell _ (PySem.mem_of_lookup hy))
    · exact look hy
  · have z : false = true := z
    cases z
  · exact (hfp b hb).1.2.2.2.2.1 y c (cm e) z
  · rcases (hfp b hb).1.2.2.2.1 with z | z
    · exact I.ok.noex b o e z
    · exact absurd (Nat.lt_of_lt_of_le (Heap.lt_size e) (Nat.le_trans I.ok.bsz z)) (Nat.lt_irrefl _)
  · rcases List.mem_cons.mp (I.stkSub b z) with z | z
    · exact (hfp b hb).1.2.1 z
    · exact (hfp b hb).1.2.2.1 z
  · obtain ⟨e2, hne⟩ := wipe_some e2
    have e3 : Vis scope y := e3
    have no : ∀ k, scope.names.lookup y = some k → (k = .local ∨ k = .cell) → False := fun k e hh => by
      rcases ok.own _ (PySem.mem_of_lookup e) hh with e' | e'
      · obtain ⟨p, hp, hpy⟩ := List.mem_map.mp e'
        have e3 := ok.ix p hp
        have : p.1 = y := hpy
        rw [this] at e3
        exact hne (List.mem_map.mpr ⟨p, hp, nodup_ix hN e3 e1⟩)
      · exact e' (List.mem_of_getElem? e1)
    rcases e3 with k | k | k
    · exact (no _ k (.inl rfl)).elim
    · exact (no _ k (.inr rfl)).elim
    · obtain ⟨m, hn, hl⟩ := I.loc
      have hvis : Vis X.env.scope y := (ok.free _ (PySem.mem_of_lookup k) rfl).elim (fun k => .inr (.inl k)) (fun k => .inr (.inr k))
      obtain ⟨w', r, q⟩ := hl i y v e1 e2 hvis
      obtain ⟨c2, h2⟩ := look k
      refine ⟨w', r, .inr ⟨.inr k, c2, h2, ?_⟩⟩
      have c1 := cm h2
      rcases q with ⟨k', _⟩ | ⟨_, c3, e', z⟩
      · have k' : X.env.scope.names.lookup y = some .local := k'
        rcases ok.free _ (PySem.mem_of_lookup k) rfl with k2 | k2 <;> rw [show X.env.scope.names.lookup y = _ from k2] at k' <;> cases k'
      · rw [c1] at e'
        cases e'
        exact z.keeps kp
  · obtain ⟨w', z⟩ := I.cell y c (cm e)
    exact ⟨w', z.keeps kp⟩
  · have hp : p ∈ pn ++ [] := hp
    rw [List.append_nil] at hp
    exact hpn p hp
theorem Inv.gensTo {g' : Array GenState} (I : Inv X pins σ H s) (hg : AllBare g') : Inv X pins σ H { s with gens := g' } :=
  ⟨I.ok, I.os, hg, I.base, I.loc, I.cell, I.free, I.freeC, I.pin, I.hok, I.len⟩
end
end SP

namespace SP
open PySem PySem.Spec PyProof.Rows L2 SeqAt LamX GenW
/-! ### generator expressions: the turns -/
/-- W: a turn is to begin; Fin: nothing is left; Yd: an item is handed out -/
def GTurn (J : It) (g : TG) (tt : TT) (te : TE) (σ : L2.St) (vs : List Nat) (W : Nat → Nat → Hp → Prop) (Fin : Hp → Prop) (Yd : Nat → Nat → V → Hp → Prop) : Prop :=
  ∀ i m H, W i m H → (J.stop i H ∧ Fin H) ∨ (J.go i H ∧ ∀ x H', J.yld i H x H' → g x (wipe σ vs) H' fun σ2 H2 => wipe σ2 vs = wipe σ vs ∧ tt σ2 H2 fun b H3 =>
    if b = true then te σ2 H3 fun y H4 => ∃ m', m' < m ∧ Yd (i + 1) m' y H4 else ∃ m', m' < m ∧ W (i + 1) m' H3)
structure GSt (X : Cx) (fp : List Addr) (tn : Nat → Heap → Prop) (σ : L2.St) (pins : List (Addr × Obj)) (i : Nat) (H : Hp) (s : Shared) : Prop where
  inv : Inv X pins σ H s
  tn : tn i s.heap
  none : ∀ b ∈ fp, H b = none
def Lk (pins : List (Addr × Obj)) (s : Shared) : Prop := ∀ p ∈ pins, s.heap.get? p.1 = some p.2
def GEnd1 (X : Cx) (σ : L2.St) (Pp : List (Addr × Obj) → Prop) (Fin : List (Addr × Obj) → Hp → Prop) (s₀ s : Shared) : Prop := ∃ H pins, Inv X pins σ H s ∧ Pp pins ∧ Fin pins H ∧ Lk pins s₀
def GYd1 (X : Cx) (fp : List Addr) (tn : Nat → Heap → Prop) (σ : L2.St) (Pp : List (Addr × Obj) → Prop) (W : List (Addr × Obj) → Nat → Nat → Hp → Prop) (Yd : List (Addr × Obj) → Nat → Nat → V → Hp → Prop) : Protocol := fun n s₀ v s kap =>
  ∃ i H x m pins, GSt X fp tn σ pins i H s ∧ Pp pins ∧ RelV x v ∧ m ≤ n ∧ Yd pins i m x H ∧ Lk pins s₀ ∧ ∀ s'' H'' pins', GSt X fp tn σ pins' i H'' s'' → Pp pins' → W pins' i m H'' → kap (.send .none) s''
section
variable {X : Cx} {elt tg iter : Expr} {ifs : List Expr} {scope : Scope} {pos : Pos} {g : TG} {tt : TT} {te : TE} {J : It} {fp : List Addr} {it : Addr} {tn : Nat → Heap → Prop} {σ : L2.St} {vs : List Nat} {W : List (Addr × Obj) → Nat → Nat → Hp → Prop} {Fin : List (Addr × Obj) → Hp → Prop} {Yd : List (Addr × Obj) → Nat → Nat → V → Hp → Prop} {Pp : List (Addr × Obj) → Prop} {A : Around}
theorem gen_seg (hsc : X.env.scope = scope) (hco : scope.isCoroutine = false) (hc : X.calm = true) (hA : A.deeper X.env = X.A) (T : Turn X.prog X.w X.K tg J fp it tn) (hW : ∀ pins, Pp pins → GTurn J g tt te σ vs (W pins) (Fin pins) (Yd pins)) (pg : PG X tg g) (pt : PTs X ifs tt) (pe : PE X elt te)
    (hxe : ∀ e s, ¬ X.xe e s) (hex : ∀ b ∈ fp, b ∈ X.ex) (hPp : ∀ pins, Pp pins → ∀ b ∈ fp, ∀ p ∈ X.pn ++ pins, p.1 ≠ b) :
    ∀ (m n i : Nat) (s₀ s : Shared) (H : Hp) (pins : List (Addr × Obj)), m ≤ n → W pins i m H → GSt X fp tn (wipe σ vs) pins i H s → Pp pins → Lk pins s₀ →
      Seg (model X.prog X.w) A (fun _ s₀ r s₁ => r = .ok .next ∧ GEnd1 X (wipe σ vs) Pp Fin s₀ s₁) (GYd1 X fp tn (wipe σ vs) Pp W Yd) n s₀ (.compLoop (.GeneratorExp elt [⟨tg, iter, ifs, 0⟩] scope pos) 0 (.ref it) .none X.env)
        ((model X.prog X.w).den (.compLoop (.GeneratorExp elt [⟨tg, iter, ifs, 0⟩] scope pos) 0 (.ref it) .none X.env)) [] s := by
  intro m
  induction m using Nat.strongRecOn with
  | ind m ih =>
  intro n i s₀ s H pins hmn hw st hp hlk
  have stat : ∀ {σ' : L2.St} {H' : Hp} {s' : Shared}, Inv X pins σ' H' s' → (∀ b ∈ fp, H' b = none) → ∀ b ∈ fp, FpOk X pins H' b := fun {σ' H' s'} I' hn b hb =>
    ⟨hn b hb, (I'.ok.exf b (hex b hb)).1, I'.ok.exfs b (hex b hb), .inl (hex b hb), fun x c e => (I'.ok.exf b (hex b hb)).2 x c e, hPp pins hp b hb⟩
  show Seg _ A _ _ _ s₀ _ ((compTurn (.GeneratorExp elt [⟨tg, iter, ifs, 0⟩] scope pos) 0 (.ref it) .none X.env).onRaise (leaving X.env)) [] s
  rw [compTurn_gen, Sem.onRaise_eq_wrap]
  have ov : A.over (.compLoop (.GeneratorExp elt [⟨tg, iter, ifs, 0⟩] scope pos) 0 (.ref it) .none X.env) [] = X.A := by rw [over_genL, hA]
  refine seg_bind_wrap (wpAny_standAt ?_)
  rcases hW pins hp i m H hw with ⟨stop, fin⟩ | ⟨go, step⟩
  · refine seg_bind_wrap ?_
    rw [ov]
    refine thnF (T.done X rfl rfl rfl hc i pins s _ H (fun _ _ => False) st.inv (stat st.inv st.none) st.tn stop) fun r s6 ⟨hr, I6⟩ => ?_
    subst hr
    exact seg_end (.ok .next) ⟨rfl, H, pins, I6, hp, fin, hlk⟩
  · refine seg_bind_wrap ?_
    rw [ov]
    refine thnF (T.item X rfl rfl rfl hc i pins s _ H (fun _ _ => False) st.inv (stat st.inv st.none) st.tn go) fun r s6 ⟨u, hr, h6⟩ => ?_
    subst hr
    refine seg_bind_wrap ?_
    rw [ov]
    refine thnF h6 fun _ s7 ⟨x, H7, I7, r7, y7, st7, n7⟩ => ?_
    have I7' := I7.pinned (stat I7 n7) (T.obj _ _ st7)
    refine seg_bind_wrap ?_
    rw [ov]
    refine wpAny_mono (pg.run _ s7 _ H7 x u _ I7' r7 (step x H7 y7)) (fun _ s8 ⟨σ8, H8, I8, hw8, q8⟩ => ?_) fun e s h => (hxe e s h).elim
    refine seg_bind_wrap ?_
    rw [ov]
    refine wpAny_mono (pt.run _ s8 σ8 H8 _ I8 q8) (fun b s9 ⟨H9, I9, q9⟩ => ?_) fun e s h => (hxe e s h).elim
    -- the turn's end
    have fin : ∀ {s' : Shared} {H' : Hp}, Inv X (pins ++ pinsAt fp s7.heap) σ8 H' s' → GSt X fp tn (wipe σ vs) pins (i + 1) H' s' := fun {s' H'} I' => by
      have pin' : ∀ b ∈ fp, ∀ o, s7.heap.get? b = some o → s'.heap.get? b = some o ∧ H' b = none := fun b hb o e =>
        let z := I'.pin (b, o) (List.mem_append_right _ (List.mem_append_right _ (mem_pinsAt hb e)))
        ⟨z.1, z.2.1⟩
      have hl : (wipe σ vs).length = σ8.length := by rw [← hw8, wipe_length]
      refine ⟨(I'.unpinned (pins := pins)).weak hl (fun j v e => ?_), T.keep _ _ _ st7 fun b hb o e => (pin' b hb o e).1, fun b hb => ?_⟩
      · rw [← hw8] at e
        exact (wipe_some e).1
      · obtain ⟨o, e, _⟩ := T.obj _ _ st7 b hb
        exact (pin' b hb o e).2
    cases b with
    | false =>
      simp only [Bool.false_eq_true, if_false] at q9 ⊢
      obtain ⟨m', hm', w'⟩ := q9
      exact seg_again rfl (ih m' hm' n (i + 1) _ _ _ pins (by omega) w' (fin I9) hp hlk)
    | true =>
      simp only [if_true] at q9 ⊢
      have hy : ∀ v, yieldOut X.env v = yieldValue v := fun v => by simp only [yieldOut, hsc, hco, Bool.false_eq_true, if_false]
      simp only [hy]
      rw [Sem.bind_eq_wrap', Sem.bind_eq_wrap', Sem.wrap_wrap, Sem.wrap_wrap]
      refine seg_wrap ?_
      rw [ov]
      refine wpAny_mono (pe.run _ s9 σ8 H9 _ I9 q9) (fun z s10 ⟨yv, H10, I10, r10, m', hm', yd⟩ => ?_) fun e s h => (hxe e s h).elim
      obtain ⟨n', rfl⟩ : ∃ n', n = n' + 1 := ⟨n - 1, by omega⟩
      refine seg_at (seg_yield rfl rfl rfl ⟨i + 1, H10, yv, m', pins, fin I10, hp, r10, by omega, yd, hlk, fun s'' H'' pins'' st'' hp'' w'' => ?_⟩)
      exact seg_again rfl (ih m' hm' n' (i + 1) _ _ _ pins'' (by omega) w'' st'' hp'' fun p hm => (st''.inv.pin p (List.mem_append_right _ hm)).1)
end
end SP

namespace SP
open PySem PySem.Spec PyProof.Rows L2 SeqAt LamX GenW
section
variable {X : Cx} {elt tg iter : Expr} {ifs : List Expr} {scope : Scope} {pos : Pos} {g : TG} {tt : TT} {te : TE} {J : It} {fp : List Addr} {it : Addr} {tn : Nat → Heap → Prop} {σ : L2.St} {vs : List Nat}
  {W : List (Addr × Obj) → Nat → Nat → Hp → Prop} {Fin : List (Addr × Obj) → Hp → Prop} {Yd : List (Addr × Obj) → Nat → Nat → V → Hp → Prop} {Pp : List (Addr × Obj) → Prop} {A : Around}
/-- the generator's state gs: it may be woken where i turns are done -/
def GGo (X : Cx) (fp : List Addr) (tn : Nat → Heap → Prop) (σ : L2.St) (W : List (Addr × Obj) → Nat → Nat → Hp → Prop) (Fin : List (Addr × Obj) → Hp → Prop) (Yd : List (Addr × Obj) → Nat → Nat → V → Hp → Prop) (Pp : List (Addr × Obj) → Prop) (A : Around) (n i m : Nat) (gs : GenState) : Prop :=
  ∀ (s : Shared) (H : Hp) (pins : List (Addr × Obj)), GSt X fp tn σ pins i H s → Pp pins → W pins i m H → gs.Goes (model X.prog X.w) A (fun _ s₀ r s₁ => r = .ok .next ∧ GEnd1 X σ Pp Fin s₀ s₁) (GYd1 X fp tn σ Pp W Yd) n (.send .none) s
theorem gen_fresh (hsc : X.env.scope = scope) (hco : scope.isCoroutine = false) (hc : X.calm = true) (hA : A.deeper X.env = X.A) (T : Turn X.prog X.w X.K tg J fp it tn) (hW : ∀ pins, Pp pins → GTurn J g tt te σ vs (W pins) (Fin pins) (Yd pins)) (pg : PG X tg g) (pt : PTs X ifs tt) (pe : PE X elt te)
    (hxe : ∀ e s, ¬ X.xe e s) (hex : ∀ b ∈ fp, b ∈ X.ex) (hPp : ∀ pins, Pp pins → ∀ b ∈ fp, ∀ p ∈ X.pn ++ pins, p.1 ≠ b) (m n : Nat) (hmn : m ≤ n) :
    GGo X fp tn (wipe σ vs) W Fin Yd Pp A n 0 m (.fresh (.compStart (.GeneratorExp elt [⟨tg, iter, ifs, 0⟩] scope pos) 0 (.ref it) .none X.env)) := by
  intro s H pins st hp hw
  refine ⟨rfl, ?_⟩
  have loop := gen_seg (iter := iter) (pos := pos) hsc hco hc hA T hW pg pt pe hxe hex hPp m n 0 s s H pins hmn hw st hp fun p hm => (st.inv.pin p (List.mem_append_right _ hm)).1
  have ov : A.over (.compStart (.GeneratorExp elt [⟨tg, iter, ifs, 0⟩] scope pos) 0 (.ref it) .none X.env) [] = X.A := by rw [over_genS, hA]
  show Seg _ A _ _ _ s _ ((compStart (.GeneratorExp elt [⟨tg, iter, ifs, 0⟩] scope pos) 0 (.ref it) .none X.env).onRaise (leaving X.env)) [] s
  unfold compStart
  rw [Sem.onRaise_eq_wrap]
  show Seg _ A _ _ _ s _ ((ask >>= _).wrap _ _ _ _) [] s
  refine seg_bind_wrap (wpAny_askSetting ?_)
  split
  · exact seg_again rfl loop
  · first
      | exact seg_bind_wrap (wpAny_rule (seg_bind_wrap (wpAny_standAt (seg_bind_wrap (T.self _ 0 s _ _ st.tn (seg_again rfl loop))))))
      | (refine seg_bind_wrap (wpAny_rule ?_); show Seg _ A _ _ _ s _ ((standAt iter.pos >>= _).wrap _ _ _ _) [] s; exact seg_bind_wrap (wpAny_standAt (seg_bind_wrap (T.self _ 0 s _ _ st.tn (seg_again rfl loop)))))
/-! ### consumers -/
variable {B : Around} {a : Addr} {gn : Nat} {go : Obj} {R : Result → Shared → Prop}
/-- one item, or the end -/
theorem gen_next (hh : B.handled = none) (hroom : B.depth < recursionLimit) (hgo : (a, go) ∈ X.pn) (hig : ∀ h : Heap, h.get? a = some go → h.IsGen a gn) {n i m : Nat} {s : Shared} {gs : GenState} {H : Hp} {pins : List (Addr × Obj)}
    (st : GSt X fp tn σ pins i H s) (hp : Pp pins) (hw : W pins i m H) (hgs : s.gens[gn]? = some gs) (hG : GGo X fp tn σ W Fin Yd Pp B.in1 n i m gs) {Q : Option Value → Shared → Prop} {E : Value → Shared → Prop}
    (hY : ∀ (s' : Shared) (gs' : GenState) (i' : Nat) (H' : Hp) (x : V) (v : Value) (m' : Nat) (pins' : List (Addr × Obj)), GSt X fp tn σ pins' i' H' s' → Pp pins' → RelV x v → Yd pins' i' m' x H' → Lk pins' s → s'.gens[gn]? = some gs' →
      (match n with | 0 => ∀ (s : Shared) (H : Hp) (pins : List (Addr × Obj)), GSt X fp tn σ pins i' H s → Pp pins → W pins i' m' H → False | n' + 1 => GGo X fp tn σ W Fin Yd Pp B.in1 n' i' m' gs') → Q (some v) s')
    (hF : ∀ (s' : Shared) (H' : Hp) (pins' : List (Addr × Obj)), Inv X pins' σ H' s' → Pp pins' → Fin pins' H' → Lk pins' s → Q none s') :
    wpAny (model X.prog X.w) B (pyNext (.ref a)) Q E s := by
  have hgl : gn < s.gens.size := (Array.getElem?_eq_some_iff.mp hgs).1
  have pinA : ∀ {pins : List (Addr × Obj)} {H : Hp} {s : Shared}, Inv X pins σ H s → s.heap.get? a = some go := fun I => (I.pin (a, go) (List.mem_append_left _ hgo)).1
  refine wpAny_gsz (n := gn + 1) hgl ?_
  refine wpAny_pyNext_genexpQ (P := fun _ s₀ s₁ => GEnd1 X σ Pp Fin s₀ s₁) hh st.inv.nolimit hroom (hig _ (pinA st.inv)) hgs (hG _ H pins ⟨Inv.gensTo st.inv (allBare_setGen st.inv.bare rfl), st.tn, st.none⟩ hp hw) (fun v s₁ gs' hb hv hsz => ?_) (fun s₁ hp h' hk _ => ?_)
  · obtain ⟨i', H', x, m', pins', st', hp', rv, hm, yd, hlk, hk⟩ := hv
    have hsz1 : gn < s₁.gens.size := by
      have q : (s₁.setGen gn gs').gens.size = s₁.gens.size := setGen_size _ _ _
      have hsz' : gn + 1 ≤ (s₁.setGen gn gs').gens.size := hsz
      omega
    refine hY (s₁.setGen gn gs') gs' i' H' x v m' pins' ⟨Inv.gensTo st'.inv (allBare_setGen st'.inv.bare hb), st'.tn, st'.none⟩ hp' rv yd hlk (setGen_at hsz1) ?_
    cases n with
    | zero => exact fun s H pins a b c => hk s H pins a b c
    | succ n' => exact fun s H pins a b c => hk s H pins a b c
  · obtain ⟨H', pins', I', hp', hf, hlk⟩ := hp
    refine hF _ H' pins' ?_ hp' hf hlk
    have I2 := Inv.gensTo I' (allBare_setGen (g := gn) (x := .finished) I'.bare rfl)
    exact I2.kept hk
/-- any: the items are truth values -/
theorem any_gen (hh : B.handled = none) (hroom : B.depth < recursionLimit) (hgo : (a, go) ∈ X.pn) (hig : ∀ h : Heap, h.get? a = some go → h.IsGen a gn) {Tr : Hp → Prop}
    (hF : ∀ s H pins, Inv X pins σ H s → Pp pins → Fin pins H → R (.ok (.ret (.bool false))) s) (hT : ∀ s H pins, Inv X pins σ H s → Pp pins → Tr H → R (.ok (.ret (.bool true))) s)
    (hY : ∀ pins i m x H, Yd pins i m x H → ∃ k, x = .bl k ∧ (if k = true then Tr H else W pins i m H)) :
    ∀ (n i m : Nat) (s : Shared) (gs : GenState) (H : Hp) (pins : List (Addr × Obj)), GSt X fp tn σ pins i H s → Pp pins → W pins i m H → s.gens[gn]? = some gs → GGo X fp tn σ W Fin Yd Pp B.in1.in1 n i m gs →
      codeAny (model X.prog X.w) B (.builtin "any.loop" ⟨[.ref a], []⟩) R s := by
  intro n
  induction n with
  | zero =>
    intro i m s gs H pins st hp hw hgs hG
    refine codeAny_builtin F.entry_any_loop ?_
    rw [Around.under_plainId F.plain_any_loop _]
    show wpAny _ B.in1 (pyNext (.ref a) >>= _) _ _ s
    refine wpAny_bind (gen_next (B := B.in1) hh hroom hgo hig st hp hw hgs hG (fun s' gs' i' H' x v m' pins' st' hp' rv yd hlk hgs' hk => ?_) fun s' H' pins' I' hp' hf hlk => ?_)
    · obtain ⟨k, rfl, hk2⟩ := hY _ _ _ _ _ yd
      obtain rfl : v = Value.bool k := rv
      refine wpAny_bind (wpAny_holding (wpAny_truthy_bool ?_))
      refine wpAny_bind (wpAny_letGo ?_)
      cases k with
      | false => exact (hk s' H' pins' st' hp' hk2).elim
      | true =>
        simp only [if_true] at hk2 ⊢
        exact wpAny_bind (wpAny_rule (wpAny_pure (hT s' H' pins' st'.inv hp' hk2)))
    · exact wpAny_bind (wpAny_rule (wpAny_pure (hF s' H' pins' I' hp' hf)))
  | succ n ih =>
    intro i m s gs H pins st hp hw hgs hG
    refine codeAny_builtin F.entry_any_loop ?_
    rw [Around.under_plainId F.plain_any_loop _]
    show wpAny _ B.in1 (pyNext (.ref a) >>= _) _ _ s
    refine wpAny_bind (gen_next (B := B.in1) hh hroom hgo hig st hp hw hgs hG (fun s' gs' i' H' x v m' pins' st' hp' rv yd hlk hgs' hk => ?_) fun s' H' pins' I' hp' hf hlk => ?_)
    · obtain ⟨k, rfl, hk2⟩ := hY _ _ _ _ _ yd
      obtain rfl : v = Value.bool k := rv
      refine wpAny_bind (wpAny_holding (wpAny_truthy_bool ?_))
      refine wpAny_bind (wpAny_letGo ?_)
      cases k with
      | false =>
        simp only [Bool.false_eq_true, if_false] at hk2 ⊢
        exact wpAny_pure ⟨plainId_quiet F.plain_any_loop _, ih i' m' s' gs' H' pins' st' hp' hk2 hgs' hk⟩
      | true =>
        simp only [if_true] at hk2 ⊢
        exact wpAny_bind (wpAny_rule (wpAny_pure (hT s' H' pins' st'.inv hp' hk2)))
    · exact wpAny_bind (wpAny_rule (wpAny_pure (hF s' H' pins' I' hp' hf)))
/-- what sum's own list tells -/
def valP : List (Addr × Obj) → Int
  | [(_, ⟨_, _, .seq a _, _⟩)] => match a[0]? with
    | some (Value.int v _) => v
    | _ => 0
  | _ => 0
abbrev sumObj (v : Int) (t : Tok) (c : Nat) : Obj := { cls := .type "list", dict := none, data := .seq #[.int v t] c, slots := #[] }
end
end SP

namespace SP
open PySem PySem.Spec PyProof.Rows L2 SeqAt LamX GenW
/-- what a generator expression's scope must have -/
structure GScp (N : List Str) (sc scope : Scope) (own : List (Str × Nat)) : Prop where
  ok : BlkOk N sc scope own
  co : scope.isCoroutine = false
  cell : ∀ y ∈ scope.names, y.2 ≠ .cell
  dot : scope.names.lookup (".0" : Str) = some NameKind.local
def gscpB (N : List Str) (sc scope : Scope) (own : List (Str × Nat)) : Bool := blkC N sc scope own && !scope.isCoroutine && (scope.names.all fun y => !decide (y.2 = .cell)) && decide (scope.names.lookup (".0" : Str) = some NameKind.local)
theorem gscp_by {N : List Str} {sc scope : Scope} {own : List (Str × Nat)} (h : gscpB N sc scope own = true) : GScp N sc scope own := by
  unfold gscpB at h
  simp only [Bool.and_eq_true, Bool.not_eq_true', decide_eq_true_eq, List.all_eq_true, decide_eq_false_iff_not] at h
  obtain ⟨⟨⟨h1, h2⟩, h3⟩, h4⟩ := h
  exact ⟨blkOk_by h1, h2, fun y hy => h3 y hy, h4⟩
/-- the code objects' table of the running def -/
structure CTab (X : Cx) (T : List NdefX.NTab) (pos : Pos) (name : Str) : Prop where
  at_ : ∃ c P nm, TabB X.base X.mg c P ∧ X.env.code = .ref c ∧ (P, nm) ∈ T ∧ nm pos.line pos.col = X.env.qual ++ name ∧ ∀ p ∈ T, p.1 = P → p.2 = nm
section
variable {X : Cx} {pins : List (Addr × Obj)} {σ : L2.St} {H : Hp} {s : Shared}
/-- the generator's code object -/
theorem gen_code {T : List NdefX.NTab} {scope : Scope} {pos : Pos} {E : Value → Shared → Prop} {Q : Value → Shared → Prop} (I : Inv X pins σ H s) (C : CTab X T pos "<genexpr>") (hT : NdefX.TabsN T H)
    (h : ∀ (cv : Value) (H1 : Hp) (s' : Shared), Inv X pins σ H1 s' → ExtN H H1 → (∀ b, H1 b = Option.none → H b = Option.none) → NdefX.TabsN T H1 → (∀ b o, H b = Option.none → s.heap.get? b = some o → s'.heap.get? b = some o ∧ H1 b = Option.none) → Q cv s') :
    wpAny (model X.prog X.w) X.A (genexprCode X.env pos (X.env.qual ++ "<genexpr>") scope) Q E s := by
  obtain ⟨c, P, nm, TB, hcode, hm, hn, hu⟩ := C.at_
  obtain ⟨ps, hP, ht, ha⟩ := (show NdefX.TabN H P nm from hT _ hm)
  have hP' : s.heap.get? P = some { cls := .none, data := .fields ps } := I.hok P _ hP
  have hcd : PySem.W.CodeHd s.heap c P := TB.code.keeps I.bk
  cases hf : codeAmong pos ps.toList with
  | none =>
    refine wpAny_genexprCodeX hcode (hcd.code hP' ht) (hcd.tab hP') hf fun c' h' tk hx hge hlt hco' hrec htb _ => ?_
    obtain ⟨c2, oc, vs, t, e2, hoc, hd, hv⟩ := hrec
    cases e2
    have nC : H c' = none := I.hok.fresh hge
    have I1 := inv_table (t' := tk) (more := #[rawInt pos.line, rawInt pos.col, .ref c']) (h' := h') I hP (fun b o hb e => hx b o hb e) htb.2 hge ⟨oc, vs, t, hoc, hd, hv⟩
    have hE : ExtN H (upd (upd H P (.tbl (ps ++ #[rawInt pos.line, rawInt pos.col, .ref c']))) c' (CodeO c' (X.env.qual ++ "<genexpr>"))) := fun b o e n => by
      rw [upd_ne (ne_of_none e nC), upd_ne (fun z => n ps (Option.some.inj (e.symm.trans (by rw [z]; exact hP))))]
      exact e
    have eL : (ps ++ #[rawInt pos.line, rawInt pos.col, .ref c']).toList = ps.toList ++ [rawInt pos.line, rawInt pos.col, .ref c'] := by simp
    have T1 : NdefX.TabsN T (upd (upd H P (.tbl (ps ++ #[rawInt pos.line, rawInt pos.col, .ref c']))) c' (CodeO c' (X.env.qual ++ "<genexpr>"))) := fun p hp => by
      by_cases hb : p.1 = P
      · rw [hu p hp hb, hb]
        refine ⟨_, by rw [upd_ne (ne_of_none hP nC), upd_same], by rw [eL]; exact PySem.TriplesOk_snoc _ _ _ _ ht, fun p' cv hcv => ?_⟩
        rw [eL] at hcv
        rcases NdefX.among_app2 _ ht hcv with z | ⟨z, z1, z2⟩
        · obtain ⟨c0, e1, e2⟩ := ha p' cv z
          exact ⟨c0, e1, hE _ _ e2 codeO_ne⟩
        · refine ⟨c', z, ?_⟩
          rw [← z1, ← z2, hn]
          exact upd_same
      · obtain ⟨ps', a1, a2, a3⟩ := hT p hp
        refine ⟨ps', by rw [upd_ne (ne_of_none a1 nC), upd_ne hb]; exact a1, a2, fun p' cv hcv => ?_⟩
        obtain ⟨c0, e1, e2⟩ := a3 p' cv hcv
        exact ⟨c0, e1, hE _ _ e2 codeO_ne⟩
    refine h _ _ _ I1 hE (fun b e => NdefX.upd_none (NdefX.upd_none e)) T1 fun b o e e2 => ?_
    have nb : b ≠ P := fun z => by rw [z, hP] at e; cases e
    have nc : b ≠ c' := fun z => by
      rw [z] at e2
      exact absurd (Nat.lt_of_lt_of_le (Heap.lt_size e2) hge) (Nat.lt_irrefl _)
    exact ⟨hx b o nb e2, by rw [upd_ne nc, upd_ne nb]; exact e⟩
  | some cv =>
    refine wpAny_genexprCode_hit hcode (hcd.code hP' ht) hf ?_
    exact h cv H s I (ExtN.refl H) (fun _ e => e) hT fun b o e e2 => ⟨e2, e⟩
/-- the generator is made; nothing of it has run -/
def GMade1 (X : Cx) (pins : List (Addr × Obj)) (σ : L2.St) (elt tg iter : Expr) (ifs : List Expr) (scope : Scope) (pos : Pos) (T : List NdefX.NTab) (R : It → Hp → Prop) (u : Value) (s5 : Shared) : Prop :=
  ∃ (a it : Addr) (fp : List Addr) (tn : Nat → Heap → Prop) (J : It) (H1 H4 : Hp) (s4 : Shared) (code nm1 nm2 : Value) (h' : Heap) (tk : Nat) (m : Str → Option Value), u = .ref a ∧ Inv X pins σ H4 s4 ∧ ExtN H1 H4 ∧ (∀ b, H4 b = Option.none → H1 b = Option.none) ∧ NdefX.TabsN T H4 ∧ R J H1 ∧
    Turn X.prog X.w X.K tg J fp it tn ∧ tn 0 s4.heap ∧ (∀ b ∈ fp, FpOk X pins H4 b ∧ b < s4.heap.objs.size) ∧ h'.Ns s4.heap.objs.size m ∧ h'.objs.size = a ∧ a = s4.heap.objs.size + 1 ∧ (∀ b o, s4.heap.get? b = some o → h'.get? b = some o) ∧
    s5 = { s4 with gens := s4.gens.push (.fresh (.compStart (.GeneratorExp elt [⟨tg, iter, ifs, 0⟩] scope pos) 0 (.ref it) .none (genCenv X scope s4.heap.objs.size code))), toks := tk,
                   heap := h'.push { cls := .type "generator", data := .fields #[.int s4.gens.size 0, nm1, nm2] } }
theorem gen_eval {elt tg iter : Expr} {ifs : List Expr} {scope : Scope} {own : List (Str × Nat)} {pos : Pos} {T : List NdefX.NTab} {wi : TI} {R : It → Hp → Prop} (hd : X.A.depth < recursionLimit) (S : GScp X.N X.env.scope scope own) (C : CTab X T pos "<genexpr>") (hi : PI X tg iter wi) (hs : ∀ v, genFold iter X.env v = pure v)
    (I : Inv X pins σ H s) (h : wi σ H fun J H1 => NdefX.TabsN T H1 ∧ R J H1) :
    wpAny (model X.prog X.w) X.A (eval (.GeneratorExp elt [⟨tg, iter, ifs, 0⟩] scope pos) X.env) (GMade1 X pins σ elt tg iter ifs scope pos T R) X.xe s := by
  have hfree : ∀ y ∈ scope.names, y.2 = .free → ∃ c, X.env.cells.lookup y.1 = some c := fun y hy e => by
    rcases S.ok.free y hy e with k | k
    · exact I.ok.has _ (.inl k)
    · exact I.ok.has _ (.inr k)
  refine wpAny_GeneratorExp_make S.co (closure_ok hfree) S.cell S.dot S.ok.kind hd ?_ hs
  refine thn (hi.run pins s σ H _ I h) fun xv s1 h1 => thn h1 fun itv s2 h2 => ?_
  obtain ⟨it, fp, tn, J, H2, e, I2, T2, st2, f2, hT, q⟩ := h2
  subst e
  refine ⟨I2.nolimit, gen_code I2 C hT fun cv H4 s4 I4 eN nn T4 kp => ?_⟩
  obtain ⟨c, P, nm, TB, _⟩ := C.at_
  obtain ⟨bm, ob, e1, e2, e3, e4, e5, e6, e7, e8⟩ := TB.bm
  refine wpAny_builtinsFor (m := X.mg) (by rw [I4.ok.glob]; exact I4.mod.glob.keeps I4.bk) e1 e2 (I4.bk _ _ e5) e6 e7 e8 ?_
  intro h' hn' hs'
  have hsz : h'.objs.size = s4.heap.objs.size + 1 := by rw [hs'.1, Heap.size_push]
  have fp4 : ∀ b ∈ fp, (∃ o, s2.heap.get? b = some o ∧ s4.heap.get? b = some o) ∧ H4 b = none := fun b hb => by
    obtain ⟨o, e, _⟩ := T2.obj _ _ st2 b hb
    obtain ⟨z1, z2⟩ := kp b o (f2 b hb).1 e
    exact ⟨⟨o, e, z1⟩, z2⟩
  refine ⟨h'.objs.size, it, fp, tn, J, H2, H4, s4, cv, _, _, h', _, _, rfl, I4, eN, nn, T4, q, T2, T2.keep _ _ _ st2 fun b hb o e => (kp b o (f2 b hb).1 e).1, fun b hb => ?_, hn', rfl, hsz, fun b o e => hs'.extBut b o (Nat.ne_of_lt (Heap.lt_size e)) (Heap.get?_push_of_some _ e), rfl⟩
  obtain ⟨⟨o, e, z⟩, n4⟩ := fp4 b hb
  exact ⟨⟨n4, (f2 b hb).2⟩, Heap.lt_size z⟩
end
end SP

namespace SP
open PySem PySem.Spec PyProof.Rows L2 SeqAt LamX GenW
section
variable {X : Cx} {pins : List (Addr × Obj)} {σ : L2.St} {H : Hp} {s : Shared} {elt tg iter : Expr} {ifs : List Expr} {scope : Scope} {own : List (Str × Nat)} {pos : Pos} {T : List NdefX.NTab} {wi : TI} {g : TG} {tt : TT} {te : TE} {Rr : It → Hp → Prop} {A : Around} {u : Value}
/-- a made generator, ready to be asked -/
theorem gen_ready (hN : X.N.Nodup) (S : GScp X.N X.env.scope scope own) (hd : A.handled = none) (hfr : A.frames = some X.stack) (h : GMade1 X pins σ elt tg iter ifs scope pos T Rr u s) :
    ∃ (a it : Addr) (fp : List Addr) (tn : Nat → Heap → Prop) (J : It) (H1 H4 : Hp) (s4 : Shared) (code : Value) (go : Obj) (gn : Nat), u = .ref a ∧ ExtN H1 H4 ∧ (∀ b, H4 b = Option.none → H1 b = Option.none) ∧ NdefX.TabsN T H4 ∧ Rr J H1 ∧ Turn X.prog X.w X.K tg J fp it tn ∧
      GSt (genX X A s4 H4 scope s4.heap.objs.size code fp [(a, go)]) fp tn (wipe σ (own.map (·.2))) [] 0 H4 s ∧ s.gens[gn]? = some (.fresh (.compStart (.GeneratorExp elt [⟨tg, iter, ifs, 0⟩] scope pos) 0 (.ref it) .none (genCenv X scope s4.heap.objs.size code))) ∧
      (∀ h : Heap, h.get? a = some go → h.IsGen a gn) ∧ (∀ v, go.data ≠ .cell v) ∧ a ∉ fp ∧ a < s.heap.objs.size ∧ s4.heap.objs.size < s.heap.objs.size ∧ (∀ b ∈ fp, b < s.heap.objs.size) ∧
      ∀ (s' : Shared) (H' : Hp) (pins' : List (Addr × Obj)), Inv (genX X A s4 H4 scope s4.heap.objs.size code fp [(a, go)]) pins' (wipe σ (own.map (·.2))) H' s' → Inv X pins σ H' s' := by
  obtain ⟨a, it, fp, tn, J, H1, H4, s4, code, nm1, nm2, h', tk, m, rfl, I4, eN, nn, T4, q, T2, st4, f4, hns, hsz, ha, kp, rfl⟩ := h
  have hpush : (h'.push ({ cls := .type "generator", data := .fields #[.int s4.gens.size 0, nm1, nm2] } : Obj)).get? a = some { cls := .type "generator", data := .fields #[.int s4.gens.size 0, nm1, nm2] } := by
    rw [← hsz]
    exact Heap.get?_push_size _ rfl
  have kp2 : ∀ b o, s4.heap.get? b = some o → (h'.push ({ cls := .type "generator", data := .fields #[.int s4.gens.size 0, nm1, nm2] } : Obj)).get? b = some o := fun b o e => Heap.get?_push_of_some _ (kp b o e)
  have lt4 : s4.heap.objs.size < a := by rw [ha]; exact Nat.lt_succ_self _
  have nA : H4 a = none := I4.hok.fresh (Nat.le_of_lt lt4)
  have frA : a ∉ frs X.stack := fun z => by
    rcases List.mem_cons.mp (I4.stkSub _ z) with e | e
    · have h1 := I4.lt
      rw [← e] at h1
      exact Nat.lt_asymm h1 lt4
    · exact I4.nofs (Nat.le_of_lt lt4) e
  have I5 := gen_start (A := A) (code := code) (pn := [(a, ({ cls := .type "generator", data := .fields #[.int s4.gens.size 0, nm1, nm2] } : Obj))]) (gens := s4.gens.push (.fresh (.compStart (.GeneratorExp elt [⟨tg, iter, ifs, 0⟩] scope pos) 0 (.ref it) .none (genCenv X scope s4.heap.objs.size code))))
    (dr := s4.drawn) (tk := tk) I4 S.ok hN S.cell f4 hd hfr (hns.push _) kp2 (I4.bare.push rfl) fun p hp => by
      rw [List.mem_singleton.mp hp]
      exact ⟨hpush, nA, Nat.ne_of_gt lt4, frA, fun v q => by cases q⟩
  refine ⟨a, it, fp, tn, J, H1, H4, s4, code, _, s4.gens.size, rfl, eN, nn, T4, q, T2, ⟨I5, T2.keep _ _ _ st4 fun b hb o e => kp2 b o e, fun b hb => (f4 b hb).1.1⟩, Array.getElem?_push_size .., fun h e => ⟨_, _, _, e, rfl, rfl, rfl⟩, (fun v q => by cases q), fun hb => ?_, Heap.lt_size hpush, ?_, fun b hb => ?_, fun s' H' pins' I' => ?_⟩
  · exact Nat.lt_asymm lt4 (f4 a hb).2
  · exact Nat.lt_trans lt4 (Heap.lt_size hpush)
  · exact Nat.lt_trans (f4 b hb).2 (Nat.lt_trans lt4 (Heap.lt_size hpush))
  · exact I4.call' (ch := fp) I'.os I'.base I'.hok I'.bare fun b hb => ⟨(f4 b hb).1.2.2.2.1, (f4 b hb).1.2.1, (f4 b hb).1.2.2.2.2.1, (f4 b hb).1.2.2.2.2.2⟩
/-- the reading of any(..), all(..) over a generator expression; b0: how it ends early -/
def tTruG (T : List NdefX.NTab) (b0 : Bool) (wi : TI) (g : TG) (tt : TT) (te : TE) (vs : List Nat) : TE := fun σ H Q => wi σ H fun J H1 => NdefX.TabsN T H1 ∧ ∀ H4, ExtN H1 H4 → (∀ b, H4 b = Option.none → H1 b = Option.none) → NdefX.TabsN T H4 →
  ∃ W : Nat → Nat → Hp → Prop, (∃ m, W 0 m H4) ∧ GTurn J g tt te σ vs W (fun H => Q (.bl (!b0)) H) (fun i m x H => ∃ k, x = .bl k ∧ (if k = b0 then Q (.bl b0) H else W i m H))
def tSumG (T : List NdefX.NTab) (wi : TI) (g : TG) (tt : TT) (te : TE) (vs : List Nat) : TE := fun σ H Q => wi σ H fun J H1 => NdefX.TabsN T H1 ∧ ∀ H4, ExtN H1 H4 → (∀ b, H4 b = Option.none → H1 b = Option.none) → NdefX.TabsN T H4 →
  ∃ W : Int → Nat → Nat → Hp → Prop, (∃ m, W 0 0 m H4) ∧ ∀ v, GTurn J g tt te σ vs (W v) (fun H => Q (.int v) H) (fun i m x H => ∃ k, x = .int k ∧ W (v + k) i m H)
theorem gen_depth {k : Nat} (r : Room k X.A) : X.A.depth < recursionLimit := by have := r.dp; omega
theorem pe_anyG {p cpos : Pos} {k : Nat} (hc : X.calm = true) (hr : Room (k + 1) X.A) (hg' : Gl X "any") (hm' : X.mg "any" = none) (hN : X.N.Nodup) (S : GScp X.N X.env.scope scope own) (C : CTab X T pos "<genexpr>") (hi : PI X tg iter wi)
    (hg : ∀ (A : Around) (s : Shared) (H : Hp) (Cc : Addr) (code : Value) (fp : List Addr) (pn : List (Addr × Obj)), Room k (genX X A s H scope Cc code fp pn).A → PG (genX X A s H scope Cc code fp pn) tg g)
    (ht : ∀ (A : Around) (s : Shared) (H : Hp) (Cc : Addr) (code : Value) (fp : List Addr) (pn : List (Addr × Obj)), Room k (genX X A s H scope Cc code fp pn).A → PTs (genX X A s H scope Cc code fp pn) ifs tt)
    (he : ∀ (A : Around) (s : Shared) (H : Hp) (Cc : Addr) (code : Value) (fp : List Addr) (pn : List (Addr × Obj)), Room k (genX X A s H scope Cc code fp pn).A → PE (genX X A s H scope Cc code fp pn) elt te)
    (hs : ∀ v, genFold iter X.env v = pure v := by intro _; rfl)
    (hst : starEach [.GeneratorExp elt [⟨tg, iter, ifs, 0⟩] scope pos] X.env = (false, eval (.GeneratorExp elt [⟨tg, iter, ifs, 0⟩] scope pos) X.env) :: starEach [] X.env := by rfl) :
    PE X (.Call (.Name "any" p) [.GeneratorExp elt [⟨tg, iter, ifs, 0⟩] scope pos] [] cpos) (tTruG T true wi g tt te (own.map (·.2))) := by
  refine ⟨fun pins s σ H Q I h => ?_⟩
  have hh := I.ok.hd hc
  refine wpAny_Call_Name_kw (ld_blt I hg' hm' (u := .builtin "any") (by first | rfl | decide +kernel) ?_)
  refine PyProof.Rows.callWith_builtin1 ?_ hst (by rfl)
  rw [hst]
  show wpAny _ _ (spliced ((false, eval (.GeneratorExp elt [⟨tg, iter, ifs, 0⟩] scope pos) X.env) :: backTo cpos (starEach [] X.env))) _ _ s
  refine Calls.spliced_cons (wpAny_mono (gen_eval (gen_depth hr) S C hi hs I h) (fun u s5 hG => ?_) fun _ _ e => e)
  have hfr : X.A.in1.in1.frames = some X.stack := I.ok.frames
  obtain ⟨a, it, fp, tn, J, H1, H4, s4, code, go, gn, rfl, eN, nn, T4, q, T2, st, hgs, hig, hgd, haf, haz, _, _, back⟩ := gen_ready (A := X.A.in1.in1) hN S hh hfr hG
  obtain ⟨W, ⟨m, w0⟩, turn⟩ := q H4 eN nn T4
  refine Calls.spliced_nil ?_
  refine call_function_tree F.kind_any F.plain_any F.entry_any (F.args_any1 _) ?_
  unfold Builtin.«any»
  refine wpAny_bind (m := oneArg "any" _) (wpAny_pure ?_)
  have pa : s5.heap.get? a = some go := (st.inv.pin (a, go) (List.mem_append_left _ (List.mem_singleton.mpr rfl))).1
  refine wpAny_bind (wpAny_pyIter_gen (hig _ pa) ?_)
  have hroom : Room k (genX X X.A.in1.in1 s4 H4 scope s4.heap.objs.size code fp [(a, go)]).A := ⟨hh, by have := hr.dp; show X.A.depth + 1 + 3 * k + 5 < _; omega, by have := hr.un; show X.A.units + 1 + 1 + 3 + 16 * k + 200 < _; omega⟩
  refine wpAny_pure ⟨plainId_quiet F.plain_any_loop _, ?_⟩
  refine any_gen (X := genX X X.A.in1.in1 s4 H4 scope s4.heap.objs.size code fp [(a, go)]) (W := fun _ => W) (Fin := fun _ H => Q (.bl false) H) (Yd := fun _ i m x H => ∃ k, x = .bl k ∧ (if k = true then Q (.bl true) H else W i m H)) (Pp := fun pins => pins = []) (Tr := fun H => Q (.bl true) H)
    hh (gen_depth hr) (List.mem_singleton.mpr rfl) hig (fun s H pins I' _ f => ⟨.bl false, H, back _ _ _ I', rfl, f⟩) (fun s H pins I' _ f => ⟨.bl true, H, back _ _ _ I', rfl, f⟩) (fun pins i m x H h => h) m 0 m s5 _ H4 [] st rfl w0 hgs
    (gen_fresh (X := genX X X.A.in1.in1 s4 H4 scope s4.heap.objs.size code fp [(a, go)]) rfl S.co rfl rfl T2 (fun _ _ => turn) (hg _ _ _ _ _ _ _ hroom) (ht _ _ _ _ _ _ _ hroom) (he _ _ _ _ _ _ _ hroom) (fun _ _ h => h) (fun b hb => hb) (fun pins hp b hb p hpm => ?_) m m (Nat.le_refl _))
  subst hp
  have hpm : p ∈ [(a, go)] ++ [] := hpm
  rw [List.append_nil] at hpm
  rw [List.mem_singleton.mp hpm]
  exact fun z => haf (by rw [show a = b from z]; exact hb)
end
end SP

namespace SP
open PySem PySem.Spec PyProof.Rows L2 SeqAt LamX GenW
section
variable {X : Cx} {pins : List (Addr × Obj)} {σ : L2.St} {H : Hp} {s : Shared} {elt tg iter : Expr} {ifs : List Expr} {scope : Scope} {own : List (Str × Nat)} {pos : Pos} {T : List NdefX.NTab} {wi : TI} {g : TG} {tt : TT} {te : TE} {Rr : It → Hp → Prop} {A : Around} {u : Value}
end
end SP

namespace SP
open PySem PySem.Spec PyProof.Rows L2 SeqAt LamX GenW
/-- only tables have grown -/
theorem extN_fut {ν : Nu} {H H' : Hp} (e : ExtN H H') (n : ∀ b, H' b = Option.none → H b = Option.none)   : Fut ν H ν H' :=
  ⟨⟨fun a o h _ t _ => e a o h t, fun a kvs h _ => h.elim (fun h => .inl (e _ _ h nofun)) fun ⟨o, h⟩ => .inr ⟨o, e _ _ h nofun⟩, n, fun _ b _ h => ⟨b, h⟩, fun _ h _ => h⟩, rfl, fun a m o h t => e a o h t⟩
section
variable {K : PySem.W.Frag} {L : Lx} {ν : Nu} {q : Store} {H H' : Hp}
theorem SimQ.extN (s : SimQ K L ν q H) (e : ExtN H H') (n : ∀ b, H' b = Option.none → H b = Option.none) (t : NdefX.TabsN L.tabs H') : SimQ K L ν q H' where
  len := s.len
  cells := fun i c h => by
    obtain ⟨a, o, h1, h2, h3⟩ := s.cells i c h
    refine ⟨a, o, h1, e _ _ h2 ?_, h3.fut (extN_fut e n)⟩
    intro ps z
    subst z
    cases h3
  dead := s.dead
  inj := s.inj
  tabs := t
  hidOk := fun a m => ⟨fun z => (s.hidOk a m).1 (n a z), (s.hidOk a m).2⟩
end
/-! ### any, all, sum over a generator expression -/
def truG (b0 : Bool) (g : Tg) (tt : St') (te : Sm) (ρ : TEnv) : List T → Store → R T
  | [], q => .ok (.bl (!b0)) q
  | t :: ts, q => match g t ρ q with
    | none => .stuck
    | some (ρ1, q1) => match tt ρ1 q1 with
      | .ok b q2 => if b = true then (match te ρ1 q2 with
          | .ok (.bl k) q3 => if k = b0 then .ok (.bl b0) q3 else truG b0 g tt te ρ ts q3
          | _ => .stuck) else truG b0 g tt te ρ ts q2
      | _ => .stuck
def sumG (g : Tg) (tt : St') (te : Sm) (ρ : TEnv) : List T → Store → Int → R T
  | [], q, a => .ok (.int a) q
  | t :: ts, q, a => match g t ρ q with
    | none => .stuck
    | some (ρ1, q1) => match tt ρ1 q1 with
      | .ok b q2 => if b = true then (match te ρ1 q2 with
          | .ok (.int k) q3 => sumG g tt te ρ ts q3 (a + k)
          | _ => .stuck) else sumG g tt te ρ ts q2 a
      | _ => .stuck
def sTruG (b0 : Bool) (fi : Si) (g : Tg) (tt : St') (te : Sm) (vs : List Nat) : Sm := fun ρ q => (fi ρ q).bind fun ts q1 => truG b0 g tt te (wipeT ρ vs) ts q1
def sSumG (fi : Si) (g : Tg) (tt : St') (te : Sm) (vs : List Nat) : Sm := fun ρ q => (fi ρ q).bind fun ts q1 => sumG g tt te (wipeT ρ vs) ts q1 0
/-- what the turns of a generator expression keep -/
def GxAt (K : PySem.W.Frag) (L : Lx) (W : WX) (σ : L2.St) (Q : VK) (ν1 : Nu) (H1 : Hp) (vs : List Nat) (ρ : TEnv) (H : Hp) (post : Store → R T) : Prop :=
  ∃ (ν : Nu) (q : Store), Fut ν1 H1 ν H ∧ SimQ K L ν q H ∧ EnvOk K L ν H ρ (wipe σ vs) ∧ PostE K L W σ ν H (post q) Q
section
variable {L : Lx} {X : Cx} {fi : Si} {g : Tg} {tt : St'} {te : Sm}
theorem truG_rd {K : PySem.W.Frag} {W : WX} {σ : L2.St} {H : Hp} {Q : VK} {b0 : Bool} {vs : List Nat} (p : rdE K L W (sTruG b0 fi g tt te vs) σ H Q) :
    tTruG L.tabs b0 (rdI K L W fi) (rdGw K L vs g) (rdT K L (fun _ _ _ _ => False) tt) (rdE K L (fun _ _ _ _ => False) te) vs σ H Q := by
  obtain ⟨ν, ρ, q, s, en, p⟩ := p
  unfold sTruG at p
  refine ⟨ν, ρ, q, s, en, ?_⟩
  cases e : fi ρ q with
  | exc c fs q' => rw [e] at p; exact p
  | stuck => rw [e] at p; exact p
  | ok ts q' =>
    rw [e, bind_ok] at p
    intro ν1 H1 f1 s1 J Y
    refine ⟨s1.tabs, fun H4 eN nn T4 => ?_⟩
    have f14 := extN_fut (ν := ν1) eN nn
    have s4 := s1.extN eN nn T4
    have p := PostE.fut (f1.trans f14) p
    have en1 := ((en.fut f1).fut f14).wipe vs
    refine ⟨fun i m H => m = ts.length - i ∧ i ≤ ts.length ∧ GxAt K L W σ Q ν1 H4 vs (wipeT ρ vs) H fun q => truG b0 g tt te (wipeT ρ vs) (ts.drop i) q,
      ⟨ts.length, by simp, Nat.zero_le _, ν1, q', Fut.refl _ _, s4, en1, p⟩, ?_⟩
    rintro i m H2 ⟨rfl, hi, ν2, q2, f2, s2, en2, p2⟩
    obtain ⟨y1, y2⟩ := Y i ν2 H2 q2 (f14.trans f2).toTr s2
    by_cases hl : i < ts.length
    · have et : ts[i]? = some ts[i] := List.getElem?_eq_getElem hl
      obtain ⟨go, yl⟩ := y2 _ et
      refine .inr ⟨go, fun x H3 hy => ?_⟩
      obtain ⟨n3, r3⟩ := yl x H3 hy
      have p2 : PostE K L W σ ν2 H2 (truG b0 g tt te (wipeT ρ vs) (ts.drop i) q2) Q := p2
      rw [List.drop_eq_getElem_cons hl] at p2
      unfold truG at p2
      have f3 := n3.fut ν2
      refine ⟨_, wipeT ρ vs, q2, ts[i], s2.new n3, en2.fut f3, r3, ?_⟩
      cases eg : g ts[i] (wipeT ρ vs) q2 with
      | none => rw [eg] at p2; exact p2
      | some z =>
        rw [eg] at p2
        intro σ4 eq4 en4 ew4
        refine ⟨by rw [ew4]; exact wipe_sub vs fun _ m => m, _, z.1, z.2, by rw [eq4]; exact s2.new n3, en4, ?_⟩
        simp only at p2
        cases ett : tt z.1 z.2 with
        | exc c fs q' => simp only [ett] at p2; exact p2.elim
        | stuck => simp only [ett] at p2; exact p2.elim
        | ok b q4 =>
          simp only [ett] at p2
          intro ν5 H5 f5 s5
          have f35 := f3.trans f5
          cases b with
          | false =>
            exact ⟨_, by omega, rfl, hl, ν5, q4, f2.trans f35, s5, en2.fut f35, PostE.fut f35 p2⟩
          | true =>
            show rdE K L (fun _ _ _ _ => False) te σ4 H5 _
            simp only [if_true] at p2
            refine ⟨ν5, z.1, q4, s5, en4.fut f5, ?_⟩
            cases ete : te z.1 q4 with
            | exc c fs q' => simp only [ete] at p2; exact p2.elim
            | stuck => simp only [ete] at p2; exact p2.elim
            | ok y q6 =>
              simp only [ete] at p2
              intro ν6 H6 v f6 s6 r6
              have f36 := f35.trans f6
              cases y with
              | bl k =>
                cases r6
                refine ⟨ts.length - (i + 1), by omega, k, rfl, ?_⟩
                simp only at p2
                by_cases hk : k = b0
                · subst hk
                  rw [if_pos rfl] at p2 ⊢
                  exact p2 ν6 H6 _ f36 s6 (.bl _)
                · rw [if_neg hk] at p2 ⊢
                  exact ⟨rfl, hl, ν6, q6, f2.trans f36, s6, en2.fut f36, PostE.fut f36 p2⟩
              | _ => exact p2.elim
    · refine .inl ⟨y1 (by omega), ?_⟩
      have p2 : PostE K L W σ ν2 H2 (truG b0 g tt te (wipeT ρ vs) (ts.drop i) q2) Q := p2
      rw [List.drop_eq_nil_of_le (by omega)] at p2
      exact p2 ν2 H2 _ (Fut.refl _ _) s2 (.bl _)
variable {elt tg iter : Expr} {ifs : List Expr} {scope : Scope} {own : List (Str × Nat)} {pos p cpos : Pos} {k : Nat}
theorem se_anyG (hc : X.calm = true) (hr : Room (k + 1) X.A) (hg' : Gl X "any") (hm' : X.mg "any" = none) (hN : X.N.Nodup) (S : GScp X.N X.env.scope scope own) (C : CTab X L.tabs pos "<genexpr>") (hi : SI L X tg iter fi)
    (hg : ∀ (A : Around) (s : Shared) (H : Hp) (Cc : Addr) (code : Value) (fp : List Addr) (pn : List (Addr × Obj)), Room k (genX X A s H scope Cc code fp pn).A → SGw L (genX X A s H scope Cc code fp pn) (own.map (·.2)) tg g)
    (ht : ∀ (A : Around) (s : Shared) (H : Hp) (Cc : Addr) (code : Value) (fp : List Addr) (pn : List (Addr × Obj)), Room k (genX X A s H scope Cc code fp pn).A → STs L (genX X A s H scope Cc code fp pn) ifs tt)
    (he : ∀ (A : Around) (s : Shared) (H : Hp) (Cc : Addr) (code : Value) (fp : List Addr) (pn : List (Addr × Obj)), Room k (genX X A s H scope Cc code fp pn).A → SE L (genX X A s H scope Cc code fp pn) elt te)
    (hs : ∀ v, genFold iter X.env v = pure v := by intro _; rfl)
    (hst : starEach [.GeneratorExp elt [⟨tg, iter, ifs, 0⟩] scope pos] X.env = (false, eval (.GeneratorExp elt [⟨tg, iter, ifs, 0⟩] scope pos) X.env) :: starEach [] X.env := by rfl) :
    SE L X (.Call (.Name "any" p) [.GeneratorExp elt [⟨tg, iter, ifs, 0⟩] scope pos] [] cpos) (sTruG true fi g tt te (own.map (·.2))) :=
  ⟨fun W tk => PE.imp (pe_anyG hc hr hg' hm' hN S C (hi.pi W tk) (fun A s H Cc code fp pn r => (hg A s H Cc code fp pn r).pg) (fun A s H Cc code fp pn r => (ht A s H Cc code fp pn r).pt _ L2.takes0) (fun A s H Cc code fp pn r => (he A s H Cc code fp pn r).pe _ L2.takes0) hs hst) fun σ H Q p => truG_rd p⟩
end
end SP

namespace SP
open PySem PySem.Spec PyProof.Rows L2 SeqAt
/-! ### closing: what is new is told whole, or forgotten -/
mutual
/-- no object from n on is named -/
def clB (n : Nat) : T → Bool
  | .non => true
  | .bl _ => true
  | .int _ => true
  | .str _ => true
  | .tup ts => clsB n ts
  | .lst ts => clsB n ts
  | .fz ts => clsB n ts
  | .dct kvs => clkB n kvs
  | .dcu kvs => clkB n kvs
  | .ins _ fs => clfB n fs
  | .obj k => decide (k < n)
def clsB (n : Nat) : List T → Bool
  | [] => true
  | t :: ts => clB n t && clsB n ts
def clkB (n : Nat) : List (T × T) → Bool
  | [] => true
  | (_, t) :: ts => clB n t && clkB n ts
def clfB (n : Nat) : List (Str × T) → Bool
  | [] => true
  | (_, t) :: ts => clB n t && clfB n ts
end
mutual
/-- the same tree, the objects from n on told whole (f turns deep at most) -/
def clo (q : Store) (n : Nat) : Nat → T → Option T
  | _, .non => some .non
  | _, .bl b => some (.bl b)
  | _, .int i => some (.int i)
  | _, .str s => some (.str s)
  | f, .tup ts => match cloS q n f ts with
    | some us => some (.tup us)
    | none => none
  | f, .lst ts => match cloS q n f ts with
    | some us => some (.lst us)
    | none => none
  | f, .fz ts => match cloS q n f ts with
    | some us => some (.fz us)
    | none => none
  | f, .dct ts => match cloK q n f ts with
    | some us => some (.dct us)
    | none => none
  | f, .dcu ts => match cloK q n f ts with
    | some us => some (.dcu us)
    | none => none
  | f, .ins c ts => match cloF q n f ts with
    | some us => some (.ins c us)
    | none => none
  | 0, .obj k => if k < n then some (.obj k) else none
  | f + 1, .obj k => if k < n then some (.obj k) else match q[k]? with
    | some (some c) => match c with
      | .lst ts => match cloS q n f ts with
        | some us => some (.lst us)
        | none => none
      | .dct ts => match cloK q n f ts with
        | some us => some (.dct us)
        | none => none
      | .dcu ts => match cloK q n f ts with
        | some us => some (.dcu us)
        | none => none
      | .ins c ts => match cloF q n f ts with
        | some us => some (.ins c us)
        | none => none
      | _ => none
    | _ => none
termination_by f t => (f, sizeOf t)
def cloS (q : Store) (n : Nat) : Nat → List T → Option (List T)
  | _, [] => some []
  | f, t :: ts => match clo q n f t, cloS q n f ts with
    | some u, some us => some (u :: us)
    | _, _ => none
termination_by f ts => (f, sizeOf ts)
def cloK (q : Store) (n : Nat) : Nat → List (T × T) → Option (List (T × T))
  | _, [] => some []
  | f, (k, t) :: ts => match clo q n f t, cloK q n f ts with
    | some u, some us => some ((k, u) :: us)
    | _, _ => none
termination_by f ts => (f, sizeOf ts)
def cloF (q : Store) (n : Nat) : Nat → List (Str × T) → Option (List (Str × T))
  | _, [] => some []
  | f, (k, t) :: ts => match clo q n f t, cloF q n f ts with
    | some u, some us => some ((k, u) :: us)
    | _, _ => none
termination_by f ts => (f, sizeOf ts)
end
/-- the objects up to n -/
def Nu.cut (ν : Nu) (n : Nat) : Nu := ⟨ν.l.take n, ν.hid⟩
theorem Fz.cut {ν : Nu} {a : Addr} (n : Nat) (h : Fz ν a) : Fz (ν.cut n) a := ⟨fun m => h.1 (List.mem_of_mem_take m), h.2⟩
section
variable {K : PySem.W.Frag} {L : Lx} {ν : Nu} {q : Store} {H : Hp} {n : Nat}
theorem cut_at {k : Nat} (h : k < n) : (ν.cut n).l[k]? = ν.l[k]? := List.getElem?_take_of_lt h
theorem cl_key (n : Nat) : ∀ k : List Key, clB n (.tup (k.map kT)) = true := fun k => by
  unfold clB
  induction k with
  | nil => rfl
  | cons a k ih =>
    rw [List.map_cons]
    unfold clsB
    rw [ih]
    cases a <;> rfl
mutual
theorem Rep.cut : ∀ {t : T} {v : V}, Rep K L ν H t v → clB n t = true → Rep K L (ν.cut n) H t v
  | _, _, .non, _ => .non
  | _, _, .bl b, _ => .bl b
  | _, _, .int b, _ => .int b
  | _, _, .str b, _ => .str b
  | _, _, .tup z h d r, c => .tup (z.cut n) h d (Reps.cut r (by unfold clB at c; exact c))
  | _, _, .tupK h r, c => .tupK h (Reps.cut r (by unfold clB at c; exact c))
  | _, _, .lst z h r, c => .lst (z.cut n) h (Reps.cut r (by unfold clB at c; exact c))
  | _, _, .fz z h r, c => .fz (z.cut n) h (Reps.cut r (by unfold clB at c; exact c))
  | _, _, .fzK h r, c => .fzK h (Reps.cut r (by unfold clB at c; exact c))
  | _, _, .dctK z h r, c => .dctK (z.cut n) h (RepK.cut r (by unfold clB at c; exact c))
  | _, _, .dctT z h d r, c => .dctT (z.cut n) h d (RepT.cut r (by unfold clB at c; exact c))
  | _, _, .ins z h hc r, c => .ins (z.cut n) h hc (RepF.cut r (by unfold clB at c; exact c))
  | _, _, .obj (n := k) h, c => .obj (by rw [cut_at (by unfold clB at c; exact of_decide_eq_true c)]; exact h)
theorem Reps.cut : ∀ {t : List T} {v : List V}, Reps K L ν H t v → clsB n t = true → Reps K L (ν.cut n) H t v
  | _, _, .nil, _ => .nil
  | _, _, .cons h r, c => by
    unfold clsB at c
    rw [Bool.and_eq_true] at c
    exact .cons (Rep.cut h c.1) (Reps.cut r c.2)
theorem RepF.cut : ∀ {t : List (Str × T)} {v : List (Str × V)}, RepF K L ν H t v → clfB n t = true → RepF K L (ν.cut n) H t v
  | _, _, .nil, _ => .nil
  | _, _, .cons h r, c => by
    unfold clfB at c
    rw [Bool.and_eq_true] at c
    exact .cons (Rep.cut h c.1) (RepF.cut r c.2)
theorem RepK.cut : ∀ {t : List (T × T)} {v : List (Key × V)}, RepK K L ν H t v → clkB n t = true → RepK K L (ν.cut n) H t v
  | _, _, .nil, _ => .nil
  | _, _, .cons h r, c => by
    unfold clkB at c
    rw [Bool.and_eq_true] at c
    exact .cons (Rep.cut h c.1) (RepK.cut r c.2)
theorem RepT.cut : ∀ {t : List (T × T)} {v : List (List Key × Addr × Value)}, RepT K L ν H t v → clkB n t = true → RepT K L (ν.cut n) H t v
  | _, _, .nil, _ => .nil
  | _, _, .cons hk h rv r, c => by
    unfold clkB at c
    rw [Bool.and_eq_true] at c
    exact .cons (Rep.cut hk (cl_key n _)) (Rep.cut h c.1) rv (RepT.cut r c.2)
end
mutual
theorem Rep.cl : ∀ {t : T} {v : V}, Rep K L ν H t v → clB ν.l.length t = true
  | _, _, .non => rfl
  | _, _, .bl b => rfl
  | _, _, .int b => rfl
  | _, _, .str b => rfl
  | _, _, .tup z h _ r => by unfold clB; exact Reps.cl r
  | _, _, .tupK h r => by unfold clB; exact Reps.cl r
  | _, _, .lst z h r => by unfold clB; exact Reps.cl r
  | _, _, .fz z h r => by unfold clB; exact Reps.cl r
  | _, _, .fzK h r => by unfold clB; exact Reps.cl r
  | _, _, .dctK z h r => by unfold clB; exact RepK.cl r
  | _, _, .dctT z h _ r => by unfold clB; exact RepT.cl r
  | _, _, .ins z h hc r => by unfold clB; exact RepF.cl r
  | _, _, .obj (n := k) h => by unfold clB; exact decide_eq_true (List.getElem?_eq_some_iff.mp h).1
theorem Reps.cl : ∀ {t : List T} {v : List V}, Reps K L ν H t v → clsB ν.l.length t = true
  | _, _, .nil => rfl
  | _, _, .cons h r => by unfold clsB; rw [Rep.cl h, Reps.cl r] <;> rfl
theorem RepF.cl : ∀ {t : List (Str × T)} {v : List (Str × V)}, RepF K L ν H t v → clfB ν.l.length t = true
  | _, _, .nil => rfl
  | _, _, .cons h r => by unfold clfB; rw [Rep.cl h, RepF.cl r] <;> rfl
theorem RepK.cl : ∀ {t : List (T × T)} {v : List (Key × V)}, RepK K L ν H t v → clkB ν.l.length t = true
  | _, _, .nil => rfl
  | _, _, .cons h r => by unfold clkB; rw [Rep.cl h, RepK.cl r] <;> rfl
theorem RepT.cl : ∀ {t : List (T × T)} {v : List (List Key × Addr × Value)}, RepT K L ν H t v → clkB ν.l.length t = true
  | _, _, .nil => rfl
  | _, _, .cons _ h _ r => by unfold clkB; rw [Rep.cl h, RepT.cl r] <;> rfl
end
theorem CellRep.cl {c : T} {o : HO} (h : CellRep K L ν H c o) : clB ν.l.length c = true := by
  cases h with
  | lst r => unfold clB; exact r.cl
  | dctK r => unfold clB; exact r.cl
  | dctT _ r => unfold clB; exact r.cl
  | ins hc r => unfold clB; exact r.cl
theorem CellRep.cut {c : T} {o : HO} (h : CellRep K L ν H c o) (b : clB n c = true) : CellRep K L (ν.cut n) H c o := by
  cases h with
  | lst r => exact .lst (r.cut (by unfold clB at b; exact b))
  | dctK r => exact .dctK (r.cut (by unfold clB at b; exact b))
  | dctT d r => exact .dctT d (r.cut (by unfold clB at b; exact b))
  | ins hc r => exact .ins hc (r.cut (by unfold clB at b; exact b))
/-- what clo promises at f turns -/
structure CloOk (K : PySem.W.Frag) (L : Lx) (ν : Nu) (q : Store) (H : Hp) (n f : Nat) : Prop where
  t : ∀ {t t' : T} {v : V}, clo q n f t = some t' → Rep K L ν H t v → Rep K L (ν.cut n) H t' v
  s : ∀ {t t' : List T} {v : List V}, cloS q n f t = some t' → Reps K L ν H t v → Reps K L (ν.cut n) H t' v
  k : ∀ {t t' : List (T × T)} {v : List (Key × V)}, cloK q n f t = some t' → RepK K L ν H t v → RepK K L (ν.cut n) H t' v
  u : ∀ {t t' : List (T × T)} {v : List (List Key × Addr × Value)}, cloK q n f t = some t' → RepT K L ν H t v → RepT K L (ν.cut n) H t' v
  f : ∀ {t t' : List (Str × T)} {v : List (Str × V)}, cloF q n f t = some t' → RepF K L ν H t v → RepF K L (ν.cut n) H t' v
/-- the objects, by the turns below -/
def ObjClo (K : PySem.W.Frag) (L : Lx) (ν : Nu) (q : Store) (H : Hp) (n f : Nat) : Prop := ∀ (k : Nat) (b : Bool) (a : Addr) (t' : T), clo q n f (.obj k) = some t' → ν.l[k]? = some (b, a) → Rep K L (ν.cut n) H t' (.ref a)
mutual
theorem clo_t {f : Nat} (O : ObjClo K L ν q H n f) : ∀ {t : T} {v : V}, Rep K L ν H t v → ∀ t', clo q n f t = some t' → Rep K L (ν.cut n) H t' v
  | _, _, .non, t', h => by unfold clo at h; cases h; exact .non
  | _, _, .bl b, t', h => by unfold clo at h; cases h; exact .bl b
  | _, _, .int b, t', h => by unfold clo at h; cases h; exact .int b
  | _, _, .str b, t', h => by unfold clo at h; cases h; exact .str b
  | _, _, .tup z e d r, t', h => by
    unfold clo at h
    split at h
    · rename_i us hu; cases h; exact .tup (z.cut n) e d (clo_s O r us hu)
    · cases h
  | _, _, .tupK e r, t', h => by
    unfold clo at h
    split at h
    · rename_i us hu; cases h; exact .tupK e (clo_s O r us hu)
    · cases h
  | _, _, .lst z e r, t', h => by
    unfold clo at h
    split at h
    · rename_i us hu; cases h; exact .lst (z.cut n) e (clo_s O r us hu)
    · cases h
  | _, _, .fz z e r, t', h => by
    unfold clo at h
    split at h
    · rename_i us hu; cases h; exact .fz (z.cut n) e (clo_s O r us hu)
    · cases h
  | _, _, .fzK e r, t', h => by
    unfold clo at h
    split at h
    · rename_i us hu; cases h; exact .fzK e (clo_s O r us hu)
    · cases h
  | _, _, .dctK z e r, t', h => by
    unfold clo at h
    split at h
    · rename_i us hu; cases h; exact .dctK (z.cut n) e (clo_k O r us hu)
    · cases h
  | _, _, .dctT z e d r, t', h => by
    unfold clo at h
    split at h
    · rename_i us hu; cases h; exact .dctT (z.cut n) e d (clo_u O r us hu)
    · cases h
  | _, _, .ins z e hc r, t', h => by
    unfold clo at h
    split at h
    · rename_i us hu; cases h; exact .ins (z.cut n) e hc (clo_f O r us hu)
    · cases h
  | _, _, .obj e, t', h => O _ _ _ _ h e
theorem clo_s {f : Nat} (O : ObjClo K L ν q H n f) : ∀ {t : List T} {v : List V}, Reps K L ν H t v → ∀ t', cloS q n f t = some t' → Reps K L (ν.cut n) H t' v
  | _, _, .nil, t', h => by unfold cloS at h; cases h; exact .nil
  | _, _, .cons e r, t', h => by
    unfold cloS at h
    split at h
    · rename_i u us h1 h2; cases h; exact .cons (clo_t O e u h1) (clo_s O r us h2)
    · cases h
theorem clo_k {f : Nat} (O : ObjClo K L ν q H n f) : ∀ {t : List (T × T)} {v : List (Key × V)}, RepK K L ν H t v → ∀ t', cloK q n f t = some t' → RepK K L (ν.cut n) H t' v
  | _, _, .nil, t', h => by unfold cloK at h; cases h; exact .nil
  | _, _, .cons e r, t', h => by
    unfold cloK at h
    split at h
    · rename_i u us h1 h2; cases h; exact .cons (clo_t O e u h1) (clo_k O r us h2)
    · cases h
theorem clo_u {f : Nat} (O : ObjClo K L ν q H n f) : ∀ {t : List (T × T)} {v : List (List Key × Addr × Value)}, RepT K L ν H t v → ∀ t', cloK q n f t = some t' → RepT K L (ν.cut n) H t' v
  | _, _, .nil, t', h => by unfold cloK at h; cases h; exact .nil
  | _, _, .cons hk e rv r, t', h => by
    unfold cloK at h
    split at h
    · rename_i u us h1 h2; cases h; exact .cons (Rep.cut hk (cl_key n _)) (clo_t O e u h1) rv (clo_u O r us h2)
    · cases h
theorem clo_f {f : Nat} (O : ObjClo K L ν q H n f) : ∀ {t : List (Str × T)} {v : List (Str × V)}, RepF K L ν H t v → ∀ t', cloF q n f t = some t' → RepF K L (ν.cut n) H t' v
  | _, _, .nil, t', h => by unfold cloF at h; cases h; exact .nil
  | _, _, .cons e r, t', h => by
    unfold cloF at h
    split at h
    · rename_i u us h1 h2; cases h; exact .cons (clo_t O e u h1) (clo_f O r us h2)
    · cases h
end
theorem cut_new (s : SimQ K L ν q H) {k : Nat} {a : Addr} (h : ν.l[k]? = some (true, a)) (hk : ¬ k < n) : Fz (ν.cut n) a := by
  refine ⟨fun m => ?_, fun m => (s.hidOk a m).2 (List.mem_of_getElem? h)⟩
  obtain ⟨i, hi, e⟩ := List.getElem_of_mem m
  have hi2 : i < n := by
    have : i < (ν.l.take n).length := hi
    rw [List.length_take] at this
    omega
  have e1 : (ν.cut n).l[i]? = some (true, a) := by rw [List.getElem?_eq_getElem hi, e]
  rw [cut_at hi2] at e1
  exact hk (by rw [← s.inj i k a e1 h]; exact hi2)
theorem objClo_all (s : SimQ K L ν q H) : ∀ f, ObjClo K L ν q H n f
  | 0 => by
    intro k b a t' h e
    unfold clo at h
    split at h
    · rename_i hk; cases h; exact .obj (by rw [cut_at hk]; exact e)
    · cases h
  | f + 1 => by
    intro k b a t' h e
    have O := objClo_all s f
    unfold clo at h
    split at h
    · rename_i hk; cases h; exact .obj (by rw [cut_at hk]; exact e)
    · rename_i hk
      split at h
      · rename_i c hc
        obtain ⟨a', o, h1, h2, h3⟩ := s.cells k c hc
        rw [e] at h1
        cases h1
        have z := cut_new (n := n) s e hk
        cases h3 with
        | lst r =>
          simp only at h
          split at h
          · rename_i us hu; cases h; exact .lst z h2 (clo_s O r us hu)
          · cases h
        | dctK r =>
          simp only at h
          split at h
          · rename_i us hu; cases h; exact .dctK z (.inl h2) (clo_k O r us hu)
          · cases h
        | dctT d r =>
          simp only at h
          split at h
          · rename_i us hu; cases h; exact .dctT z h2 d (clo_u O r us hu)
          · cases h
        | ins hcl r =>
          simp only at h
          split at h
          · rename_i us hu; cases h; exact .ins z h2 hcl (clo_f O r us hu)
          · cases h
      · cases h
theorem SimQ.cut (s : SimQ K L ν q H) (hn : n ≤ q.length) (hc : ∀ i, i < n → ∀ c, q[i]? = some (some c) → clB n c = true) : SimQ K L (ν.cut n) (q.take n) H where
  len := by show (ν.l.take n).length = _; rw [List.length_take, List.length_take, s.len]
  cells := fun i c e => by
    have hi : i < n := by
      have := (List.getElem?_eq_some_iff.mp e).1
      rw [List.length_take] at this
      omega
    rw [List.getElem?_take_of_lt hi] at e
    obtain ⟨a, o, h1, h2, h3⟩ := s.cells i c e
    exact ⟨a, o, by rw [cut_at hi]; exact h1, h2, h3.cut (hc i hi c e)⟩
  dead := fun i a e => by
    have hi : i < n := by
      have h1 := (List.getElem?_eq_some_iff.mp e).1
      have h2 : i < (ν.l.take n).length := h1
      rw [List.length_take] at h2
      omega
    rw [cut_at hi] at e
    obtain ⟨c, hc⟩ := s.dead i a e
    exact ⟨c, by rw [List.getElem?_take_of_lt hi]; exact hc⟩
  inj := fun i j a e1 e2 => by
    have lt : ∀ {i : Nat} {x : Bool × Addr}, (ν.cut n).l[i]? = some x → i < n := fun {i x} e => by
      have h1 := (List.getElem?_eq_some_iff.mp e).1
      have h2 : i < (ν.l.take n).length := h1
      rw [List.length_take] at h2
      omega
    have h1 := lt e1
    have h2 := lt e2
    rw [cut_at h1] at e1
    rw [cut_at h2] at e2
    exact s.inj i j a e1 e2
  tabs := s.tabs
  hidOk := fun a m => ⟨(s.hidOk a m).1, fun z => (s.hidOk a m).2 (List.mem_of_mem_take z)⟩
theorem Fut.cutTo {ν0 : Nu} {H0 : Hp} (f : Fut ν0 H0 ν H) : Fut ν0 H0 (ν.cut ν0.l.length) H :=
  ⟨⟨f.keep, f.keepD, f.none, fun n b a h => by
    obtain ⟨b', h'⟩ := f.nu n b a h
    exact ⟨b', by rw [cut_at (List.getElem?_eq_some_iff.mp h).1]; exact h'⟩, fun a z h => (f.old a z h).cut _⟩, f.hid, f.keepH⟩
end
/-- the objects that were there, what they hold now -/
def KeptC (q0 q : Store) : Prop := ∀ i, i < q0.length → q[i]? = q0[i]? ∨ ∀ c, q[i]? = some (some c) → clB q0.length c = true
open Classical in
noncomputable def closeR (q0 : Store) (r : R T) : R T := match r with
  | .ok t q => if KeptC q0 q then match clo q q0.length 9 t with
      | some t' => .ok t' (q.take q0.length)
      | none => .stuck
    else .stuck
  | .exc c fs q => if KeptC q0 q then match cloF q q0.length 9 fs with
      | some fs' => .exc c fs' (q.take q0.length)
      | none => .stuck
    else .stuck
  | .stuck => .stuck
section
variable {K : PySem.W.Frag} {L : Lx} {W : WX} {σ : L2.St} {ν : Nu} {q : Store} {H : Hp} {r : R T} {Q : VK}
theorem Fut.len {ν' : Nu} {H' : Hp} (f : Fut ν H ν' H') : ν.l.length ≤ ν'.l.length := by
  by_cases h : ν.l.length = 0
  · omega
  · have e : ν.l[ν.l.length - 1]? = some (ν.l[ν.l.length - 1]'(by omega)) := List.getElem?_eq_getElem _
    obtain ⟨b', h'⟩ := f.nu _ (ν.l[ν.l.length - 1]'(by omega)).1 (ν.l[ν.l.length - 1]'(by omega)).2 e
    have := (List.getElem?_eq_some_iff.mp h').1
    omega
theorem kept_cut (s : SimQ K L ν q H) {ν' : Nu} {q' : Store} {H' : Hp} (f : Fut ν H ν' H') (s' : SimQ K L ν' q' H') (k : KeptC q q') : SimQ K L (ν'.cut ν.l.length) (q'.take ν.l.length) H' := by
  refine s'.cut (by rw [← s'.len]; exact f.len) fun i hi c e => ?_
  rcases k i (by rw [← s.len]; exact hi) with z | z
  · rw [z] at e
    obtain ⟨a, o, h1, h2, h3⟩ := s.cells i c e
    exact h3.cl
  · rw [s.len]; exact z c e
theorem close_post (s : SimQ K L ν q H) (p : PostE K L W σ ν H (closeR q r) Q) : PostE K L W σ ν H r Q := by
  unfold closeR at p
  cases r with
  | stuck => exact p
  | ok t q' =>
    simp only at p
    split at p
    · rename_i k
      split at p
      · rename_i t' hc
        intro ν' H' v f s' rp
        rw [← s.len] at hc p
        exact p (ν'.cut ν.l.length) H' v f.cutTo (kept_cut s f s' k) (clo_t (objClo_all s' 9) rp t' hc)
      · exact p.elim
    · exact p.elim
  | exc c fs q' =>
    simp only at p
    split at p
    · rename_i k
      split at p
      · rename_i fs' hc
        intro ν' H' cls d f s' x
        rw [← s.len] at hc p
        refine p (ν'.cut ν.l.length) H' cls d f.cutTo (kept_cut s f s' k) ?_
        obtain ⟨C, h1, h2, h3⟩ := x
        refine ⟨C, h1, h2, ?_⟩
        rcases h3 with ⟨rfl, hd0⟩ | ⟨dd, fv, h4, h5, h6⟩
        · unfold cloF at hc
          cases hc
          exact .inl ⟨rfl, hd0⟩
        · exact .inr ⟨dd, fv, h4, h5, clo_f (objClo_all s' 9) h6 fs' hc⟩
      · exact p.elim
    · exact p.elim
end
/-- e, what is new in it told whole or forgotten -/
noncomputable def sClose (f : Sm) : Sm := fun ρ q => closeR q (f ρ q)
theorem SE.close {L : Lx} {X : Cx} {e : Expr} {f : Sm} (h : SE L X e f) : SE L X e (sClose f) :=
  ⟨fun W tk => PE.imp (h.pe W tk) fun σ H Q ⟨ν, ρ, q, s, en, p⟩ => ⟨ν, ρ, q, s, en, close_post s p⟩⟩
end SP

namespace SP
open PySem PySem.Spec PyProof.Rows L2 SeqAt
/-! ### defs -/
abbrev FS := List T → Store → R T
/-- a def's promise: of n arguments it makes what F says -/
def spS (K : PySem.W.Frag) (L : Lx) (n : Nat) (F : FS) : Sp := fun vs H Q E => vs.length = n ∧ ∃ ν q ts, SimQ K L ν q H ∧ Reps K L ν H ts vs ∧ PostE K L (fun cls d _ H' => E cls d H') [] ν H (F ts q) Q
def env0 (m : Nat) (ts : List T) : TEnv := ts.map some ++ List.replicate (m - ts.length) none
/-- a body, run -/
def endR (r : RS) : R T := match r with
  | .nx _ q => .ok .non q
  | .ret t q => .ok t q
  | .exc c fs _ q => .exc c fs q
  | _ => .stuck
def runK (m : Nat) (fb : Ss) : FS := fun ts q => endR (fb (env0 m ts) q)
noncomputable def runC (m : Nat) (fb : Ss) : FS := fun ts q => closeR q (endR (fb (env0 m ts) q))
theorem env0_ok {K : PySem.W.Frag} {L : Lx} {ν : Nu} {H : Hp} {N : List Str} {ts : List T} {vs : List V} (r : Reps K L ν H ts vs) : EnvOk K L ν H (env0 N.length ts) (L2.start N vs) := by
  have hl : ts.length = vs.length := r.length
  refine ⟨by unfold env0 L2.start; simp [hl], fun i t h => ?_⟩
  unfold env0 at h
  unfold L2.start
  by_cases hi : i < ts.length
  · rw [List.getElem?_append_left (by simpa using hi), List.getElem?_map] at h
    rw [List.getElem?_append_left (by rw [List.length_map, ← hl]; exact hi), List.getElem?_map]
    cases e : ts[i]? with
    | none => rw [e] at h; cases h
    | some u =>
      rw [e] at h
      cases h
      obtain ⟨v, e1, e2⟩ := r.get _ e
      exact ⟨v, by rw [e1]; rfl, e2⟩
  · rw [List.getElem?_append_right (by simpa using hi), List.getElem?_replicate] at h
    split at h <;> cases h
section
variable {P : Program} {w : World} {K : PySem.W.Frag} {mg : Str → Option Value} {base : Heap} {k : Nat} {f : Addr} {name qual : Str} {params : Arguments} {body : List Stmt} {scope : Scope} {dV kV doc pm cdv ct oc : Value} {an od : Option Addr} {osl : Array (Option Value)} {N ps : List Str} {L : Lx} {fb : Ss}
/-- THE RULE: a def by its body's meaning -/
theorem fnS_of (lk : K.lookup f = some ⟨oc, od, .func (PySem.W.fnOf name qual params body scope dV kV doc pm an cdv ct), osl⟩) (hcd : PySem.W.codeIn K cdv qual = true) (S : FnScope N ps scope)
    (hbody : ∀ (A : Around) (outer : List Env) (s : Shared) (H : Hp) (E : XK), Room k (A.deeper (envOfC qual scope s.heap.objs.size f cdv)) → SSs L (cxOf (CX P w) P w K mg base N qual scope f cdv A outer s H E) body fb) :
    FnOk P w K mg base (CX P w) (k + 1) f (PySem.W.fnOf name qual params body scope dV kV doc pm an cdv ct) ps (spS K L ps.length (runK N.length fb)) := by
  refine fn_of lk hcd S (fun vs H Q E h => h.1) fun A outer s H vs Q E hr ⟨hl, ν, q, ts, sim, r, p⟩ => ?_
  refine ⟨_, (hbody A outer s H E hr).ps (fun cls d _ H' => E cls d H') (takes_of rfl rfl rfl rfl) (passes_of (K := fun e s'' => CX P w outer H s E e s'') rfl), ν, env0 N.length ts, q, sim, env0_ok r, ?_⟩
  show PostS K L _ ν H (fb (env0 N.length ts) q) _
  have p : PostE K L (fun cls d _ H' => E cls d H') [] ν H (endR (fb (env0 N.length ts) q)) Q := p
  cases e : fb (env0 N.length ts) q with
  | nx ρ q' => rw [e] at p; exact fun ν' H' σ' g s' _ => p ν' H' .non g s' .non
  | ret t q' => rw [e] at p; exact p
  | exc c fs ρ q' => rw [e] at p; exact fun ν' H' σ' cls d g s' _ x => p ν' H' cls d g s' x
  | brk ρ q' => rw [e] at p; exact p.elim
  | cnt ρ q' => rw [e] at p; exact p.elim
  | stuck => rw [e] at p; exact p.elim
end
/-! ### calls -/
def sCall (F : FS) (fa : Sa) : Sm := fun ρ q => (fa ρ q).bind fun ts q' => F ts q'
section
variable {L : Lx} {X : Cx} {k n : Nat} {f C : Addr} {fd : FuncData} {ps : List Str} {F : FS} {x m c : Str} {p pos apos : Pos} {e o : Expr} {es : List Expr} {fa : Sa} {fo : Sm}
theorem sp_at {K : PySem.W.Frag} {W : WX} {σ : L2.St} {ν : Nu} {q : Store} {H : Hp} {Q : VK} {ts : List T} {vs : List V} (hn : vs.length = n) (s : SimQ K L ν q H) (r : Reps K L ν H ts vs) (p : PostE K L W σ ν H (F ts q) Q) : spS K L n F vs H Q (WE W σ) := by
  refine ⟨hn, ν, q, ts, s, r, ?_⟩
  cases e : F ts q with
  | ok t q' => rw [e] at p; exact p
  | exc c fs q' => rw [e] at p; exact p
  | stuck => rw [e] at p; exact p
/-- the arguments' number -/
def ArN (fa : Sa) (n : Nat) : Prop := ∀ ρ q ts q', fa ρ q = .ok ts q' → ts.length = n
theorem ar_nil : ArN aNil 0 := fun _ _ _ _ h => by cases h; rfl
theorem ar_cons {g : Sm} (h : ArN fa n) : ArN (aCons g fa) (n + 1) := fun ρ q ts q' e => by
  unfold aCons at e
  cases e1 : g ρ q with
  | ok t q1 =>
    rw [e1, bind_ok] at e
    cases e2 : fa ρ q1 with
    | ok us q2 =>
      rw [e2] at e
      cases e
      simp [h _ _ _ _ e2]
    | exc c fs q2 => rw [e2] at e; cases e
    | stuck => rw [e2] at e; cases e
  | exc c fs q1 => rw [e1] at e; cases e
  | stuck => rw [e1] at e; cases e
theorem call_rd {K : PySem.W.Frag} {W : WX} {σ : L2.St} {H : Hp} {Q : VK} (ar : ArN fa n) (p : rdE K L W (sCall F fa) σ H Q) : tCallS (spS K L n F) (WE W) (rdA K L W fa) σ H Q := by
  obtain ⟨ν, ρ, q, s, en, p⟩ := p
  refine ⟨ν, ρ, q, s, en, ?_⟩
  unfold sCall at p
  cases e : fa ρ q with
  | ok ts q' =>
    rw [e, bind_ok] at p
    intro ν' H' f s' vs r
    exact sp_at (r.length.symm.trans (ar ρ q ts q' e)) s' r (PostE.fut f p)
  | exc c fs q' => rw [e] at p; exact p
  | stuck => rw [e] at p; exact p
theorem se_call (Fn : FnOk X.prog X.w X.K X.mg X.base (CX X.prog X.w) k f fd ps (spS X.K L n F)) (hr : Room k X.A) (hg : Gl X x) (hm : X.mg x = some (.ref f)) (hk : PySem.W.keepIn X.K (.ref f) = true) (hb : Binds X.K fd ps []) (ha : SA L X (e :: es) fa) (ar : ArN fa n)
    (hdb : (x == ("__debug__" : Str)) = false := by decide) (he : starEach (e :: es) X.env = (false, eval e X.env) :: starEach es X.env := by rfl) (hpl : (backTo pos (starEach es X.env)).any (·.1) = false := by rfl) :
    SE L X (.Call (.Name x p) (e :: es) [] pos) (sCall F fa) :=
  ⟨fun W tk => PE.imp (pe_callS Fn hr hg hm hk hb (passAt tk) (ha.pa W tk) hdb he hpl) fun σ H Q q => call_rd ar q⟩
/-- a method of an instance of the class c -/
def sMeth (c m : Str) (F : FS) (fo : Sm) (fa : Sa) : Sm := fun ρ q => (fo ρ q).bind fun t q1 => match insAt q1 t with
  | some (c', fs) => if c' = c ∧ (fs.map (·.1)).contains m = false then (fa ρ q1).bind fun ts q2 => F (t :: ts) q2 else .stuck
  | none => .stuck
theorem ins_rep {K : PySem.W.Frag} {ν : Nu} {q : Store} {H : Hp} (s : SimQ K L ν q H) {t : T} {v : V} {c : Str} {fs : List (Str × T)} (r : Rep K L ν H t v) (h : insAt q t = some (c, fs)) : ∃ a C dx fv, v = .ref a ∧ H a = some (.ins C dx fv) ∧ L.cl c = some C ∧ RepF K L ν H fs fv := by
  cases r with
  | ins n e hc r => cases h; exact ⟨_, _, _, _, rfl, e, hc, r⟩
  | obj e =>
    rename_i j b a
    unfold insAt at h
    simp only at h
    split at h
    · rename_i c' fs' hc
      cases h
      have hq : q[j]? = some (some (.ins c fs)) := by
        unfold cell at hc
        split at hc <;> simp_all
      obtain ⟨a', o, h1, h2, h3⟩ := s.cells j _ hq
      rw [e] at h1
      cases h1
      cases h3 with
      | ins hcl r => exact ⟨_, _, _, _, rfl, h2, hcl, r⟩
    · cases h
  | _ => cases h
theorem repF_none {K : PySem.W.Frag} {ν : Nu} {H : Hp} : ∀ {fs : List (Str × T)} {fv : List (Str × V)} {m : Str}, RepF K L ν H fs fv → (fs.map (·.1)).contains m = false → fv.lookup m = none
  | _, _, _, .nil, _ => rfl
  | _, _, m, .cons (f := f) h r, e => by
    rw [List.map_cons, List.contains_cons, Bool.or_eq_false_iff] at e
    rw [List.lookup_cons, e.1]
    exact repF_none r e.2
theorem se_meth {pl : Sem Bool} (hC : L.cl c = some C) (he' : SE L X o fo) (cl : Cls X.K C) (hm : Meth X.K C m f) (Fn : FnOk X.prog X.w X.K X.mg X.base (CX X.prog X.w) k f fd ps (spS X.K L (n + 1) F)) (hr : Room k X.A) (hb : Binds X.K fd ps []) (ha : SA L X (e :: es) fa) (ar : ArN fa n)
    (hst : starEach (e :: es) X.env = (false, eval e X.env) :: starEach es X.env := by rfl) (hpl : (backTo pos (starEach es X.env)).any (·.1) = false := by rfl)
    (ht : eval (.Call (.Attribute o m apos) (e :: es) [] pos) X.env = (do
      let ov ← eval o X.env
      standAt apos.atName
      let (f, first) ← holding [ov] (getMethod ov m pl)
      callWith pos f first (backTo pos (starEach (e :: es) X.env)) (backToKw pos (keywordEach [] X.env))) := by rfl) :
    SE L X (.Call (.Attribute o m apos) (e :: es) [] pos) (sMeth c m F fo fa) := by
  refine ⟨fun W tk => ⟨fun pins s σ H Q I ⟨ν, ρ, q, sim, en, p⟩ => ?_⟩⟩
  unfold sMeth at p
  rw [postE_iff] at p
  have h : rdE X.K L W fo σ H fun v H1 => ∃ ν1 q1 t, v = v ∧ SimQ X.K L ν1 q1 H1 ∧ EnvOk X.K L ν1 H1 ρ σ ∧ Rep X.K L ν1 H1 t v ∧ PostR X.K L W σ ν1 H1 (match insAt q1 t with
      | some (c', fs) => if c' = c ∧ (fs.map (·.1)).contains m = false then (fa ρ q1).bind fun ts q2 => F (t :: ts) q2 else .stuck
      | none => .stuck) fun t ν' H' => ∀ v, Rep X.K L ν' H' t v → Q v H' :=
    rdE_of sim en p fun t v q' ν' H' f s' en' r p' => ⟨ν', q', t, rfl, s', en', r, p'⟩
  refine PySem.W.methodCall_KW (pl := pl) (thn ((he'.pe W tk).run pins s σ H _ I h) fun u s1 ⟨x, H1, I1, rx, ν1, q1, t, _, sim1, en1, rt, p1⟩ => ?_) ht
  cases hi : insAt q1 t with
  | none => rw [hi] at p1; exact p1.elim
  | some cf =>
    obtain ⟨c', fs⟩ := cf
    rw [hi] at p1
    simp only at p1
    split at p1
    case isFalse => exact p1.elim
    rename_i hcm
    obtain ⟨rfl, hnm⟩ := hcm
    obtain ⟨a, C', dx, fv, rfl, ha', hcl, rf⟩ := ins_rep sim1 rt hi
    rw [hC] at hcl
    cases hcl
    obtain rfl : u = Value.ref a := rx
    refine getmeth_ok I1 ha' cl hm (repF_none rf hnm) ?_
    have h2 : rdA X.K L W fa σ H1 fun vs H2 => ∃ ν2 q2 ts, SimQ X.K L ν2 q2 H2 ∧ Rep X.K L ν2 H2 t (.ref a) ∧ Reps X.K L ν2 H2 ts vs ∧ ts.length = n ∧ PostE X.K L W σ ν2 H2 (F (t :: ts) q2) Q := by
      refine ⟨ν1, ρ, q1, sim1, en1, ?_⟩
      cases e1 : fa ρ q1 with
      | ok ts q2 =>
        rw [e1, bind_ok] at p1
        intro ν2 H2 f2 s2 vs rs
        exact ⟨ν2, q2, ts, s2, rt.fut f2, rs, ar _ _ _ _ e1, postE_iff.mpr (PostR.fut f2 p1)⟩
      | exc c fs q2 => rw [e1] at p1; exact p1
      | stuck => rw [e1] at p1; exact p1
    refine PySem.W.callWith_K (h₀ := X.base) I1.ok.mod.kin hm.kp (thn ((ha.pa W tk).run pos pins s1 σ H1 _ I1 h2) fun us s2 ⟨vs, H2, I2, r2, ν2, q2, ts, sim2, rt2, rs2, hl, p2⟩ => ⟨I2.kIn, ?_⟩) hst hpl
    exact run_fnS (us := .ref a :: us) (vs := .ref a :: vs) Fn hr hb (passAt tk σ) I2 (.cons rfl r2) (sp_at (by rw [List.length_cons, ← rs2.length, hl]) sim2 (.cons rt2 rs2) p2)
theorem se_meth0 {pl : Sem Bool} (hC : L.cl c = some C) (he' : SE L X o fo) (cl : Cls X.K C) (hm : Meth X.K C m f) (Fn : FnOk X.prog X.w X.K X.mg X.base (CX X.prog X.w) k f fd ps (spS X.K L 1 F)) (hr : Room k X.A) (hb : Binds X.K fd ps [])
    (ht : eval (.Call (.Attribute o m apos) [] [] pos) X.env = (do
      let ov ← eval o X.env
      standAt apos.atName
      let (f, first) ← holding [ov] (getMethod ov m pl)
      callWith pos f first (backTo pos (starEach [] X.env)) (backToKw pos (keywordEach [] X.env))) := by rfl) :
    SE L X (.Call (.Attribute o m apos) [] [] pos) (sMeth c m F fo aNil) := by
  refine ⟨fun W tk => ⟨fun pins s σ H Q I ⟨ν, ρ, q, sim, en, p⟩ => ?_⟩⟩
  unfold sMeth at p
  rw [postE_iff] at p
  have h : rdE X.K L W fo σ H fun v H1 => ∃ ν1 q1 t, v = v ∧ SimQ X.K L ν1 q1 H1 ∧ EnvOk X.K L ν1 H1 ρ σ ∧ Rep X.K L ν1 H1 t v ∧ PostR X.K L W σ ν1 H1 (match insAt q1 t with
      | some (c', fs) => if c' = c ∧ (fs.map (·.1)).contains m = false then (aNil ρ q1).bind fun ts q2 => F (t :: ts) q2 else .stuck
      | none => .stuck) fun t ν' H' => ∀ v, Rep X.K L ν' H' t v → Q v H' :=
    rdE_of sim en p fun t v q' ν' H' f s' en' r p' => ⟨ν', q', t, rfl, s', en', r, p'⟩
  refine PySem.W.methodCall_KW (pl := pl) (thn ((he'.pe W tk).run pins s σ H _ I h) fun u s1 ⟨x, H1, I1, rx, ν1, q1, t, _, sim1, en1, rt, p1⟩ => ?_) ht
  cases hi : insAt q1 t with
  | none => rw [hi] at p1; exact p1.elim
  | some cf =>
    obtain ⟨c', fs⟩ := cf
    rw [hi] at p1
    simp only at p1
    split at p1
    case isFalse => exact p1.elim
    rename_i hcm
    obtain ⟨rfl, hnm⟩ := hcm
    obtain ⟨a, C', dx, fv, rfl, ha', hcl, rf⟩ := ins_rep sim1 rt hi
    rw [hC] at hcl
    cases hcl
    obtain rfl : u = Value.ref a := rx
    refine getmeth_ok I1 ha' cl hm (repF_none rf hnm) ?_
    exact PySem.W.callWith_K0 (first := [.ref a]) I1.kIn hm.kp (run_fnS (us := [.ref a]) (vs := [.ref a]) Fn hr hb (passAt tk σ) I1 (.cons rfl .nil) (sp_at rfl sim1 (.cons rt .nil) (postE_iff.mpr p1)))
/-! ### instances made -/
/-- C(..): a new instance, mutable; then its __init__ -/
def sMake (c : Str) (F : FS) (fa : Sa) : Sm := fun ρ q => (fa ρ q).bind fun ts q1 => (F (.obj q1.length :: ts) (q1 ++ [some (.ins c [])])).bind fun t q2 => match t with
  | .non => .ok (.obj q1.length) q2
  | _ => .stuck
theorem SimQ.made {K : PySem.W.Frag} {ν : Nu} {q : Store} {H : Hp} {x dx : Addr} (s : SimQ K L ν q H) (hx : H x = none) (hd : H dx = none) (ne : dx ≠ x) (hC : L.cl c = some C) :
    SimQ K L (ν.push x) (q ++ [some (.ins c [])]) (upd (upd H dx (.own x)) x (.ins C dx [])) ∧ Fut ν H (ν.push x) (upd (upd H dx (.own x)) x (.ins C dx [])) := by
  have s1 : SimQ K L ν q (upd H dx (.own x)) := s.new (New.upd hd)
  have hx1 : (upd H dx (.own x)) x = none := by rw [upd_ne (Ne.symm ne)]; exact hx
  have f1 : Fut ν H ν (upd H dx (.own x)) := (New.upd hd).fut ν
  have s2 := s1.hideNew (o := .ins C dx []) hx1
  have f2 : Fut ν H ν (upd (upd H dx (.own x)) x (.ins C dx [])) := f1.trans ((New.upd hx1).fut ν)
  refine ⟨s2.push upd_same (.ins hC .nil) fun m => (s.hidOk x m).1 hx, f2.push hx⟩
theorem run_makeS {σ : L2.St} {pins : List (Addr × Obj)} {H : Hp} {s : Shared} {Q : VK} {us : List Value} {vs : List V} {sp : Sp} {E : XK} (M : Mk X.K C f) (Fn : FnOk X.prog X.w X.K X.mg X.base (CX X.prog X.w) k f fd ps sp) (hr : Room (k + 1) X.A) (hb : Binds X.K fd ps [])
    (hx : PassesAt (CX X.prog X.w) X σ E) (I : Inv X pins σ H s) (r : Vals vs us)
    (h : ∀ x dx, H x = none → H dx = none → dx ≠ x → sp (.ref x :: vs) (upd (upd H dx (.own x)) x (.ins C dx [])) (fun v H2 => v = .non ∧ Q (.ref x) H2) E) :
    wpAny (model X.prog X.w) X.A (call (.ref C) us) (EP X pins σ Q) X.xe s := by
  have hq := h (s.heap.objs.size + 1) s.heap.objs.size (I.hok.fresh (Nat.le_succ _)) (I.hok.fresh (Nat.le_refl _)) (Nat.ne_of_lt (Nat.lt_succ_self _))
  have I2 := Inv.made (C := C) I
  have r2 : Vals (V.ref (s.heap.objs.size + 1) :: vs) (Value.ref (s.heap.objs.size + 1) :: us) := .cons rfl r
  have hl : (Value.ref (s.heap.objs.size + 1) :: us ++ []).length = ps.length := by
    have e := r2.length
    rw [Fn.len _ _ _ _ hq] at e
    rw [List.append_nil]
    exact e.symm
  have bt := hb _ (Value.ref (s.heap.objs.size + 1) :: us) I2.kIn hl
  rw [List.append_nil] at bt
  refine wpAny_call (make_map (f := f) I.kIn M.makes M.init (beq_iff_eq.mp M.fn) (codeAny_mono (Fn.run _ X.stack _ _ ⟨Value.ref (s.heap.objs.size + 1) :: us, []⟩ (Value.ref (s.heap.objs.size + 1) :: us) _ _ E (hr.make C us [])
    (I2.env0.make C us []) bt r2 hq) fun r s' hq' => ?_))
  cases r with
  | error e => exact hx pins _ _ e s' I2 hq'
  | ok fl =>
    cases fl with
    | ret u =>
      obtain ⟨v, H', I3, rv, ev, q3⟩ := I2.after hq'
      subst ev
      exact ⟨rv, ⟨V.ref (s.heap.objs.size + 1), H', I3, rfl, q3⟩⟩
    | next => exact False.elim hq'
    | brk => exact False.elim hq'
    | cont => exact False.elim hq'
theorem make_sp {K : PySem.W.Frag} {W : WX} {σ : L2.St} {ν : Nu} {q : Store} {H : Hp} {Q : VK} {ts : List T} {vs : List V} (hC : L.cl c = some C) (hl : ts.length = n) (sim : SimQ K L ν q H) (rs : Reps K L ν H ts vs)
    (p : PostE K L W σ ν H ((F (.obj q.length :: ts) (q ++ [some (.ins c [])])).bind fun t q2 => match t with
      | .non => .ok (.obj q.length) q2
      | _ => .stuck) Q) (x dx : Addr) (hx : H x = none) (hd : H dx = none) (ne : dx ≠ x) :
    spS K L (n + 1) F (.ref x :: vs) (upd (upd H dx (.own x)) x (.ins C dx [])) (fun v H2 => v = .non ∧ Q (.ref x) H2) (WE W σ) := by
  obtain ⟨s2, f2⟩ := sim.made hx hd ne hC
  have at0 : (ν.push x).l[q.length]? = some (true, x) := by
    show (ν.l ++ [(true, x)])[q.length]? = _
    rw [getElem?_snoc, if_pos sim.len.symm]
  refine sp_at (by rw [List.length_cons, ← rs.length, hl]) s2 (.cons (.obj at0) (rs.fut f2)) ?_
  have p := PostE.fut f2 p
  cases e : F (.obj q.length :: ts) (q ++ [some (.ins c [])]) with
  | ok t q2 =>
    rw [e, bind_ok] at p
    cases t with
    | non =>
      intro ν3 H3 v f3 s3 r3
      cases r3
      obtain ⟨b', h'⟩ := f3.nu _ _ _ at0
      exact ⟨rfl, p ν3 H3 _ f3 s3 (.obj h')⟩
    | _ => exact p.elim
  | exc c fs q2 => rw [e] at p; exact p
  | stuck => rw [e] at p; exact p
theorem se_make (hC : L.cl c = some C) (M : Mk X.K C f) (Fn : FnOk X.prog X.w X.K X.mg X.base (CX X.prog X.w) k f fd ps (spS X.K L (n + 1) F)) (hr : Room (k + 1) X.A) (hg : Gl X x) (hm : X.mg x = some (.ref C)) (hb : Binds X.K fd ps []) (ha : SA L X (e :: es) fa) (ar : ArN fa n)
    (hdb : (x == ("__debug__" : Str)) = false := by decide) (he : starEach (e :: es) X.env = (false, eval e X.env) :: starEach es X.env := by rfl) (hpl : (backTo pos (starEach es X.env)).any (·.1) = false := by rfl) :
    SE L X (.Call (.Name x p) (e :: es) [] pos) (sMake c F fa) := by
  refine ⟨fun W tk => ⟨fun pins s σ H Q I ⟨ν, ρ, q, sim, en, p⟩ => ?_⟩⟩
  refine wpAny_Call_Name_kw (ld_glob I hg hm ?_ hdb)
  unfold sMake at p
  have h2 : rdA X.K L W fa σ H fun vs H2 => ∃ ν2 q2 ts, SimQ X.K L ν2 q2 H2 ∧ Reps X.K L ν2 H2 ts vs ∧ ts.length = n ∧ PostE X.K L W σ ν2 H2 ((F (.obj q2.length :: ts) (q2 ++ [some (.ins c [])])).bind fun t q3 => match t with
      | .non => .ok (.obj q2.length) q3
      | _ => .stuck) Q := by
    refine ⟨ν, ρ, q, sim, en, ?_⟩
    cases e1 : fa ρ q with
    | ok ts q2 =>
      rw [e1, bind_ok] at p
      intro ν2 H2 f2 s2 vs rs
      exact ⟨ν2, q2, ts, s2, rs, ar _ _ _ _ e1, PostE.fut f2 p⟩
    | exc c fs q2 => rw [e1] at p; exact p
    | stuck => rw [e1] at p; exact p
  refine PySem.W.callWith_K (h₀ := X.base) I.ok.mod.kin M.kp (thn ((ha.pa W tk).run pos pins s σ H _ I h2) fun us s1 ⟨vs, H1, I1, r, ν2, q2, ts, sim2, rs, hl, p2⟩ => ⟨I1.kIn, ?_⟩) he hpl
  exact run_makeS M Fn hr hb (passAt tk σ) I1 r fun x dx hx hd ne => make_sp hC hl sim2 rs p2 x dx hx hd ne
theorem se_make0 (hC : L.cl c = some C) (M : Mk X.K C f) (Fn : FnOk X.prog X.w X.K X.mg X.base (CX X.prog X.w) k f fd ps (spS X.K L 1 F)) (hr : Room (k + 1) X.A) (hg : Gl X x) (hm : X.mg x = some (.ref C)) (hb : Binds X.K fd ps [])
    (hdb : (x == ("__debug__" : Str)) = false := by decide) : SE L X (.Call (.Name x p) [] [] pos) (sMake c F aNil) := by
  refine ⟨fun W tk => ⟨fun pins s σ H Q I ⟨ν, ρ, q, sim, en, p⟩ => ?_⟩⟩
  refine wpAny_Call_Name_kw (ld_glob I hg hm ?_ hdb)
  exact PySem.W.callWith_K0 I.kIn M.kp (run_makeS (us := []) M Fn hr hb (passAt tk σ) I .nil fun x dx hx hd ne => make_sp hC rfl sim .nil p x dx hx hd ne)
end
end SP

namespace SP
open PySem PySem.Spec PyProof.Rows L2 SeqAt LamX
/-! ### raise, try -/
open Classical in
noncomputable def xRaise (c : Str) (fa : Sa) : Ss := fun ρ q => (fa ρ q).to ρ fun ts q' => if ts.length ≤ sizeLine then .exc c [] ρ q' else .stuck
/-- what an own exception class must have -/
structure XCls (X : Cx) (L : Lx) (c x : Str) (C : Addr) : Prop where
  cl : L.cl c = some C
  mg : X.mg x = some (.ref C)
  base : ∃ bmB B newId initId, ExcBaseFacts B newId initId bmB ∧ PySem.W.excIn X.K C bmB newId = true
  keep : PySem.W.keepIn X.K (.ref C) = true
  r1 : PySem.W.subIn X.K (.ref C) (.type "BaseException") = some true
  r2 : PySem.W.typeIn X.K (.ref C) = some (.type "type")
/-- what a suite of an except clause may end in -/
def suiR (r : RS) : RS := match r with
  | .exc _ _ _ _ => .stuck
  | r => r
def tryH : List ((Str → Bool) × Ss) → Str → List (Str × T) → TEnv → Store → RS
  | [], c, fs, ρ, q => .exc c fs ρ q
  | (sb, h) :: r, c, fs, ρ, q => if sb c = true then suiR (h ρ q) else tryH r c fs ρ q
def xTry (fb : Ss) (hs : List ((Str → Bool) × Ss)) : Ss := fun ρ q => match fb ρ q with
  | .exc c fs ρ' q' => tryH hs c fs ρ' q'
  | r => r
section
variable {L : Lx} {X : Cx} {c x : Str} {C : Addr} {p pos rpos : Pos} {e : Expr} {es : List Expr} {fa : Sa}
theorem raise_rd {K : PySem.W.Frag} {W : WX} {σ : L2.St} {H : Hp} {D : Ends} (hC : L.cl c = some C) (p : rdS K L W (xRaise c fa) D σ H) : rdA K L W fa σ H fun vs H1 => vs.length ≤ sizeLine ∧ W (.ref C) none σ H1 := by
  obtain ⟨ν, ρ, q, s, en, p⟩ := p
  refine ⟨ν, ρ, q, s, en, ?_⟩
  unfold xRaise at p
  cases e : fa ρ q with
  | ok ts q' =>
    rw [e, to_ok] at p
    intro ν' H' f s' vs r
    split at p
    · rename_i hz
      exact ⟨by rw [← r.length]; exact hz, p ν' H' σ _ _ f s' (en.fut f) ⟨C, hC, rfl, .inl ⟨rfl, rfl⟩⟩⟩
    · exact p.elim
  | exc c fs q' => rw [e] at p; exact fun ν' H' cls d f s' x => p ν' H' σ cls d f s' (en.fut f) x
  | stuck => rw [e] at p; exact p
theorem ss_raise (hc : X.calm = true) (T : XCls X L c x C) (hg : Gl X x) (ha : SA L X (e :: es) fa) (hdb : (x == ("__debug__" : Str)) = false := by decide) (he : starEach (e :: es) X.env = (false, eval e X.env) :: starEach es X.env := by rfl) (hpl : (backTo pos (starEach es X.env)).any (·.1) = false := by rfl) :
    SS L X (.Raise (some (.Call (.Name x p) (e :: es) [] pos)) none rpos) (xRaise c fa) := by
  obtain ⟨bmB, B, newId, initId, F, q⟩ := T.base
  exact ⟨fun W tk hp => PS.imp (ps_raise hc tk (pmk_ownA F q T.mg T.keep (raises_own T.r1 T.r2) hg (ha.pa W tk) hdb he hpl)) fun D σ H p => raise_rd T.cl p⟩
/-- the clauses -/
inductive HdsS (L : Lx) (X : Cx) : List ExceptHandler → List ((Str → Bool) × Ss) → Prop where
  | nil : HdsS L X [] []
  | cons {x : Str} {C : Addr} {sb : Str → Bool} {h : Ss} {b₀ : Stmt} {suite : List Stmt} {np pos' : Pos} {hds : List ExceptHandler} {l : List ((Str → Bool) × Ss)} (hc : Names X x (.ref C)) (hsb : ∀ c D, L.cl c = some D → PySem.W.exmOne X.K (.ref D) (.ref C) = some (sb c))
      (hsu : ∀ (a : Addr) (pn : List (Addr × Obj)), SSs L (X.suite a pn) (b₀ :: suite) h) (r : HdsS L X hds l) : HdsS L X (.ExceptHandler (some (.Name x np)) none (b₀ :: suite) pos' :: hds) ((sb, h) :: l)
def wTry (K : PySem.W.Frag) (L : Lx) (Wout : WX) (D : Ends) (hs : List ((Str → Bool) × Ss)) : WX := fun cls d σ H => ∃ ν ρ q c fs, SimQ K L ν q H ∧ EnvOk K L ν H ρ σ ∧ ExcAt K L ν H c fs cls d ∧ PostS K L Wout ν H (tryH hs c fs ρ q) D
end
end SP

namespace SP
open PySem PySem.Spec PyProof.Rows L2 SeqAt LamX
/-! ### a lambda without parameters, handed to the def that tells how it ends -/
section
variable {X : Cx} {pins : List (Addr × Obj)} {σ : L2.St} {H : Hp} {s : Shared}
end
/-- the names told, by the classes -/
def toldOf : List ((Str → Bool) × Str) → Str → Option Str
  | [], _ => none
  | (sb, s) :: r, c => if sb c = true then some s else toldOf r c
def sTold (l : List ((Str → Bool) × Str)) (f : Sm) : Sm := fun ρ q => match f ρ q with
  | .ok t q' => .ok t q'
  | .exc c _ q' => match toldOf l c with
    | some s => .ok (.str s) q'
    | none => .stuck
  | .stuck => .stuck
/-- the clauses of the teller: each returns its word -/
inductive ToldHds (K : PySem.W.Frag) (L : Lx) (X : Cx) : List ExceptHandler → List ((Str → Bool) × Str) → List (Value × (Addr → Value → Option Addr → TS)) → Prop where
  | nil : ToldHds K L X [] [] []
  | cons {x w : Str} {C : Addr} {sb : Str → Bool} {np pos' p1 p2 : Pos} {j : Nat} {hds : List ExceptHandler} {l : List ((Str → Bool) × Str)} {m : List (Value × (Addr → Value → Option Addr → TS))} (hc : Names X x (.ref C)) (hsb : ∀ c D, L.cl c = some D → PySem.W.exmOne K (.ref D) (.ref C) = some (sb c))
      (r : ToldHds K L X hds l m) : ToldHds K L X (.ExceptHandler (some (.Name x np)) none [.Return (some (.Constant (.str w) j p1)) p2] pos' :: hds) ((sb, w) :: l) ((.ref C, fun _ _ _ => fun D _ H => D.rt (.str w) H) :: m)
section
variable {X : Cx} {L : Lx}
/-- the teller's reading -/
def TTold (K : PySem.W.Frag) (m : List (Value × (Addr → Value → Option Addr → TS))) : (XK → Hp → VK → Prop) → Hp → VK → Prop := fun tl H Q =>
  tl (fun cls d H' => ∀ σ', wMany K (fun _ _ _ _ => False) { nx := fun _ H' => Q .non H', rt := Q } m cls d σ' H') H Q
def tLamN (T : List NdefX.NTab) (TT : (XK → Hp → VK → Prop) → Hp → VK → Prop) (t : XK → TE) : TE := fun σ H Q => NdefX.TabsN T H ∧ ∀ H1, ExtN H H1 → (∀ b, H1 b = Option.none → H b = Option.none) → NdefX.TabsN T H1 → TT (fun E H' Q' => t E σ H' Q') H1 Q
end
end SP

namespace SP
open PySem PySem.Spec PyProof.Rows L2 SeqAt
/-! ### what is mutable, written -/
section
variable {K : PySem.W.Frag} {L : Lx} {ν : Nu} {q : Store} {H : Hp}
theorem dx_code {b c : Addr} {o : Obj} {q : Str} (hd : ∃ es ep, o.data = .dict es ep) : DX b o ≠ LamX.CodeO c q := by
  intro z
  unfold LamX.CodeO at z
  injection z with z
  obtain ⟨oc, hoc⟩ : ∃ oc : Obj, oc = { cls := .none, data := .fields #[.none, .str q 0] } := ⟨_, rfl⟩
  obtain ⟨hp, hhp⟩ : ∃ hp : Heap, hp = { objs := Array.replicate (c + 1) oc } := ⟨_, rfl⟩
  have e := congrFun z hp
  have g : ∀ a u, hp.get? a = some u → u = oc := by
    intro a u hu
    rw [hhp] at hu
    unfold Heap.get? at hu
    simp only [Array.getElem?_replicate] at hu
    by_cases ha : a < c + 1
    · rw [if_pos ha, hoc] at hu
      simp only [Option.some.injEq] at hu
      rw [hoc]; exact hu.symm
    · rw [if_neg ha] at hu
      simp at hu
  have t : ∃ (oc : Obj) (vs : Array Value) (t : Tok), hp.get? c = some oc ∧ oc.data = .fields vs ∧ vs[1]? = some (.str q t) := by
    refine ⟨oc, #[.none, .str q 0], 0, ?_, by rw [hoc], rfl⟩
    rw [hhp]
    unfold Heap.get?
    simp only [Array.getElem?_replicate]
    rw [if_pos (Nat.lt_succ_self c), hoc]
  rw [← e] at t
  have t2 := g _ _ t.1
  obtain ⟨es, ep, hd⟩ := hd
  rw [t2, hoc] at hd
  cases hd
theorem CellRep.noTbl {t : T} {o : HO} (h : CellRep K L ν H t o) : (∀ ps, o ≠ .tbl ps) ∧ (∀ c q, o ≠ LamX.CodeO c q) := by
  cases h with
  | dctT d r => exact ⟨nofun, fun c q => dx_code (let ⟨es, ep, h, _⟩ := d.2.1; ⟨es, ep, h⟩)⟩
  | _ => exact ⟨nofun, fun c q z => by unfold LamX.CodeO at z; cases z⟩
theorem Fut.write {n : Nat} {a : Addr} {o : HO} (s : SimQ K L ν q H) (h : ν.l[n]? = some (true, a)) : Fut ν H ν (upd H a o) := by
  have ne : ∀ {b : Addr}, Fz ν b → b ≠ a := fun {b} z e => z.1 (by rw [e]; exact List.mem_of_getElem? h)
  refine ⟨⟨fun b u e z _ _ => by rw [upd_ne (ne z)]; exact e, fun b kvs e z => ?_, fun b e => ?_, fun _ b _ h => ⟨b, h⟩, fun _ h _ => h⟩, rfl, fun b m u e _ => ?_⟩
  · rcases e with e | ⟨u, e⟩
    · exact .inl (by rw [upd_ne (ne z)]; exact e)
    · exact .inr ⟨u, by rw [upd_ne (ne z)]; exact e⟩
  · by_cases z : b = a
    · rw [z, upd_same] at e; cases e
    · rw [upd_ne z] at e; exact e
  · rw [upd_ne (fun z => (s.hidOk b m).2 (by rw [z]; exact List.mem_of_getElem? h))]
    exact e
theorem SimQ.write {n : Nat} {a : Addr} {o o' : HO} {c t : T} (s : SimQ K L ν q H) (h : ν.l[n]? = some (true, a)) (e : H a = some o) (r : CellRep K L ν H c o) (r' : CellRep K L ν H t o') : SimQ K L ν (q.set n (some t)) (upd H a o') := by
  have f := Fut.write (o := o') s h
  have hn : n < q.length := by rw [← s.len]; exact (List.getElem?_eq_some_iff.mp h).1
  refine ⟨by rw [List.length_set]; exact s.len, fun i d hd => ?_, fun i b hb => ?_, s.inj, fun p hp => ?_, fun b m => ⟨fun z => ?_, (s.hidOk b m).2⟩⟩
  · rw [List.getElem?_set] at hd
    by_cases z : n = i
    · subst z
      rw [if_pos rfl, if_pos hn] at hd
      cases hd
      exact ⟨a, o', h, upd_same, r'.fut f⟩
    · rw [if_neg z] at hd
      obtain ⟨b, u, h1, h2, h3⟩ := s.cells i d hd
      exact ⟨b, u, h1, by rw [upd_ne (fun w => z (s.inj n i a h (by rw [h1, w])))]; exact h2, h3.fut f⟩
  · obtain ⟨d, hd⟩ := s.dead i b hb
    rw [List.getElem?_set]
    by_cases z : n = i
    · subst z; exact ⟨t, by rw [if_pos rfl, if_pos hn]⟩
    · exact ⟨d, by rw [if_neg z]; exact hd⟩
  · obtain ⟨ps, h1, h2, h3⟩ := s.tabs p hp
    refine ⟨ps, by rw [upd_ne (fun z => by rw [z, e] at h1; exact r.noTbl.1 ps (Option.some.inj h1))]; exact h1, h2, fun pos cv ee => ?_⟩
    obtain ⟨cc, e1, e2⟩ := h3 pos cv ee
    exact ⟨cc, e1, by rw [upd_ne (fun z => by rw [z, e] at e2; exact r.noTbl.2 _ _ (Option.some.inj e2))]; exact e2⟩
  · by_cases w : b = a
    · rw [w, upd_same] at z; cases z
    · rw [upd_ne w] at z; exact (s.hidOk b m).1 z
theorem SimQ.obj_at (s : SimQ K L ν q H) {n : Nat} {v : V} {c : T} (r : Rep K L ν H (.obj n) v) (h : cell q n = some c) : ∃ a o, v = .ref a ∧ ν.l[n]? = some (true, a) ∧ H a = some o ∧ CellRep K L ν H c o := s.at_ r h
end
/-! ### attributes -/
def putT (f : Str) (t : T) : List (Str × T) → List (Str × T)
  | [] => [(f, t)]
  | (g, x) :: r => if g = f then (g, t) :: r else (g, x) :: putT f t r
theorem RepF.put {K : PySem.W.Frag} {L : Lx} {ν : Nu} {H : Hp} {f : Str} {t : T} {v : V} (hv : Rep K L ν H t v) : ∀ {fs : List (Str × T)} {fv : List (Str × V)}, RepF K L ν H fs fv → RepF K L ν H (putT f t fs) (putF f v fv)
  | _, _, .nil => .cons hv .nil
  | _, _, .cons (f := g) h r => by
    unfold putT putF
    split
    · exact .cons hv r
    · exact .cons h (RepF.put hv r)
theorem RepF.look {K : PySem.W.Frag} {L : Lx} {ν : Nu} {H : Hp} {f : Str} {t : T} : ∀ {fs : List (Str × T)} {fv : List (Str × V)}, RepF K L ν H fs fv → fs.lookup f = some t → ∃ v, fv.lookup f = some v ∧ Rep K L ν H t v
  | _, _, .nil, e => by cases e
  | _, _, .cons (f := g) h r, e => by
    rw [List.lookup_cons] at e ⊢
    cases z : f == g with
    | true => rw [z] at e; cases e; exact ⟨_, rfl, h⟩
    | false => rw [z] at e; exact RepF.look r e
theorem RepF.length {K : PySem.W.Frag} {L : Lx} {ν : Nu} {H : Hp} : ∀ {fs : List (Str × T)} {fv : List (Str × V)}, RepF K L ν H fs fv → fs.length = fv.length
  | _, _, .nil => rfl
  | _, _, .cons h r => by rw [List.length_cons, List.length_cons, RepF.length r]
/-- o.f; ic: the classes whose instances have fields -/
def sFld (ic : Str → Bool) (f : Str) (fo : Sm) : Sm := fun ρ q => (fo ρ q).bind fun t q' => match insAt q' t with
  | some (c, fs) => if ic c = true then match fs.lookup f with
      | some u => .ok u q'
      | none => .stuck
    else .stuck
  | none => .stuck
/-- o.f = e -/
def xFld (ic : Str → Bool) (f : Str) (fo fv : Sm) : Ss := fun ρ q => (fv ρ q).to ρ fun u q1 => (fo ρ q1).to ρ fun t q2 => match t with
  | .obj n => match cell q2 n with
    | some (.ins c fs) => if ic c = true ∧ fs.length < 1000 then .nx ρ (q2.set n (some (.ins c (putT f u fs)))) else .stuck
    | _ => .stuck
  | _ => .stuck
/-- o.f op= e, by the operator's meaning -/
def xFldAug (ic : Str → Bool) (op : Op2) (f : Str) (fo fv : Sm) : Ss := fun ρ q => (fo ρ q).to ρ fun t q1 => match t with
  | .obj n => match cell q1 n with
    | some (.ins c fs) => if ic c = true then match fs.lookup f with
        | some x => (fv ρ q1).to ρ fun y q2 => (op x y q2).to ρ fun z q3 => match cell q3 n with
          | some (.ins c' fs') => if c' = c ∧ fs'.length < 1000 then .nx ρ (q3.set n (some (.ins c (putT f z fs')))) else .stuck
          | _ => .stuck
        | none => .stuck
      else .stuck
    | _ => .stuck
  | _ => .stuck
/-- o[i] = e, o a list -/
def xSubL (fo fi fv : Sm) : Ss := fun ρ q => (fv ρ q).to ρ fun u q1 => (fo ρ q1).to ρ fun t q2 => (fi ρ q2).to ρ fun i q3 => match t, i with
  | .obj n, .int k => match cell q3 n with
    | some (.lst ts) => match ixN ts.length k with
      | some j => .nx ρ (q3.set n (some (.lst (ts.set j u))))
      | none => .stuck
    | _ => .stuck
  | _, _ => .stuck
/-- x op= e -/
def xAug (op : Op2) (i : Nat) (fv : Sm) : Ss := fun ρ q => match ρ[i]? with
  | some (some x) => (fv ρ q).to ρ fun y q1 => (op x y q1).to ρ fun z q2 => .nx (ρ.set i (some z)) q2
  | _ => .stuck
/-- x, y = a, b with plain local names -/
def xPar (is : List Nat) (fa : Sa) : Ss := fun ρ q => (fa ρ q).to ρ fun ts q' => if ts.length = is.length then .nx ((is.zip ts).foldl (fun ρ p => ρ.set p.1 (some p.2)) ρ) q' else .stuck
section
variable {L : Lx} {X : Cx} {ic : Str → Bool} {o e i : Expr} {es : List Expr} {f x : Str} {fo fv fi : Sm} {fa : Sa} {pos pos' tpos : Pos}
/-- what a field's name must be -/
def FldOk (X : Cx) (L : Lx) (ic : Str → Bool) (f : Str) : Prop := ∀ c C, L.cl c = some C → ic c = true → Cls X.K C ∧ NoAttr X.K C f
theorem se_fld (hk : FldOk X L ic f) (he : SE L X o fo) (hb : attributeBase o f X.env (eval o X.env) = eval o X.env := by rfl) : SE L X (.Attribute o f pos) (sFld ic f fo) := by
  refine ⟨fun W tk => PE.imp (pe_fld (he.pe W tk) hb) fun σ H Q ⟨ν, ρ, q, s, en, p⟩ => ?_⟩
  unfold sFld at p
  rw [postE_iff] at p
  refine rdE_of s en p fun t v q' ν' H' f' s' en' r p' => ?_
  cases hi : insAt q' t with
  | none => rw [hi] at p'; exact p'.elim
  | some cf =>
    obtain ⟨c, fs⟩ := cf
    rw [hi] at p'
    simp only at p'
    split at p'
    case isFalse => exact p'.elim
    rename_i hc
    obtain ⟨a, C, dx, fv, rfl, ha, hcl, rf⟩ := ins_rep s' r hi
    split at p'
    · rename_i u hu
      obtain ⟨v, h1, h2⟩ := rf.look hu
      obtain ⟨k1, k2⟩ := hk c C hcl hc
      exact ⟨a, C, dx, fv, v, rfl, ha, k1, k2, h1, p'.now s' v h2⟩
    · exact p'.elim
theorem ss_fld (hk : FldOk X L ic f) (ho : SE L X o fo) (hv : SE L X e fv) (hs : swapsWith e (some (.Attribute o f pos')) pos.line X.env = pure false := by rfl) : SS L X (.Assign [.Attribute o f pos'] e pos) (xFld ic f fo fv) := by
  refine ⟨fun W tk hp => PS.imp (ps_fld (ho.pe W tk) (hv.pe W tk) hs) fun D σ H ⟨ν, ρ, q, s, en, p⟩ => ?_⟩
  unfold xFld at p
  refine rdE_to s en p fun u y q1 ν1 H1 f1 s1 en1 r1 p1 => ?_
  refine rdE_to s1 en1 p1 fun t v q2 ν2 H2 f2 s2 en2 r2 p2 => ?_
  cases t with
  | obj n =>
    simp only at p2
    split at p2
    · rename_i c fs hc
      split at p2
      · rename_i hz
        obtain ⟨a, o', rfl, h1, h2, h3⟩ := s2.obj_at r2 hc
        cases h3 with
        | ins hcl rf =>
          rename_i C dx fv'
          obtain ⟨k1, k2⟩ := hk c C hcl hz.1
          refine ⟨a, C, dx, fv', rfl, h2, k1, k2, by rw [← rf.length]; exact hz.2, ?_⟩
          exact p2 ν2 _ σ (Fut.write s2 h1) (s2.write h1 h2 (.ins hcl rf) (.ins hcl (rf.put (r1.fut f2)))) (en2.fut (Fut.write s2 h1))
      · exact p2.elim
    · exact p2.elim
  | _ => exact p2.elim
/-- an operator in place, by trees -/
def OpI (L : Lx) (X : Cx) (op : Operator) (o : Op2) : Prop := OpS L X (inplaceOp op) o
theorem ss_subL (ho : SE L X o fo) (hi : SE L X i fi) (hv : SE L X e fv) (hs : swapsWithSole [.Subscript o i pos'] e pos.line X.env = pure false := by rfl) (hw : swappedStores [.Subscript o i pos'] e X.env = pure none := by rfl) (h1 : (assignEach [.Subscript o i pos'] X.env).map (·.2) = [assign (.Subscript o i pos') X.env] := by rfl)
    (ha : ∀ v, assign (.Subscript o i pos') X.env v = (do
      let ov ← holding [v] (eval o X.env)
      let iv ← holding [v, ov] (eval i X.env)
      standAt pos'
      holding [v, ov, iv] (setItem ov iv v)
      release [v, ov, iv] []) := by intro _; rfl) : SS L X (.Assign [.Subscript o i pos'] e pos) (xSubL fo fi fv) := by
  refine ⟨fun W tk hp => PS.imp (ps_asg (hv.pe W tk) (pg_sub (ho.pe W tk) (hi.pe W tk) set_list ha) hs hw h1) fun D σ H ⟨ν, ρ, q, s, en, p⟩ => ?_⟩
  unfold xSubL at p
  refine rdE_to s en p fun u y q1 ν1 H1 f1 s1 en1 r1 p1 => ?_
  refine rdE_to s1 en1 p1 fun t v q2 ν2 H2 f2 s2 en2 r2 p2 => ?_
  refine rdE_to s2 en2 p2 fun k w q3 ν3 H3 f3 s3 en3 r3 p3 => ?_
  cases t with
  | obj n =>
    cases k with
    | int k =>
      simp only at p3
      split at p3
      · rename_i ts hc
        split at p3
        · rename_i j hj
          cases r3
          obtain ⟨a, o', rfl, h1, h2, h3⟩ := s3.obj_at (r2.fut f3) hc
          cases h3 with
          | lst rl =>
            refine ⟨a, _, k, j, rfl, rfl, h2, by rw [← rl.length]; exact hj, ?_⟩
            exact p3 ν3 _ σ (Fut.write s3 h1) (s3.write h1 h2 (.lst rl) (.lst (rl.set j (r1.fut (f2.trans f3))))) (en3.fut (Fut.write s3 h1))
        · exact p3.elim
      · exact p3.elim
    | _ => exact p3.elim
  | _ => exact p3.elim
end
end SP

namespace SP
open PySem PySem.Spec PyProof.Rows L2 SeqAt
/-! ### built-ins by name -/
def BIx (K : PySem.W.Frag) (L : Lx) (F : FS) : List V → Hp → VK → Prop := fun xs H Q => ∃ ν q ts, SimQ K L ν q H ∧ Reps K L ν H ts xs ∧ PostE K L (fun _ _ _ _ => False) [] ν H (F ts q) Q
/-- what is made is new, and mutable where wished -/
def BNx (K : PySem.W.Frag) (L : Lx) (F : FS) : List V → Hp → VK → Prop := fun xs H Q => ∃ ν q ts, SimQ K L ν q H ∧ Reps K L ν H ts xs ∧ PostN K L (fun _ _ _ _ => False) [] ν H (F ts q) Q
theorem _root_.L2.CallR.imp {X : Cx} {f : Value} {r r' : List V → Hp → VK → Prop} (h : CallR X f r) (i : ∀ xs H Q, r' xs H Q → r xs H Q) : CallR X f r' := fun pins s σ H xs us Q I rv q => h pins s σ H xs us Q I rv (i xs H Q q)
/-- no exception leaves it -/
def NoX (F : FS) : Prop := ∀ ts q c fs q', F ts q ≠ .exc c fs q'
section
variable {L : Lx} {X : Cx} {x : Str} {p pos : Pos} {e : Expr} {es : List Expr} {fa : Sa} {id T : String} {F : FS}
theorem bi_rd {K : PySem.W.Frag} {W : WX} {σ : L2.St} {H : Hp} {Q : VK} (nx : NoX F) (q : rdE K L W (sCall F fa) σ H Q) : tCB (BIx K L F) (rdA K L W fa) σ H Q := by
  obtain ⟨ν, ρ, q, s, en, p⟩ := q
  refine ⟨ν, ρ, q, s, en, ?_⟩
  unfold sCall at p
  cases e : fa ρ q with
  | ok ts q' =>
    rw [e, bind_ok] at p
    intro ν' H' f s' vs r
    refine ⟨ν', q', ts, s', r, ?_⟩
    have p := PostE.fut f p
    cases e2 : F ts q' with
    | ok t q2 => rw [e2] at p; exact p
    | exc c fs q2 => exact absurd e2 (nx _ _ _ _ _)
    | stuck => rw [e2] at p; exact p
  | exc c fs q' => rw [e] at p; exact p
  | stuck => rw [e] at p; exact p
theorem bn_rd {K : PySem.W.Frag} {W : WX} {σ : L2.St} {H : Hp} {Q : VK} (nx : NoX F) (q : rdN K L W (sCall F fa) σ H Q) : tCB (BNx K L F) (rdA K L W fa) σ H Q := by
  obtain ⟨ν, ρ, q, s, en, p⟩ := q
  refine ⟨ν, ρ, q, s, en, ?_⟩
  unfold sCall at p
  cases e : fa ρ q with
  | ok ts q' =>
    rw [e, bind_ok] at p
    intro ν' H' f s' vs r
    refine ⟨ν', q', ts, s', r, ?_⟩
    have p := PostN.fut f p
    cases e2 : F ts q' with
    | ok t q2 => rw [e2] at p; exact p
    | exc c fs q2 => exact absurd e2 (nx _ _ _ _ _)
    | stuck => rw [e2] at p; exact p
  | exc c fs q' => rw [e] at p; exact p
  | stuck => rw [e] at p; exact p
theorem se_callB (hc : CallR X (.builtin id) (BIx X.K L F)) (nx : NoX F) (hg : Gl X x) (hm : X.mg x = none) (hv : bootBuiltins x = some (.builtin id)) (ha : SA L X (e :: es) fa) (hn : x ≠ "__name__" := by decide) (hdb : (x == ("__debug__" : Str)) = false := by decide)
    (he : starEach (e :: es) X.env = (false, eval e X.env) :: starEach es X.env := by rfl) (hpl : (backTo pos (starEach es X.env)).any (·.1) = false := by rfl) : SE L X (.Call (.Name x p) (e :: es) [] pos) (sCall F fa) :=
  ⟨fun W tk => PE.imp (pe_callB hc hg hm hv (ha.pa W tk) hn hdb he hpl) fun σ H Q q => bi_rd nx q⟩
theorem se_callTy (hc : CallR X (.type T) (BIx X.K L F)) (nx : NoX F) (hg : Gl X x) (hm : X.mg x = none) (hv : bootBuiltins x = some (.type T)) (ha : SA L X (e :: es) fa) (hn : x ≠ "__name__" := by decide) (hdb : (x == ("__debug__" : Str)) = false := by decide)
    (he : starEach (e :: es) X.env = (false, eval e X.env) :: starEach es X.env := by rfl) (hpl : (backTo pos (starEach es X.env)).any (·.1) = false := by rfl) : SE L X (.Call (.Name x p) (e :: es) [] pos) (sCall F fa) :=
  ⟨fun W tk => PE.imp (pe_callTy hc hg hm hv (ha.pa W tk) hn hdb he hpl) fun σ H Q q => bi_rd nx q⟩
theorem sn_callTy (hc : CallR X (.type T) (BNx X.K L F)) (nx : NoX F) (hg : Gl X x) (hm : X.mg x = none) (hv : bootBuiltins x = some (.type T)) (ha : SA L X (e :: es) fa) (hn : x ≠ "__name__" := by decide) (hdb : (x == ("__debug__" : Str)) = false := by decide)
    (he : starEach (e :: es) X.env = (false, eval e X.env) :: starEach es X.env := by rfl) (hpl : (backTo pos (starEach es X.env)).any (·.1) = false := by rfl) : SN L X (.Call (.Name x p) (e :: es) [] pos) (sCall F fa) :=
  ⟨fun W tk => PE.imp (pe_callTy hc hg hm hv (ha.pa W tk) hn hdb he hpl) fun σ H Q q => bn_rd nx q⟩
end
/-! ### the small ones -/
open Classical in
noncomputable def fLen : FS := fun ts q => match ts with
  | [.str z] => if z.length ≤ sizeLine then .ok (.int z.length) q else .stuck
  | [.fz us] => .ok (.int us.length) q
  | [t] => match seqAt q t with
    | some us => .ok (.int us.length) q
    | none => match dctAt q t with
      | some kvs => .ok (.int kvs.length) q
      | none => .stuck
  | _ => .stuck
def fAbs : FS := fun ts q => match ts with
  | [.int i] => .ok (.int (if i < 0 then -i else i)) q
  | _ => .stuck
def fMax2 : FS := fun ts q => match ts with
  | [.int i, .int j] => .ok (.int (if j > i then j else i)) q
  | _ => .stuck
def fMin2 : FS := fun ts q => match ts with
  | [.int i, .int j] => .ok (.int (if j < i then j else i)) q
  | _ => .stuck
def fInt : FS := fun ts q => match ts with
  | [.int i] => .ok (.int i) q
  | [.bl k] => .ok (.int (if k then 1 else 0)) q
  | _ => .stuck
def fStr : FS := fun ts q => match ts with
  | [.int i] => if i.natAbs.log2 < 1920 then .ok (.str (toString i)) q else .stuck
  | [.str s] => .ok (.str s) q
  | _ => .stuck
/-- ints all -/
def intsT : List T → Option (List Int)
  | [] => some []
  | .int i :: ts => (intsT ts).map (i :: ·)
  | _ => none
def fSum : FS := fun ts q => match ts with
  | [t] => match seqAt q t with
    | some us => match intsT us with
      | some ns => .ok (.int ns.sum) q
      | none => .stuck
    | none => .stuck
  | _ => .stuck
def fTup : FS := fun ts q => match ts with
  | [t] => match seqAt q t with
    | some us => .ok (.tup us) q
    | none => .stuck
  | _ => .stuck
def fLst : FS := fun ts q => match ts with
  | [.fz us] => .ok (.lst us) q
  | [t] => match seqAt q t with
    | some us => .ok (.lst us) q
    | none => match dctAt q t with
      | some kvs => .ok (.lst (kvs.map (·.1))) q
      | none => .stuck
  | _ => .stuck
theorem intsT_vals {K : PySem.W.Frag} {L : Lx} {ν : Nu} {H : Hp} : ∀ {ts : List T} {xs : List V} {ns : List Int}, Reps K L ν H ts xs → intsT ts = some ns → xs = ns.map V.int
  | _, _, _, .nil, e => by cases e; rfl
  | _, _, _, .cons (t := t) (ts := us) h r, e => by
    cases t with
    | int i =>
      cases h
      have e : (intsT us).map (i :: ·) = some _ := e
      cases e2 : intsT us with
      | none => rw [e2] at e; cases e
      | some ms =>
        rw [e2] at e
        cases e
        rw [intsT_vals r e2] <;> rfl
    | _ => cases e
section
variable {L : Lx} {X : Cx}
/-- the arguments, one or two -/
theorem reps_1 {K : PySem.W.Frag} {ν : Nu} {H : Hp} {t : T} {xs : List V} (r : Reps K L ν H [t] xs) : ∃ x, xs = [x] ∧ Rep K L ν H t x := by
  cases r with
  | cons h r => cases r; exact ⟨_, rfl, h⟩
theorem reps_2 {K : PySem.W.Frag} {ν : Nu} {H : Hp} {t u : T} {xs : List V} (r : Reps K L ν H [t, u] xs) : ∃ x y, xs = [x, y] ∧ Rep K L ν H t x ∧ Rep K L ν H u y := by
  cases r with
  | cons h r =>
    obtain ⟨y, rfl, h2⟩ := reps_1 r
    exact ⟨_, y, rfl, h, h2⟩
theorem post_at {K : PySem.W.Frag} {W : WX} {σ : L2.St} {ν : Nu} {H : Hp} {t : T} {q : Store} {Q : VK} {v : V} (h : PostE K L W σ ν H (.ok t q) Q) (s : SimQ K L ν q H) (r : Rep K L ν H t v) : Q v H := h ν H v (Fut.refl ν H) s r
theorem call_lenRd : CallR X (.builtin "len") (fun xs H Q => ∃ a kvs, xs = [V.ref a] ∧ Rd H a (.dK kvs) ∧ Q (.int kvs.length) H) := by
  intro pins s σ H xs us Q I r h
  obtain ⟨a, kvs, rfl, h1, q⟩ := h
  obtain ⟨u, rfl, ru⟩ := vals1 r
  obtain rfl : u = Value.ref a := ru
  exact d_len I h1 fun t s' I' => ⟨.int _, H, I', ⟨t, rfl⟩, q⟩
theorem b_len : CallR X (.builtin "len") (BIx X.K L fLen) := by
  refine CallR.imp (CallR.or call_len call_lenRd) fun xs H Q ⟨ν, q, ts, s, r, p⟩ => ?_
  unfold fLen at p
  split at p
  · rename_i z
    obtain ⟨x, rfl, rx⟩ := reps_1 r
    cases rx
    split at p
    · rename_i hz
      exact .inl ⟨_, z.length, rfl, ⟨hz, rfl⟩, post_at p s (.int _)⟩
    · exact p.elim
  · obtain ⟨x, rfl, rx⟩ := reps_1 r
    obtain ⟨a, ys, rfl, h1, h2⟩ := rep_fz rx
    exact .inl ⟨_, ys.length, rfl, .inl ⟨ys, h1 ν H (Tr.refl ν H), rfl⟩, post_at p s (by rw [h2.length]; exact .int _)⟩
  · rename_i t _ _
    obtain ⟨x, rfl, rx⟩ := reps_1 r
    split at p
    · rename_i us hu
      obtain ⟨a, ys, rfl, h1, h2⟩ := seq_of s rx hu
      refine .inl ⟨_, ys.length, rfl, ?_, post_at p s (by rw [h2.length]; exact .int _)⟩
      rcases h1 with h1 | h1
      · exact .inl ⟨ys, h1, rfl⟩
      · exact .inr ⟨ys, h1, rfl⟩
    · split at p
      · rename_i kvs hk
        obtain ⟨a, vs, rfl, h1, h2⟩ := dct_of s rx hk
        exact .inr ⟨a, vs, rfl, h1, post_at p s (by rw [h2.length]; exact .int _)⟩
      · exact p.elim
  · exact p.elim
theorem b_abs : CallR X (.builtin "abs") (BIx X.K L fAbs) := CallR.imp call_abs fun xs H Q ⟨ν, q, ts, s, r, p⟩ => by
  unfold fAbs at p
  split at p
  · obtain ⟨x, rfl, rx⟩ := reps_1 r
    cases rx
    exact ⟨_, rfl, post_at p s (.int _)⟩
  · exact p.elim
theorem b_min2 (hc : X.calm = true) : CallR X (.builtin "min") (BIx X.K L fMin2) := CallR.imp (call_min2 hc) fun xs H Q ⟨ν, q, ts, s, r, p⟩ => by
  unfold fMin2 at p
  split at p
  · obtain ⟨x, y, rfl, rx, ry⟩ := reps_2 r
    cases rx; cases ry
    exact ⟨_, _, rfl, post_at p s (.int _)⟩
  · exact p.elim
theorem b_int : CallR X (.type "int") (BIx X.K L fInt) := CallR.imp call_int1 fun xs H Q ⟨ν, q, ts, s, r, p⟩ => by
  unfold fInt at p
  split at p
  · obtain ⟨x, rfl, rx⟩ := reps_1 r
    cases rx
    exact .inl ⟨_, rfl, post_at p s (.int _)⟩
  · obtain ⟨x, rfl, rx⟩ := reps_1 r
    cases rx
    exact .inr ⟨_, rfl, post_at p s (.int _)⟩
  · exact p.elim
end
theorem nx_len : NoX fLen := by
  intro ts q c fs q' h
  unfold fLen at h
  repeat' split at h
  all_goals cases h
theorem nx_abs : NoX fAbs := by
  intro ts q c fs q' h
  unfold fAbs at h
  repeat' split at h
  all_goals cases h
theorem nx_min2 : NoX fMin2 := by
  intro ts q c fs q' h
  unfold fMin2 at h
  repeat' split at h
  all_goals cases h
theorem nx_int : NoX fInt := by
  intro ts q c fs q' h
  unfold fInt at h
  repeat' split at h
  all_goals cases h
theorem nx_sum : NoX fSum := by
  intro ts q c fs q' h
  unfold fSum at h
  repeat' split at h
  all_goals cases h
theorem nx_tup : NoX fTup := by
  intro ts q c fs q' h
  unfold fTup at h
  repeat' split at h
  all_goals cases h
theorem nx_lst : NoX fLst := by
  intro ts q c fs q' h
  unfold fLst at h
  repeat' split at h
  all_goals cases h
end SP

namespace SP
open PySem PySem.Spec PyProof.Rows L2 SeqAt
/-! ### sums, copies -/
section
variable {L : Lx} {X : Cx}
theorem preSum_ints {ns : List Int} : ∀ k, k ≤ ns.length → preSum (fun i => ns.getD i 0) k = (ns.take k).sum := by
  intro k
  induction k with
  | zero => intro _; simp [preSum]
  | succ k ih =>
    intro h
    have hk : k < ns.length := h
    have e2 : ns.getD k 0 = ns[k] := by simp [List.getD, hk]
    unfold preSum
    rw [ih (by omega), List.take_succ_eq_append_getElem hk, List.sum_append, e2]
    simp
theorem call_sumT (hc : X.calm = true) : CallR X (.builtin "sum") (fun vs H Q => ∃ (a : Addr) (ns : List Int), vs = [V.ref a] ∧ SqT X.K H a (ns.map V.int) ∧ Q (.int ns.sum) H) := by
  intro pins s σ H vs us Q I r h
  obtain ⟨a, ns, rfl, hs, q⟩ := h
  obtain ⟨its, rv, ht, hz⟩ := I.tuple hs
  obtain ⟨u, rfl, ru⟩ := vals1 r
  obtain rfl : u = Value.ref a := ru
  have ht : s.heap.IsTuple a its.toArray := ht
  have hlt : a < s.heap.objs.size := by
    obtain ⟨o, e, _⟩ := id ht
    exact Heap.lt_size e
  refine call_sum_walkG (wpAny_pyIter_tuple ht ?_)
  refine ⟨s.heap.objs.size, [s.heap.objs.size, a], [s.heap.objs.size], its.toArray.size, (fun i v => its.toArray[i]? = some v), _, (fun i => ns.getD i 0), rfl, Walks.tuple (A := X.A.in1) (show X.A.in1.handled = none from I.ok.hd hc) _ _ (Nat.ne_of_lt hlt) _, ?_, ?_, ?_, ?_⟩
  · exact ⟨⟨_, Heap.get?_push_size _ rfl, rfl, rfl⟩, ht.at fun o e => Heap.get?_push_of_some _ e⟩
  · intro b hb
    rw [Heap.size_push]
    rcases List.mem_cons.mp hb with z | z
    · rw [z]; exact Nat.lt_succ_self _
    · rw [List.mem_singleton.mp z]; exact Nat.lt_succ_of_lt hlt
  · intro i v hv
    have hv : its[i]? = some v := by simpa using hv
    have hi : i < ns.length := by
      have h1 := (List.getElem?_eq_some_iff.mp hv).1
      have h2 := rv.length
      rw [List.length_map] at h2
      omega
    have e : (ns.map V.int)[i]? = some (V.int (ns.getD i 0)) := by
      rw [List.getElem?_map, List.getElem?_eq_getElem hi]
      simp [List.getD, hi]
    obtain ⟨w, h1, h2⟩ := rv.get e
    rw [hv] at h1
    cases h1
    exact h2
  · intro h' tk t' k
    have hl : its.toArray.size = ns.length := by
      have h2 := rv.length
      rw [List.length_map] at h2
      rw [List.size_toArray, ← h2]
    rw [hl, preSum_ints _ (Nat.le_refl _), List.take_length]
    refine ⟨.int _, H, I.kept fun b o e => k b o (fun z => ?_) (Heap.get?_push_of_some _ e), ⟨_, rfl⟩, q⟩
    rw [List.mem_singleton.mp z] at e
    exact absurd (Heap.lt_size e) (Nat.lt_irrefl _)
theorem b_sum (hc : X.calm = true) : CallR X (.builtin "sum") (BIx X.K L fSum) := CallR.imp (CallR.or (cr_sum hc) (call_sumT hc)) fun xs H Q ⟨ν, q, ts, s, r, p⟩ => by
  unfold fSum at p
  split at p
  · rename_i t
    obtain ⟨x, rfl, rx⟩ := reps_1 r
    split at p
    · rename_i us hu
      split at p
      · rename_i ns hn
        obtain ⟨a, ys, rfl, h1, h2⟩ := seq_of s rx hu
        have e := intsT_vals h2 hn
        subst e
        rcases h1 with h1 | h1
        · exact .inl ⟨a, ns, rfl, h1, post_at p s (.int _)⟩
        · exact .inr ⟨a, ns, rfl, h1, post_at p s (.int _)⟩
      · exact p.elim
    · exact p.elim
  · exact p.elim
theorem b_tup : CallR X (.type "tuple") (BIx X.K L fTup) := CallR.imp SPF.call_tupleF fun xs H Q ⟨ν, q, ts, s, r, p⟩ => by
  unfold fTup at p
  split at p
  · rename_i t
    obtain ⟨x, rfl, rx⟩ := reps_1 r
    split at p
    · rename_i us hu
      cases t with
      | tup vs =>
        cases hu
        obtain ⟨a, ys, rfl, h1, h2⟩ := tup_of rx
        exact ⟨a, ys, rfl, .inr ⟨h1, post_at p s rx⟩⟩
      | _ =>
        obtain ⟨a, ys, rfl, h1, h2⟩ := lst_of s rx hu
        exact ⟨a, ys, rfl, .inl ⟨.inl (.inl h1), fun l o hd hl => by
          obtain ⟨n, rr⟩ := new_tup s hd hl h2
          exact post_new p s n rr⟩⟩
    · exact p.elim
  · exact p.elim
theorem b_lst (hc : X.calm = true) : CallR X (.type "list") (BNx X.K L fLst) := CallR.imp (CallR.or call_list_of (call_listD hc)) fun xs H Q ⟨ν, q, ts, s, r, p⟩ => by
  unfold fLst at p
  split at p
  · obtain ⟨x, rfl, rx⟩ := reps_1 r
    obtain ⟨a, ys, rfl, h1, h2⟩ := rep_fz rx
    exact .inl ⟨a, ys, rfl, .inl (h1 ν H (Tr.refl ν H)), fun l hl => PostN.here p s hl (.lst h2)⟩
  · rename_i t _
    obtain ⟨x, rfl, rx⟩ := reps_1 r
    split at p
    · rename_i us hu
      obtain ⟨a, ys, rfl, h1, h2⟩ := seq_of s rx hu
      exact .inl ⟨a, ys, rfl, h1, fun l hl => PostN.here p s hl (.lst h2)⟩
    · split at p
      · rename_i kvs hk
        obtain ⟨a, vs, rfl, h1, h2⟩ := dct_of s rx hk
        refine .inr ⟨a, vs, rfl, h1, fun l hl => PostN.here p s hl (.lst ?_)⟩
        have key : ∀ {ts : List (T × T)} {vs : List (Key × V)}, RepK X.K L ν H ts vs → Reps X.K L ν H (ts.map (·.1)) (vs.map fun kv => kV kv.1) := by
          intro ts vs h
          induction ts generalizing vs with
          | nil => cases h; exact .nil
          | cons p ts ih => cases h with | cons h r => exact .cons (key_rep _) (ih r)
        exact key h2
      · exact p.elim
  · exact p.elim
/-! ### parts -/
def sNoPart : TEnv → Store → R (Option Int) := fun _ q => .ok none q
def sPart (f : Sm) : TEnv → Store → R (Option Int) := fun ρ q => (f ρ q).bind fun t q' => match t with
  | .int i => .ok (some i) q'
  | _ => .stuck
def rdO (K : PySem.W.Frag) (L : Lx) (W : WX) (f : TEnv → Store → R (Option Int)) : TO := fun σ H Q => ∃ ν ρ q, SimQ K L ν q H ∧ EnvOk K L ν H ρ σ ∧ PostR K L W σ ν H (f ρ q) fun o _ H' => Q o H'
structure SO (L : Lx) (X : Cx) (e : Option Expr) (f : TEnv → Store → R (Option Int)) : Prop where
  po : ∀ W, Takes X W → PO X e (rdO X.K L W f)
theorem PO.imp {e : Option Expr} {t u : TO} (h : PO X e t) (i : ∀ σ H Q, u σ H Q → t σ H Q) : PO X e u := ⟨fun pins s σ H Q I x => h.run pins s σ H Q I (i σ H Q x)⟩
theorem so_none : SO L X none sNoPart := ⟨fun W tk => PO.imp po_none fun σ H Q ⟨ν, ρ, q, s, en, p⟩ => p.now s⟩
theorem so_some {e : Expr} {f : Sm} (h : SE L X e f) : SO L X (some e) (sPart f) := ⟨fun W tk => PO.imp (po_some (h.pe W tk)) fun σ H Q ⟨ν, ρ, q, s, en, p⟩ => by
  unfold sPart at p
  refine rdE_of s en p fun t v q' ν' H' f s' en' r p' => ?_
  cases t with
  | int i => cases r; exact ⟨i, rfl, p'.now s'⟩
  | _ => exact p'.elim⟩
def cutT (ts : List T) (lo hi : Option Int) : List T := (ts.drop (HT.sIx ts.length 0 lo)).take (HT.sIx ts.length ts.length hi - HT.sIx ts.length 0 lo)
open Classical in
noncomputable def fCut (t : T) (lo hi : Option Int) (q : Store) : R T := match t with
  | .str z => if z.length ≤ sizeLine then .ok (.str (cutS z lo hi)) q else .stuck
  | .tup ts => .ok (.tup (cutT ts lo hi)) q
  | .fz ts => .ok (.lst (cutT ts lo hi)) q
  | t => match lstAt q t with
    | some ts => .ok (.lst (cutT ts lo hi)) q
    | none => .stuck
noncomputable def sSl (f : Sm) (fl fh : TEnv → Store → R (Option Int)) : Sm := fun ρ q => (f ρ q).bind fun t q1 => (fl ρ q1).bind fun lo q2 => (fh ρ q2).bind fun hi q3 => fCut t lo hi q3
theorem cut_reps {K : PySem.W.Frag} {ν : Nu} {H : Hp} {ts : List T} {xs : List V} (r : Reps K L ν H ts xs) (lo hi : Option Int) : Reps K L ν H (cutT ts lo hi) (cutV xs lo hi) := by
  unfold cutT cutV
  rw [← r.length]
  exact (r.drop _).take _
theorem cut_all (ts : List T) (lo hi : Option Int) (h : HT.sIx ts.length 0 lo = 0 ∧ HT.sIx ts.length ts.length hi = ts.length) : cutT ts lo hi = ts := by
  unfold cutT
  rw [h.1, h.2, List.drop_zero, Nat.sub_zero, List.take_length]
theorem rdO_of {K : PySem.W.Frag} {W : WX} {σ : L2.St} {H : Hp} {α : Type} {f : TEnv → Store → R (Option Int)} {k : Option Int → Store → R α} {P : α → Nu → Hp → Prop} {Q : Option Int → Hp → Prop} {ν : Nu} {ρ : TEnv} {q : Store} (s : SimQ K L ν q H) (en : EnvOk K L ν H ρ σ) (p : PostR K L W σ ν H ((f ρ q).bind k) P)
    (hQ : ∀ o q' ν' H', Fut ν H ν' H' → SimQ K L ν' q' H' → EnvOk K L ν' H' ρ σ → PostR K L W σ ν' H' (k o q') P → Q o H') : rdO K L W f σ H Q := by
  refine ⟨ν, ρ, q, s, en, PostR.bind1 p fun a q' ν' H' _ f s' p' => hQ a q' ν' H' f s' (en.fut f) p'⟩
theorem se_slice {e : Expr} {lo hi : Option Expr} {f : Sm} {fl fh : TEnv → Store → R (Option Int)} {p2 pos : Pos} (he : SE L X e f) (hl : SO L X lo fl) (hh : SO L X hi fh) : SE L X (.Subscript e (.Slice lo hi none p2) pos) (sSl f fl fh) := by
  refine ⟨fun W tk => PE.imp (pe_slice (SlR.or (SlR.or sl_list SPF.sl_tupF) sl_str) (he.pe W tk) (hl.po W tk) (hh.po W tk)) fun σ H Q ⟨ν, ρ, q, s, en, p⟩ => ?_⟩
  unfold sSl at p
  rw [postE_iff] at p
  refine rdE_of s en p fun t v q1 ν1 H1 f1 s1 en1 r1 p1 => ?_
  refine rdO_of s1 en1 p1 fun a q2 ν2 H2 f2 s2 en2 p2 => ?_
  refine rdO_of s2 en2 p2 fun b q3 ν3 H3 f3 s3 en3 p3 => ?_
  have r3 := r1.fut (f2.trans f3)
  have p3 := postE_iff.mpr p3
  cases t with
  | str z =>
    cases r3
    unfold fCut at p3
    simp only at p3
    split at p3
    · rename_i hz
      exact .inr ⟨z, rfl, hz, post_at p3 s3 (.str _)⟩
    · exact p3.elim
  | tup ts =>
    obtain ⟨a', xs, rfl, h1, h2⟩ := tup_of r3
    have p3 : PostE X.K L W σ ν3 H3 (.ok (.tup (cutT ts a b)) q3) Q := p3
    refine .inl (.inr ⟨a', xs, rfl, h1, fun w => ?_, fun w p o hd hp => ?_⟩)
    · rw [← h2.length] at w
      rw [cut_all ts a b w] at p3
      exact post_at p3 s3 r3
    · obtain ⟨n, rr⟩ := new_tup s3 hd hp (cut_reps h2 a b)
      exact post_new p3 s3 n rr
  | fz ts =>
    obtain ⟨a', xs, rfl, h1, h2⟩ := rep_fz r3
    have p3 : PostE X.K L W σ ν3 H3 (.ok (.lst (cutT ts a b)) q3) Q := p3
    refine .inl (.inl ⟨a', xs, rfl, h1 ν3 H3 (Tr.refl _ _), fun p hp => ?_⟩)
    obtain ⟨n, rr⟩ := new_lst s3 hp (cut_reps h2 a b)
    exact post_new p3 s3 n rr
  | _ =>
    unfold fCut at p3
    simp only at p3
    split at p3
    · rename_i ts hts
      obtain ⟨a', xs, rfl, h1, h2⟩ := lst_of s3 r3 hts
      refine .inl (.inl ⟨a', xs, rfl, .inl (.inl h1), fun p hp => ?_⟩)
      obtain ⟨n, rr⟩ := new_lst s3 hp (cut_reps h2 a b)
      exact post_new p3 s3 n rr
    · exact p3.elim
end
end SP

namespace SP
open PySem PySem.Spec PyProof.Rows L2 SeqAt
/-! ### methods of lists -/
def sBM (F : FS) (fo : Sm) (fa : Sa) : Sm := fun ρ q => (fo ρ q).bind fun t q1 => match lstAt q1 t with
  | some _ => (fa ρ q1).bind fun ts q2 => F (t :: ts) q2
  | none => .stuck
def BMx (K : PySem.W.Frag) (L : Lx) (F : FS) : V → List V → Hp → VK → Prop := fun x xs H Q => ∃ ν q t ts, SimQ K L ν q H ∧ Rep K L ν H t x ∧ Reps K L ν H ts xs ∧ PostE K L (fun _ _ _ _ => False) [] ν H (F (t :: ts) q) Q
theorem _root_.L2.MtR.imp {X : Cx} {id : String} {r r' : V → List V → Hp → VK → Prop} (h : MtR X id r) (i : ∀ x xs H Q, r' x xs H Q → r x xs H Q) : MtR X id r' := fun pins s σ H x xs v us Q I rx rv q => h pins s σ H x xs v us Q I rx rv (i x xs H Q q)
theorem _root_.L2.MtR.or2 {X : Cx} {id : String} {r r' : V → List V → Hp → VK → Prop} (h : MtR X id r) (h' : MtR X id r') : MtR X id (fun x xs H Q => r x xs H Q ∨ r' x xs H Q) := fun pins s σ H x xs v us Q I rx rv q => q.elim (fun q => h pins s σ H x xs v us Q I rx rv q) fun q => h' pins s σ H x xs v us Q I rx rv q
section
variable {L : Lx} {X : Cx} {o e : Expr} {es : List Expr} {fo : Sm} {fa : Sa} {F : FS} {name : Str} {id : String} {apos cpos : Pos}
theorem bm_rd {K : PySem.W.Frag} {W : WX} {σ : L2.St} {H : Hp} {Q : VK} (nx : NoX F) (q : rdE K L W (sBM F fo fa) σ H Q) : tBM K "list" (BMx K L F) (rdE K L W fo) (rdA K L W fa) σ H Q := by
  obtain ⟨ν, ρ, q, s, en, p⟩ := q
  unfold sBM at p
  rw [postE_iff] at p
  refine rdE_of s en p fun t v q1 ν1 H1 f1 s1 en1 r1 p1 => ?_
  split at p1
  · rename_i us hu
    obtain ⟨a, ys, rfl, h1, h2⟩ := lst_of s1 r1 hu
    refine ⟨.inl ⟨rfl, ys, .inl (.inl h1)⟩, ν1, ρ, q1, s1, en1, ?_⟩
    cases e : fa ρ q1 with
    | ok ts q' =>
      rw [e, bind_ok] at p1
      intro ν' H' f s' vs r
      refine ⟨ν', q', t, ts, s', r1.fut f, r, ?_⟩
      have p := postE_iff.mpr (PostR.fut f p1)
      cases e2 : F (t :: ts) q' with
      | ok t q2 => rw [e2] at p; exact p
      | exc c fs q2 => exact absurd e2 (nx _ _ _ _ _)
      | stuck => rw [e2] at p; exact p
    | exc c fs q' => rw [e] at p1; exact p1
    | stuck => rw [e] at p1; exact p1
  · exact p1.elim
theorem se_bm (slot : Slot "list" name id) (hty : typeOf (.builtin id) = pure (.type "method_descriptor")) (hm : MtR X id (BMx X.K L F)) (nx : NoX F) (ho : SE L X o fo) (ha : SA L X (e :: es) fa)
    (hbase : attributeBase o name X.env (eval o X.env) = eval o X.env := by rfl)
    (hfew : ((backTo cpos (starEach (e :: es) X.env)).all (fun x => !x.1) && (backToKw cpos (keywordEach [] X.env)).all (fun x => x.1.isSome)
      && decide ((e :: es).length + ([] : List Keyword).length + (if ([] : List Keyword).isEmpty then 0 else 1) < 30)) = true := by rfl)
    (hline : (apos.endLine == cpos.line) = true := by rfl) (hs : starEach (e :: es) X.env = (false, eval e X.env) :: starEach es X.env := by rfl) (hplain : (backTo cpos (starEach es X.env)).any (·.1) = false := by rfl) :
    SE L X (.Call (.Attribute o name apos) (e :: es) [] cpos) (sBM F fo fa) :=
  ⟨fun W tk => PE.imp (pe_bm PySem.F.plainAttrs_list slot hty hm (ho.pe W tk) (ha.pa W tk) hbase hfew hline hs hplain) fun σ H Q q => bm_rd nx q⟩
theorem se_bm0 (slot : Slot "list" name id) (hty : typeOf (.builtin id) = pure (.type "method_descriptor")) (hm : MtR X id (BMx X.K L F)) (nx : NoX F) (ho : SE L X o fo)
    (hbase : attributeBase o name X.env (eval o X.env) = eval o X.env := by rfl) (hline : (apos.endLine == cpos.line) = true := by rfl) : SE L X (.Call (.Attribute o name apos) [] [] cpos) (sBM F fo aNil) :=
  ⟨fun W tk => PE.imp (pe_bm0 PySem.F.plainAttrs_list slot hty hm (ho.pe W tk) hbase hline) fun σ H Q ⟨ν, ρ, q, s, en, p⟩ => by
    unfold sBM at p
    rw [postE_iff] at p
    refine rdE_of s en p fun t v q1 ν1 H1 f1 s1 en1 r1 p1 => ?_
    split at p1
    · rename_i us hu
      obtain ⟨a, ys, rfl, h1, h2⟩ := lst_of s1 r1 hu
      refine ⟨.inl ⟨rfl, ys, .inl (.inl h1)⟩, ν1, q1, t, [], s1, r1, .nil, ?_⟩
      have p := postE_iff.mpr p1
      unfold aNil at p
      rw [bind_ok] at p
      cases e2 : F [t] q1 with
      | ok t q2 => rw [e2] at p; exact p
      | exc c fs q2 => exact absurd e2 (nx _ _ _ _ _)
      | stuck => rw [e2] at p; exact p
    · exact p1.elim⟩
end
open Classical in
noncomputable def mAppend : FS := fun ts q => match ts with
  | [.obj n, u] => match cell q n with
    | some (.lst us) => if us.length < sizeLine then .ok .non (q.set n (some (.lst (us ++ [u])))) else .stuck
    | _ => .stuck
  | _ => .stuck
def mPop : FS := fun ts q => match ts with
  | [.obj n] => match cell q n with
    | some (.lst us) => match us[us.length - 1]? with
      | some u => .ok u (q.set n (some (.lst us.dropLast)))
      | none => .stuck
    | _ => .stuck
  | [.obj n, .int i] => match cell q n with
    | some (.lst us) => if -(2 ^ 63) ≤ i ∧ i < 2 ^ 63 then match seqIndex? i us.length with
      | some k => match us[k]? with
        | some u => .ok u (q.set n (some (.lst (us.eraseIdx k))))
        | none => .stuck
      | none => .stuck else .stuck
    | _ => .stuck
  | _ => .stuck
def mReverse : FS := fun ts q => match ts with
  | [.obj n] => match cell q n with
    | some (.lst us) => .ok .non (q.set n (some (.lst us.reverse)))
    | _ => .stuck
  | _ => .stuck
open Classical in
noncomputable def mInsert : FS := fun ts q => match ts with
  | [.obj n, .int i, u] => match cell q n with
    | some (.lst us) => if us.length < sizeLine ∧ 0 ≤ i ∧ i < 2 ^ 63 then .ok .non (q.set n (some (.lst (us.take i.toNat ++ [u] ++ us.drop i.toNat)))) else .stuck
    | _ => .stuck
  | _ => .stuck
section
variable {L : Lx} {X : Cx}
/-- a written object, and a value with it -/
theorem post_wr {K : PySem.W.Frag} {W : WX} {σ : L2.St} {ν : Nu} {H : Hp} {t c c' : T} {q : Store} {Q : VK} {n : Nat} {a : Addr} {o o' : HO} {v : V} (p : PostE K L W σ ν H (.ok t (q.set n (some c'))) Q) (s : SimQ K L ν q H) (h1 : ν.l[n]? = some (true, a)) (h2 : H a = some o) (r : CellRep K L ν H c o) (r' : CellRep K L ν H c' o') (rv : Rep K L ν H t v) : Q v (upd H a o') :=
  p ν _ v (Fut.write s h1) (s.write h1 h2 r r') (rv.fut (Fut.write s h1))
theorem m_append : MtR X "list.append" (BMx X.K L mAppend) := MtR.imp mt_append fun x xs H Q ⟨ν, q, t, ts, s, r, rs, p⟩ => by
  unfold mAppend at p
  split at p
  · rename_i n u hts
    cases hts
    obtain ⟨y, rfl, ry⟩ := reps_1 rs
    split at p
    · rename_i us hc
      split at p
      · rename_i hz
        obtain ⟨a, o, rfl, h1, h2, h3⟩ := s.obj_at r hc
        cases h3 with
        | lst rl => exact ⟨a, _, y, rfl, rfl, h2, by rw [← rl.length]; exact hz, post_wr p s h1 h2 (.lst rl) (.lst (rl.append (.one ry))) .non⟩
      · exact p.elim
    · exact p.elim
  · exact p.elim
theorem m_pop : MtR X "list.pop" (BMx X.K L mPop) := MtR.imp (MtR.or2 mt_pop mt_popAt) fun x xs H Q ⟨ν, q, t, ts, s, r, rs, p⟩ => by
  unfold mPop at p
  split at p
  · rename_i n hts
    cases hts
    cases rs
    split at p
    · rename_i us hc
      split at p
      · rename_i u hu
        obtain ⟨a, o, rfl, h1, h2, h3⟩ := s.obj_at r hc
        cases h3 with
        | lst rl =>
          obtain ⟨y, e1, e2⟩ := rl.get _ hu
          exact .inl ⟨a, _, y, rfl, rfl, h2, by rw [← rl.length]; exact e1, post_wr p s h1 h2 (.lst rl) (.lst rl.dropLast) e2⟩
      · exact p.elim
    · exact p.elim
  · rename_i n i hts
    cases hts
    obtain ⟨y, rfl, ry⟩ := reps_1 rs
    cases ry
    split at p
    · rename_i us hc
      split at p
      · rename_i hi
        split at p
        · rename_i k hk
          split at p
          · rename_i u hu
            obtain ⟨a, o, rfl, h1, h2, h3⟩ := s.obj_at r hc
            cases h3 with
            | lst rl =>
              obtain ⟨y, e1, e2⟩ := rl.get _ hu
              exact .inr ⟨a, _, i, k, y, rfl, rfl, h2, hi.1, hi.2, by rw [← rl.length]; exact hk, e1, post_wr p s h1 h2 (.lst rl) (.lst (rl.eraseIdx k)) e2⟩
          · exact p.elim
        · exact p.elim
      · exact p.elim
    · exact p.elim
  · exact p.elim
end
theorem nx_append : NoX mAppend := by
  intro ts q c fs q' h
  unfold mAppend at h
  repeat' split at h
  all_goals cases h
theorem nx_pop : NoX mPop := by
  intro ts q c fs q' h
  unfold mPop at h
  repeat' split at h
  all_goals cases h
/-! ### data: numbers, truth values, texts, tuples of these -/
mutual
def encT : T → PyData
  | .int i => .int i
  | .str s => .str s
  | .bl b => .bool b
  | .tup ts => .tuple (encTs ts)
  | _ => .none
def encTs : List T → List PyData
  | [] => []
  | t :: ts => encT t :: encTs ts
end
mutual
def datB : T → Bool
  | .int _ => true
  | .str _ => true
  | .bl _ => true
  | .tup ts => datsB ts
  | _ => false
def datsB : List T → Bool
  | [] => true
  | t :: ts => datB t && datsB ts
end
mutual
theorem dp_of {K : PySem.W.Frag} {L : Lx} {ν : Nu} {H : Hp} : ∀ {t : T} {v : V}, Rep K L ν H t v → datB t = true → Dp K H v (encT t)
  | _, _, .int i, _ => .int i
  | _, _, .str s, _ => .str s
  | _, _, .bl b, _ => .bl b
  | _, _, .tup z h _ r, d => by
    unfold encT
    exact .tup (.inl (.inr ⟨_, h⟩)) (dps_of r (by unfold datB at d; exact d))
  | _, _, .tupK h r, d => by
    unfold encT
    exact .tup (h.sqT H) (dps_of r (by unfold datB at d; exact d))
  | _, _, .non, d => by cases d
  | _, _, .lst _ _ _, d => by cases d
  | _, _, .fz _ _ _, d => by cases d
  | _, _, .fzK _ _, d => by cases d
  | _, _, .dctK _ _ _, d => by cases d
  | _, _, .dctT _ _ _ _, d => by cases d
  | _, _, .ins _ _ _ _, d => by cases d
  | _, _, .obj _, d => by cases d
theorem dps_of {K : PySem.W.Frag} {L : Lx} {ν : Nu} {H : Hp} : ∀ {t : List T} {v : List V}, Reps K L ν H t v → datsB t = true → DpAll K H v (encTs t)
  | _, _, .nil, _ => .nil
  | _, _, .cons h r, d => by
    unfold datsB at d
    rw [Bool.and_eq_true] at d
    unfold encTs
    exact .cons (dp_of h d.1) (dps_of r d.2)
end
mutual
theorem enc_inj : ∀ {t u : T}, datB t = true → datB u = true → encT t = encT u → t = u
  | .int i, u, _, d, e => by cases u <;> first | (unfold encT at e; cases e; rfl) | (unfold encT at e; cases e) | cases d
  | .str i, u, _, d, e => by cases u <;> first | (unfold encT at e; cases e; rfl) | (unfold encT at e; cases e) | cases d
  | .bl i, u, _, d, e => by cases u <;> first | (unfold encT at e; cases e; rfl) | (unfold encT at e; cases e) | cases d
  | .tup ts, u, c, d, e => by
    cases u with
    | tup us =>
      unfold encT at e
      unfold datB at c d
      injection e with e
      rw [encs_inj c d e]
    | int _ => unfold encT at e; cases e
    | str _ => unfold encT at e; cases e
    | bl _ => unfold encT at e; cases e
    | _ => cases d
  | .non, _, c, _, _ => by cases c
  | .lst _, _, c, _, _ => by cases c
  | .fz _, _, c, _, _ => by cases c
  | .dct _, _, c, _, _ => by cases c
  | .dcu _, _, c, _, _ => by cases c
  | .ins _ _, _, c, _, _ => by cases c
  | .obj _, _, c, _, _ => by cases c
theorem encs_inj : ∀ {t u : List T}, datsB t = true → datsB u = true → encTs t = encTs u → t = u
  | [], [], _, _, _ => rfl
  | [], _ :: _, _, _, e => by unfold encTs at e; cases e
  | _ :: _, [], _, _, e => by unfold encTs at e; cases e
  | t :: ts, u :: us, c, d, e => by
    unfold datsB at c d
    rw [Bool.and_eq_true] at c d
    unfold encTs at e
    injection e with e1 e2
    rw [enc_inj c.1 d.1 e1, encs_inj c.2 d.2 e2]
end
end SP

namespace SP
open PySem PySem.Spec PyProof.Rows L2 SeqAt
/-! ### the least, the greatest; in order -/
def ltD (t u : T) : Bool := PySem.W.dataLt (encT t) (encT u)
def leD (t u : T) : Bool := PySem.W.dataLe false encT t u
def minT (t : T) (ts : List T) : T := ts.foldl (fun a y => if ltD y a = true then y else a) t
def maxT (t : T) (ts : List T) : T := ts.foldl (fun a y => if ltD a y = true then y else a) t
def sortT (ts : List T) : List T := ts.mergeSort leD
/-- alike data of small depth -/
def DatOk (ts : List T) : Prop := ts.all datB = true ∧ (∀ t ∈ ts, ∀ u ∈ ts, PySem.W.alike (encT t) (encT u) = true) ∧ PyData.depthAll (encTs ts) ≤ 40
open Classical in
noncomputable def fMin : FS := fun ts q => match ts with
  | [t] => match seqAt q t with
    | some (x :: us) => if DatOk (x :: us) then .ok (minT x us) q else .stuck
    | _ => .stuck
  | _ => .stuck
open Classical in
noncomputable def fMax : FS := fun ts q => match ts with
  | [t] => match seqAt q t with
    | some (x :: us) => if DatOk (x :: us) then .ok (maxT x us) q else .stuck
    | _ => .stuck
  | _ => .stuck
/-- all tuples with an item, or none a tuple -/
def SrtOk (ts : List T) : Prop := (∀ t ∈ ts, ∃ x us, t = .tup (x :: us)) ∨ ∀ t ∈ ts, ∀ us, t ≠ .tup us
open Classical in
noncomputable def fSortL : FS := fun ts q => match ts with
  | [t] => match lstAt q t with
    | some us => if DatOk us ∧ SrtOk us ∧ us.length ≤ sizeLine then .ok (.lst (sortT us)) q else .stuck
    | _ => .stuck
  | _ => .stuck
section
variable {L : Lx} {X : Cx} {pins : List (Addr × Obj)} {σ : L2.St} {H : Hp} {s : Shared}
end
end SP

namespace SP
open PySem PySem.Spec PyProof.Rows L2 SeqAt
/-! ### dicts: of pairs, stores -/
def pairsT : List T → Option (List (T × T))
  | [] => some []
  | .tup [k, v] :: ts => match keyT k, pairsT ts with
    | some _, some r => some ((k, v) :: r)
    | _, _ => none
  | _ => none
def mergeT (more : List (T × T)) : List (T × T) := more.foldl (fun acc p => dput acc p.1 p.2) []
def fDict : FS := fun ts q => match ts with
  | [t] => match lstAt q t with
    | some us => match pairsT us with
      | some kvs => .ok (.dct (mergeT kvs)) q
      | none => .stuck
    | none => .stuck
  | _ => .stuck

open Classical in
noncomputable def xSubD (fo fi fv : Sm) : Ss := fun ρ q => (fv ρ q).to ρ fun u q1 => (fo ρ q1).to ρ fun t q2 => (fi ρ q2).to ρ fun i q3 => match t with
  | .obj n => match cell q3 n with
    | some (.dct kvs) => match keyT i with
      | some _ => if kvs.length < sizeLine then .nx ρ (q3.set n (some (.dct (dput kvs i u)))) else .stuck
      | none => .stuck
    | _ => .stuck
  | _ => .stuck
/-- the mutable object that slot i holds is written no more: told whole from now on -/
def xFrz (i : Nat) : Ss := fun ρ q => match ρ[i]? with
  | some (some (.obj n)) => match cell q n with
    | some c => .nx (ρ.set i (some c)) (q.set n none)
    | none => .stuck
  | _ => .stuck
section
variable {K : PySem.W.Frag} {L : Lx} {ν : Nu} {q : Store} {H : Hp}
theorem SimQ.frz {n : Nat} {c : T} (s : SimQ K L ν q H) (h : cell q n = some c) (hc : isCell c = true ∨ ∃ cl fs, c = .ins cl fs) : ∃ a, ν.l[n]? = some (true, a) ∧ SimQ K L ⟨ν.l.set n (false, a), ν.hid⟩ (q.set n none) H ∧ Fut ν H ⟨ν.l.set n (false, a), ν.hid⟩ H ∧ Rep K L ⟨ν.l.set n (false, a), ν.hid⟩ H c (.ref a) := by
  obtain ⟨a, o, h1, h2, h3⟩ := s.cells n c (cell_some h)
  have hn : n < ν.l.length := (List.getElem?_eq_some_iff.mp h1).1
  have sub : ∀ {b : Addr}, (true, b) ∈ ν.l.set n (false, a) → (true, b) ∈ ν.l ∧ b ≠ a := fun {b} m => by
    obtain ⟨i, hi, e⟩ := List.getElem_of_mem m
    have e1 : (ν.l.set n (false, a))[i]? = some (true, b) := by rw [List.getElem?_eq_getElem hi, e]
    rw [List.getElem?_set] at e1
    by_cases z : n = i
    · rw [if_pos z, if_pos hn] at e1; cases e1
    · rw [if_neg z] at e1
      exact ⟨List.mem_of_getElem? e1, fun w => z (s.inj n i a h1 (by rw [e1, w]))⟩
  have f : Fut ν H ⟨ν.l.set n (false, a), ν.hid⟩ H := ⟨⟨fun _ _ e _ _ _ => e, fun _ _ e _ => e, fun _ e => e, fun m b x e => by
    show ∃ b', (ν.l.set n (false, a))[m]? = some (b', x)
    rw [List.getElem?_set]
    by_cases z : n = m
    · subst z
      rw [h1] at e
      cases e
      exact ⟨false, by rw [if_pos rfl, if_pos hn]⟩
    · exact ⟨b, by rw [if_neg z]; exact e⟩, fun b z _ => ⟨fun m => z.1 (sub m).1, z.2⟩⟩, rfl, fun _ _ _ e _ => e⟩
  refine ⟨a, h1, ⟨?_, fun i d hd => ?_, fun i b hb => ?_, fun i j b hi hj => ?_, s.tabs, fun b m => ⟨(s.hidOk b m).1, fun z => (s.hidOk b m).2 (sub z).1⟩⟩, f, ?_⟩
  · show (ν.l.set n _).length = (q.set n none).length
    rw [List.length_set, List.length_set]; exact s.len
  · rw [List.getElem?_set] at hd
    by_cases z : n = i
    · rw [if_pos z] at hd
      split at hd <;> cases hd
    · rw [if_neg z] at hd
      obtain ⟨b, u, g1, g2, g3⟩ := s.cells i d hd
      exact ⟨b, u, by show (ν.l.set n _)[i]? = _; rw [List.getElem?_set, if_neg z]; exact g1, g2, g3.fut f⟩
  · have hb : (ν.l.set n (false, a))[i]? = some (true, b) := hb
    rw [List.getElem?_set] at hb
    by_cases z : n = i
    · rw [if_pos z, if_pos hn] at hb; cases hb
    · rw [if_neg z] at hb
      obtain ⟨d, hd⟩ := s.dead i b hb
      exact ⟨d, by rw [List.getElem?_set, if_neg z]; exact hd⟩
  · have hi : (ν.l.set n (false, a))[i]? = some (true, b) := hi
    have hj : (ν.l.set n (false, a))[j]? = some (true, b) := hj
    rw [List.getElem?_set] at hi hj
    by_cases z : n = i
    · rw [if_pos z, if_pos hn] at hi; cases hi
    · by_cases w : n = j
      · rw [if_pos w, if_pos hn] at hj; cases hj
      · rw [if_neg z] at hi
        rw [if_neg w] at hj
        exact s.inj i j b hi hj
  · have fz : Fz ⟨ν.l.set n (false, a), ν.hid⟩ a := ⟨fun m => (sub m).2 rfl, fun m => (s.hidOk a m).2 (List.mem_of_getElem? h1)⟩
    have r := h3.fut f
    rcases hc with hc | ⟨cl, fs, rfl⟩
    · exact r.rep fz h2 hc
    · cases r with
      | ins hcl rf => exact .ins fz h2 hcl rf
end
section
variable {L : Lx} {X : Cx}
end
/-! ### operators in place -/
def oAddI : Op2 := fun t u q => match t, u with
  | .int i, .int j => .ok (.int (i + j)) q
  | _, _ => .stuck
def oSubI : Op2 := fun t u q => match t, u with
  | .int i, .int j => .ok (.int (i - j)) q
  | _, _ => .stuck
end SP

namespace SP
open PySem PySem.Spec PyProof.Rows L2 SeqAt LamX GenW
/-! ### the operators, ready for use -/
theorem nx_oAdd : ∀ t u q c fs q', oAdd t u q ≠ .exc c fs q' := by
  intro t u q c fs q' h
  unfold oAdd at h
  repeat' split at h
  all_goals cases h
theorem nx_oSub : ∀ t u q c fs q', oSub t u q ≠ .exc c fs q' := by
  intro t u q c fs q' h
  unfold oSub at h
  repeat' split at h
  all_goals cases h
theorem nx_oMul : ∀ t u q c fs q', oMul t u q ≠ .exc c fs q' := by
  intro t u q c fs q' h
  unfold oMul at h
  repeat' split at h
  all_goals cases h
theorem nx_oDiv : ∀ t u q c fs q', oDiv t u q ≠ .exc c fs q' := by
  intro t u q c fs q' h
  unfold oDiv at h
  repeat' split at h
  all_goals cases h
theorem nx_oMod : ∀ t u q c fs q', oMod t u q ≠ .exc c fs q' := by
  intro t u q c fs q' h
  unfold oMod at h
  repeat' split at h
  all_goals cases h
theorem nx_oPow : ∀ t u q c fs q', oPow t u q ≠ .exc c fs q' := by
  intro t u q c fs q' h
  unfold oPow at h
  repeat' split at h
  all_goals cases h
theorem nx_oLt : ∀ t u q c fs q', oLt t u q ≠ .exc c fs q' := by
  intro t u q c fs q' h
  unfold oLt at h
  repeat' split at h
  all_goals cases h
theorem nx_oLe : ∀ t u q c fs q', oLe t u q ≠ .exc c fs q' := by
  intro t u q c fs q' h
  unfold oLe at h
  repeat' split at h
  all_goals cases h
theorem nx_oGt : ∀ t u q c fs q', oGt t u q ≠ .exc c fs q' := by
  intro t u q c fs q' h
  unfold oGt at h
  repeat' split at h
  all_goals cases h
theorem nx_oGe : ∀ t u q c fs q', oGe t u q ≠ .exc c fs q' := by
  intro t u q c fs q' h
  unfold oGe at h
  repeat' split at h
  all_goals cases h
theorem nx_oEq : ∀ t u q c fs q', oEq t u q ≠ .exc c fs q' := by
  intro t u q c fs q' h
  unfold oEq at h
  repeat' split at h
  all_goals cases h
theorem nx_oNe : ∀ t u q c fs q', oNe t u q ≠ .exc c fs q' := by
  intro t u q c fs q' h
  unfold oNe at h
  repeat' split at h
  all_goals cases h
theorem nx_oInA (neg : Bool) : ∀ t u q c fs q', oInA neg t u q ≠ .exc c fs q' := by
  intro t u q c fs q' h
  unfold oInA oIn at h
  repeat' split at h
  all_goals cases h
section
variable {L : Lx} {X : Cx} {a b c : Expr} {f g h : Sm} {pos : Pos}
theorem se_add (ha : SE L X a f) (hb : SE L X b g) : SE L X (.BinOp a .Add b pos) (sOp oAdd f g) := se_op os_add nx_oAdd ha hb
theorem se_sub (ha : SE L X a f) (hb : SE L X b g) : SE L X (.BinOp a .Sub b pos) (sOp oSub f g) := se_op os_sub nx_oSub ha hb
theorem se_mul (ha : SE L X a f) (hb : SE L X b g) : SE L X (.BinOp a .Mult b pos) (sOp oMul f g) := se_op os_mul nx_oMul ha hb
theorem se_fdiv (ha : SE L X a f) (hb : SE L X b g) : SE L X (.BinOp a .FloorDiv b pos) (sOp oDiv f g) := se_op os_div nx_oDiv ha hb
theorem se_mod (ha : SE L X a f) (hb : SE L X b g) : SE L X (.BinOp a .Mod b pos) (sOp oMod f g) := se_op os_mod nx_oMod ha hb
theorem se_pow (ha : SE L X a f) (hb : SE L X b g) : SE L X (.BinOp a .Pow b pos) (sOp oPow f g) := se_op os_pow nx_oPow ha hb
theorem se_lt (ha : SE L X a f) (hb : SE L X b g) : SE L X (.Compare a [.Lt] [b] pos) (sOp oLt f g) := se_cmp os_lt nx_oLt ha hb (nomark _)
theorem st_lt (ha : SE L X a f) (hb : SE L X b g) : ST L X (.Compare a [.Lt] [b] pos) (tBl (sOp oLt f g)) := st_cmp os_lt nx_oLt ha hb (nomark _)
theorem se_le (ha : SE L X a f) (hb : SE L X b g) : SE L X (.Compare a [.LtE] [b] pos) (sOp oLe f g) := se_cmp os_le nx_oLe ha hb (nomark _)
theorem st_gt (ha : SE L X a f) (hb : SE L X b g) : ST L X (.Compare a [.Gt] [b] pos) (tBl (sOp oGt f g)) := st_cmp os_gt nx_oGt ha hb (nomark _)
theorem se_ge (ha : SE L X a f) (hb : SE L X b g) : SE L X (.Compare a [.GtE] [b] pos) (sOp oGe f g) := se_cmp os_ge nx_oGe ha hb (nomark _)
theorem st_ge (ha : SE L X a f) (hb : SE L X b g) : ST L X (.Compare a [.GtE] [b] pos) (tBl (sOp oGe f g)) := st_cmp os_ge nx_oGe ha hb (nomark _)
theorem se_eq (hu : X.A.units + 64 < cLine) (ha : SE L X a f) (hb : SE L X b g) : SE L X (.Compare a [.Eq] [b] pos) (sOp oEq f g) := se_cmp (os_eq hu) nx_oEq ha hb (nomark _)
theorem st_eq (hu : X.A.units + 64 < cLine) (ha : SE L X a f) (hb : SE L X b g) : ST L X (.Compare a [.Eq] [b] pos) (tBl (sOp oEq f g)) := st_cmp (os_eq hu) nx_oEq ha hb (nomark _)
theorem st_ne (hu : X.A.units + 64 < cLine) (ha : SE L X a f) (hb : SE L X b g) : ST L X (.Compare a [.NotEq] [b] pos) (tBl (sOp oNe f g)) := st_cmp (os_ne hu) nx_oNe ha hb (nomark _)
theorem st_nin (hu : X.A.units + 64 < cLine) (ha : SE L X a f) (hb : SE L X b g) (hm : behindInMarks .NotIn b = false := by with_unfolding_all rfl) : ST L X (.Compare a [.NotIn] [b] pos) (tBl (sOp (oInA true) f g)) := st_cmp (os_notinA hu) (nx_oInA _) ha hb hm
end
/-! ### the defs of a text -/
/-- a def of the text keeps its promise -/
structure Dk (P : Program) (w : World) (K : PySem.W.Frag) (mg : Str → Option Value) (base : Heap) (L : Lx) (p : He.Defn) (k : Nat) (ps : List Str) (F : FS) : Prop where
  ex : ∃ fd, FnOk P w K mg base (CX P w) k (He.fAd K p) fd ps (spS K L ps.length F) ∧ Binds K fd ps []
  kp : PySem.W.keepIn K (.ref (He.fAd K p)) = true
theorem Dk.mono {P : Program} {w : World} {K : PySem.W.Frag} {mg : Str → Option Value} {base : Heap} {L : Lx} {p : He.Defn} {j k : Nat} {ps : List Str} {F : FS} (d : Dk P w K mg base L p j ps F) (h : j ≤ k) : Dk P w K mg base L p k ps F := by
  obtain ⟨⟨fd, h1, h2⟩, h3⟩ := d
  exact ⟨⟨fd, h1.mono h, h2⟩, h3⟩
section
variable {L : Lx} {X : Cx} {k n : Nat} {ps : List Str} {F : FS} {x m c : Str} {p pos apos : Pos} {e o : Expr} {es : List Expr} {fa : Sa} {fo : Sm}
theorem se_callD (D : Dk X.prog X.w X.K X.mg X.base L (x, none) k ps F) (hr : Room k X.A) (hg : Gl X x) (hm : X.mg x = some (.ref (He.ga X.K x))) (ha : SA L X (e :: es) fa) (ar : ArN fa n) (hn : ps.length = n := by rfl)
    (hdb : (x == ("__debug__" : Str)) = false := by decide) (he : starEach (e :: es) X.env = (false, eval e X.env) :: starEach es X.env := by rfl) (hpl : (backTo pos (starEach es X.env)).any (·.1) = false := by rfl) :
    SE L X (.Call (.Name x p) (e :: es) [] pos) (sCall F fa) := by
  obtain ⟨⟨fd, h1, h2⟩, h3⟩ := D
  rw [hn] at h1
  exact se_call h1 hr hg hm h3 h2 ha ar hdb he hpl
theorem se_methD {pl : Sem Bool} (D : Dk X.prog X.w X.K X.mg X.base L (c, some m) k ps F) (hC : L.cl c = some (He.ga X.K c)) (cl : Cls X.K (He.ga X.K c)) (hm : Meth X.K (He.ga X.K c) m (He.ma X.K (He.ga X.K c) m)) (hr : Room k X.A) (he' : SE L X o fo) (ha : SA L X (e :: es) fa) (ar : ArN fa n) (hn : ps.length = n + 1 := by rfl)
    (hst : starEach (e :: es) X.env = (false, eval e X.env) :: starEach es X.env := by rfl) (hpl : (backTo pos (starEach es X.env)).any (·.1) = false := by rfl)
    (ht : eval (.Call (.Attribute o m apos) (e :: es) [] pos) X.env = (do
      let ov ← eval o X.env
      standAt apos.atName
      let (f, first) ← holding [ov] (getMethod ov m pl)
      callWith pos f first (backTo pos (starEach (e :: es) X.env)) (backToKw pos (keywordEach [] X.env))) := by rfl) :
    SE L X (.Call (.Attribute o m apos) (e :: es) [] pos) (sMeth c m F fo fa) := by
  obtain ⟨⟨fd, h1, h2⟩, h3⟩ := D
  rw [hn] at h1
  exact se_meth hC he' cl hm h1 hr h2 ha ar hst hpl ht
theorem se_methD0 {pl : Sem Bool} (D : Dk X.prog X.w X.K X.mg X.base L (c, some m) k ps F) (hC : L.cl c = some (He.ga X.K c)) (cl : Cls X.K (He.ga X.K c)) (hm : Meth X.K (He.ga X.K c) m (He.ma X.K (He.ga X.K c) m)) (hr : Room k X.A) (he' : SE L X o fo) (hn : ps.length = 1 := by rfl)
    (ht : eval (.Call (.Attribute o m apos) [] [] pos) X.env = (do
      let ov ← eval o X.env
      standAt apos.atName
      let (f, first) ← holding [ov] (getMethod ov m pl)
      callWith pos f first (backTo pos (starEach [] X.env)) (backToKw pos (keywordEach [] X.env))) := by rfl) :
    SE L X (.Call (.Attribute o m apos) [] [] pos) (sMeth c m F fo aNil) := by
  obtain ⟨⟨fd, h1, h2⟩, h3⟩ := D
  rw [hn] at h1
  exact se_meth0 hC he' cl hm h1 hr h2 ht
theorem se_makeD (D : Dk X.prog X.w X.K X.mg X.base L (x, some "__init__") k ps F) (hC : L.cl x = some (He.ga X.K x)) (M : Mk X.K (He.ga X.K x) (He.ma X.K (He.ga X.K x) "__init__")) (hr : Room (k + 1) X.A) (hg : Gl X x) (hm : X.mg x = some (.ref (He.ga X.K x))) (ha : SA L X (e :: es) fa) (ar : ArN fa n) (hn : ps.length = n + 1 := by rfl)
    (hdb : (x == ("__debug__" : Str)) = false := by decide) (he : starEach (e :: es) X.env = (false, eval e X.env) :: starEach es X.env := by rfl) (hpl : (backTo pos (starEach es X.env)).any (·.1) = false := by rfl) :
    SE L X (.Call (.Name x p) (e :: es) [] pos) (sMake x F fa) := by
  obtain ⟨⟨fd, h1, h2⟩, h3⟩ := D
  rw [hn] at h1
  exact se_make hC M h1 hr hg hm h2 ha ar hdb he hpl
theorem se_makeD0 (D : Dk X.prog X.w X.K X.mg X.base L (x, some "__init__") k ps F) (hC : L.cl x = some (He.ga X.K x)) (M : Mk X.K (He.ga X.K x) (He.ma X.K (He.ga X.K x) "__init__")) (hr : Room (k + 1) X.A) (hg : Gl X x) (hm : X.mg x = some (.ref (He.ga X.K x))) (hn : ps.length = 1 := by rfl)
    (hdb : (x == ("__debug__" : Str)) = false := by decide) : SE L X (.Call (.Name x p) [] [] pos) (sMake x F aNil) := by
  obtain ⟨⟨fd, h1, h2⟩, h3⟩ := D
  rw [hn] at h1
  exact se_make0 hC M h1 hr hg hm h2 hdb
end
/-- a def by its body -/
theorem Dk.of {P : Program} {w : World} {K : PySem.W.Frag} {mg : Str → Option Value} {base : Heap} {L : Lx} {p : He.Defn} {k : Nat} {N ps : List Str} {name qual : Str} {params : Arguments} {body : List Stmt} {scope : Scope} {fd : FuncData} {fb : Ss} (F : FunD K name qual params body scope [] [] (He.fAd K p) fd) (S : FnScope N ps scope)
    (hb : ∀ (kV doc pm : Value) (an : Option Addr) (cdv ct : Value) (us : List Value), us.length = ps.length → bindArgs (PySem.W.fnOf name qual params body scope .none kV doc pm an cdv ct) ⟨us, []⟩ = pure (ps.zip us))
    (hbody : ∀ (A : Around) (outer : List Env) (s : Shared) (H : Hp) (E : XK) (cdv : Value), cdv = .ref (He.codeOf K p) → Room k (A.deeper (envOfC qual scope s.heap.objs.size (He.fAd K p) cdv)) → SSs L (cxOf (CX P w) P w K mg base N qual scope (He.fAd K p) cdv A outer s H E) body fb) :
    Dk P w K mg base L p (k + 1) ps (runK N.length fb) := by
  have bd := F.bindsN hb
  obtain ⟨oc, od, dV, kV, doc, pm, an, cdv, ct, osl, rfl, lk, hcd, _, _⟩ := id F.ex
  obtain ⟨c, rfl⟩ := He.codeIn_ref hcd
  have ec : c = He.codeOf K p := (He.codeOf_eq lk rfl).symm
  exact ⟨⟨_, fnS_of lk hcd S fun A outer s H E hr => hbody A outer s H E _ (by rw [ec]) hr, bd⟩, F.kp⟩
theorem Dk.close {P : Program} {w : World} {K : PySem.W.Frag} {mg : Str → Option Value} {base : Heap} {L : Lx} {p : He.Defn} {k m : Nat} {ps : List Str} {fb : Ss} (d : Dk P w K mg base L p k ps (runK m fb)) : Dk P w K mg base L p k ps (runC m fb) := by
  obtain ⟨⟨fd, h1, h2⟩, h3⟩ := d
  exact ⟨⟨fd, h1.imp fun vs H Q E ⟨hl, ν, q, ts, sim, r, p⟩ => ⟨hl, ν, q, ts, sim, r, close_post sim p⟩, h2⟩, h3⟩
theorem Dk.stuck {P : Program} {w : World} {K : PySem.W.Frag} {mg : Str → Option Value} {base : Heap} {L : Lx} {p : He.Defn} {k : Nat} {N ps : List Str} {name qual : Str} {params : Arguments} {body : List Stmt} {scope : Scope} {fd : FuncData} (F : FunD K name qual params body scope [] [] (He.fAd K p) fd)
    (hb : ∀ (kV doc pm : Value) (an : Option Addr) (cdv ct : Value) (us : List Value), us.length = ps.length → bindArgs (PySem.W.fnOf name qual params body scope .none kV doc pm an cdv ct) ⟨us, []⟩ = pure (ps.zip us)) :
    Dk P w K mg base L p k ps (fun _ _ => .stuck) :=
  ⟨⟨fd, ⟨fun vs H Q E h => h.1, fun A outer s H args us vs Q E _ _ _ _ h => by obtain ⟨_, ν, q, ts, _, _, z⟩ := h; exact z.elim⟩, F.bindsN hb⟩, F.kp⟩
/-! ### a def's table -/
theorem ctab_of {X : Cx} {T : List NdefX.NTab} {pos : Pos} {name : Str} {p : He.Defn} {nm : Nat → Nat → Str} (tb : TabB X.base X.mg (He.cT X.K p).1 (He.cT X.K p).2) (hc : X.env.code = .ref (He.codeOf X.K p)) (hm : ((He.cT X.K p).2, nm) ∈ T) (hn : nm pos.line pos.col = X.env.qual ++ name) (hu : ∀ q ∈ T, q.1 = (He.cT X.K p).2 → q.2 = nm) : CTab X T pos name :=
  ⟨⟨_, _, nm, tb, hc, hm, hn, hu⟩⟩
end SP
namespace SP
open PySem PySem.Spec PyProof.Rows L2 SeqAt LamX GenW
/-! ### what is looked up of a text -/
/-! ### constants of the module -/
mutual
def konB (K : PySem.W.Frag) : T → Value → Bool
  | .int i, .int j _ => decide (i = j)
  | .str x, .str y _ => decide (x = y)
  | .tup ts, .ref a => match K.lookup a with
    | some o => decide (o.cls = .type "tuple") && decide (o.dict = none) && match o.data with
      | .seq its _ => decide (its.size ≤ sizeLine) && konsB K ts its.toList
      | _ => false
    | none => false
  | _, _ => false
def konsB (K : PySem.W.Frag) : List T → List Value → Bool
  | [], [] => true
  | t :: ts, v :: vs => konB K t v && konsB K ts vs
  | _, _ => false
end
mutual
theorem kon_rep {K : PySem.W.Frag} {L : Lx} : ∀ (t : T) (u : Value), konB K t u = true → ∃ v, RelV v u ∧ ∀ ν H, Rep K L ν H t v
  | .int i, u, h => by
    cases u <;> first | (unfold konB at h; cases h; done) | skip
    rename_i j tk
    unfold konB at h
    obtain rfl := of_decide_eq_true h
    exact ⟨.int i, ⟨_, rfl⟩, fun ν H => .int i⟩
  | .str x, u, h => by
    cases u <;> first | (unfold konB at h; cases h; done) | skip
    unfold konB at h
    obtain rfl := of_decide_eq_true h
    exact ⟨.str x, ⟨_, rfl⟩, fun ν H => .str x⟩
  | .tup ts, u, h => by
    cases u <;> first | (unfold konB at h; cases h; done) | skip
    rename_i a
    unfold konB at h
    split at h
    · rename_i o ho
      rw [Bool.and_eq_true, Bool.and_eq_true, decide_eq_true_eq, decide_eq_true_eq] at h
      obtain ⟨⟨h1, h2⟩, h3⟩ := h
      split at h3
      · rename_i its n hd
        rw [Bool.and_eq_true, decide_eq_true_eq] at h3
        obtain ⟨xs, e1, e2⟩ := kons_reps (L := L) ts its.toList h3.2
        exact ⟨.ref a, rfl, fun ν H => .tupK ⟨o, its, n, ho, h1, h2, hd, h3.1, e1⟩ (e2 ν H)⟩
      · cases h3
    · cases h
  | .non, u, h => by cases u <;> (unfold konB at h; cases h)
  | .bl _, u, h => by cases u <;> (unfold konB at h; cases h)
  | .lst _, u, h => by cases u <;> (unfold konB at h; cases h)
  | .dct _, u, h => by cases u <;> (unfold konB at h; cases h)
  | .dcu _, u, h => by cases u <;> (unfold konB at h; cases h)
  | .ins _ _, u, h => by cases u <;> (unfold konB at h; cases h)
  | .obj _, u, h => by cases u <;> (unfold konB at h; cases h)
  | .fz _, u, h => by cases u <;> (unfold konB at h; cases h)
theorem kons_reps {K : PySem.W.Frag} {L : Lx} : ∀ (ts : List T) (us : List Value), konsB K ts us = true → ∃ xs, Vals xs us ∧ ∀ ν H, Reps K L ν H ts xs
  | [], us, h => by
    cases us with
    | nil => exact ⟨[], .nil, fun _ _ => .nil⟩
    | cons a r => unfold konsB at h; cases h
  | t :: ts, us, h => by
    cases us with
    | nil => unfold konsB at h; cases h
    | cons u us =>
      unfold konsB at h
      rw [Bool.and_eq_true] at h
      obtain ⟨v, e1, e2⟩ := kon_rep (L := L) t u h.1
      obtain ⟨xs, e3, e4⟩ := kons_reps (L := L) ts us h.2
      exact ⟨v :: xs, .cons e1 e3, fun ν H => .cons (e2 ν H) (e4 ν H)⟩
end
theorem se_kon {L : Lx} {X : Cx} {x : Str} {t : T} {a : Addr} {pos : Pos} (hg : Gl X x) (hm : X.mg x = some (.ref a)) (hk : konB X.K t (.ref a) = true) (hdb : (x == ("__debug__" : Str)) = false := by decide) : SE L X (.Name x pos) (sC t) := by
  obtain ⟨v, e1, e2⟩ := kon_rep (L := L) t _ hk
  exact ⟨fun W tk => ⟨fun pins s σ H Q I ⟨ν, ρ, q, sq, en, p⟩ => ld_glob I hg hm ⟨v, H, I, e1, post_ok p sq (e2 ν H)⟩ hdb⟩⟩
structure Txt where
  glos : List Str
  frees : List Str
  clss : List Str
  mks : List Str
  flds : List Str
  meths : List (Str × Str)
  excs : List Str
  rais : List Str
  fn : List He.DefD
  tf : List (He.Defn × (Nat → Nat → Str))
  kons : List (Str × T) := []
  eqs : List Str := []
def Txt.cls (t : Txt) : List Str := t.clss ++ t.excs
def Txt.fa (t : Txt) : List He.Fa := t.glos.map .glo ++ (t.frees.map .free ++ (t.clss.map .cls ++ (t.mks.map .mkr ++ ((t.clss.flatMap fun c => t.flds.map fun f => .noat c f) ++ (t.meths.map (fun p => .meth p.1 p.2) ++ (t.rais.map .exc ++ t.cls.flatMap fun x => t.excs.map fun y => .exm x y (decide (x = y))))))))
def Txt.defns (t : Txt) : List He.Defn := t.tf.map (·.1)
def Txt.L (t : Txt) (K : PySem.W.Frag) (pw : Program × World) : Lx := ⟨fun c => if t.cls.contains c = true then some (He.ga K c) else none, t.tf.map fun p => ((He.cT K p.1).2, p.2), pw⟩
/-- a class without an __eq__ of its own -/
def eqB (K : PySem.W.Frag) (C : Addr) : Bool := He.eqO (PySem.W.findIn K (.ref C) "__eq__") (some (some (.builtin "object.__eq__"))) && (decide (PySem.W.mroIn K C (.type "object") = some true) && decide (PySem.W.subIn K (.ref C) (.type "str") = some false))
def Txt.ex (t : Txt) (K : PySem.W.Frag) : Bool := decide ((t.tf.map fun p => (He.cT K p.1).2).Nodup) && (t.kons.all (fun p => konB K p.2 (.ref (He.ga K p.1))) && t.eqs.all fun x => eqB K (He.ga K x))
structure Ev (t : Txt) (K : PySem.W.Frag) (mg : Str → Option Value) (base : Heap) : Prop where
  at_ : ∃ h : Heap, K.In h ∧ h.Ns mainGlobals mg
  sd : He.SaysD t.fa t.fn K
  tb : ∀ p ∈ t.defns, TabB base mg (He.cT K p).1 (He.cT K p).2
  nd : (t.tf.map fun p => (He.cT K p.1).2).Nodup
  kn : ∀ p ∈ t.kons, konB K p.2 (.ref (He.ga K p.1)) = true
  eq : ∀ x ∈ t.eqs, eqB K (He.ga K x) = true
section
variable {t : Txt} {K : PySem.W.Frag} {mg : Str → Option Value} {base : Heap} {X : Cx} {pw : Program × World}
theorem Ev.glo (E : Ev t K mg base) (x : Str) (h : t.glos.contains x = true) : mg x = some (.ref (He.ga K x)) := by
  obtain ⟨hp, k, n⟩ := E.at_
  exact He.glo_ok k n (E.sd.facts (List.mem_append_left _ (List.mem_map.mpr ⟨x, by simpa using h, rfl⟩)))
theorem Ev.free (E : Ev t K mg base) (x : Str) (h : t.frees.contains x = true) : mg x = none := by
  obtain ⟨hp, k, n⟩ := E.at_
  exact He.free_ok k n (E.sd.facts (List.mem_append_right _ (List.mem_append_left _ (List.mem_map.mpr ⟨x, by simpa using h, rfl⟩))))
theorem Ev.clsok (E : Ev t K mg base) (x : Str) (h : t.clss.contains x = true) : Cls K (He.ga K x) :=
  He.cls_ok (E.sd.facts (List.mem_append_right _ (List.mem_append_right _ (List.mem_append_left _ (List.mem_map.mpr ⟨x, by simpa using h, rfl⟩)))))
theorem Ev.mkx (E : Ev t K mg base) (x : Str) (h : t.mks.contains x = true) : Mk K (He.ga K x) (He.ma K (He.ga K x) "__init__") :=
  He.mkr_ok (E.sd.facts (List.mem_append_right _ (List.mem_append_right _ (List.mem_append_right _ (List.mem_append_left _ (List.mem_map.mpr ⟨x, by simpa using h, rfl⟩))))))
theorem Ev.noat (E : Ev t K mg base) (x f : Str) (h : t.clss.contains x = true) (hf : t.flds.contains f = true) : NoAttr K (He.ga K x) f :=
  He.noat_ok (E.sd.facts (List.mem_append_right _ (List.mem_append_right _ (List.mem_append_right _ (List.mem_append_right _ (List.mem_append_left _ (List.mem_flatMap.mpr ⟨x, by simpa using h, List.mem_map.mpr ⟨f, by simpa using hf, rfl⟩⟩)))))))
theorem Ev.meth (E : Ev t K mg base) (c m : Str) (h : t.meths.contains (c, m) = true) : Meth K (He.ga K c) m (He.ma K (He.ga K c) m) :=
  He.meth_ok (E.sd.facts (List.mem_append_right _ (List.mem_append_right _ (List.mem_append_right _ (List.mem_append_right _ (List.mem_append_right _ (List.mem_append_left _ (List.mem_map.mpr ⟨(c, m), by simpa using h, rfl⟩))))))))
theorem Ev.exc (E : Ev t K mg base) (x : Str) (h : t.rais.contains x = true) : (He.Fa.exc x).ok K = true :=
  E.sd.facts (List.mem_append_right _ (List.mem_append_right _ (List.mem_append_right _ (List.mem_append_right _ (List.mem_append_right _ (List.mem_append_right _ (List.mem_append_left _ (List.mem_map.mpr ⟨x, by simpa using h, rfl⟩))))))))
theorem Ev.exm (E : Ev t K mg base) (x y : Str) (h : t.cls.contains x = true) (hy : t.excs.contains y = true) : PySem.W.exmOne K (.ref (He.ga K x)) (.ref (He.ga K y)) = some (decide (x = y)) :=
  He.exm_ok (E.sd.facts (List.mem_append_right _ (List.mem_append_right _ (List.mem_append_right _ (List.mem_append_right _ (List.mem_append_right _ (List.mem_append_right _ (List.mem_append_right _ (List.mem_flatMap.mpr ⟨x, by simpa using h, List.mem_map.mpr ⟨y, by simpa using hy, rfl⟩⟩)))))))))
theorem Ev.cl (E : Ev t K mg base) (x : Str) (h : t.cls.contains x = true) : (t.L K pw).cl x = some (He.ga K x) := if_pos h
theorem Txt.cl_inv {c : Str} {C : Addr} (h : (t.L K pw).cl c = some C) : t.cls.contains c = true ∧ C = He.ga K c := by
  have h : (if t.cls.contains c = true then some (He.ga K c) else none) = some C := h
  split at h
  · rename_i z; cases h; exact ⟨z, rfl⟩
  · cases h
/-- the classes with fields -/
def Txt.ic (t : Txt) (c : Str) : Bool := t.clss.contains c
theorem Ev.fld (E : Ev t K mg base) (hK : X.K = K) (f : Str) (hf : t.flds.contains f = true) : FldOk X (t.L K pw) t.ic f := fun c C h hc => by
  subst hK
  obtain ⟨_, rfl⟩ := Txt.cl_inv h
  exact ⟨E.clsok c hc, E.noat c f hc hf⟩
theorem Ev.xc (E : Ev t K mg base) (hK : X.K = K) (hm : X.mg = mg) (x : Str) (hx : t.rais.contains x = true) (hy : t.cls.contains x = true) (hg : t.glos.contains x = true) : XCls X (t.L K pw) x x (He.ga K x) := by
  subst hK hm
  obtain ⟨h1, h2, h3, h4⟩ := He.exc_ok (E.exc x hx)
  exact ⟨E.cl x hy, E.glo x hg, ⟨_, _, _, _, PySem.F.excBase_ValueError, h1⟩, h2, h3, h4⟩
theorem Ev.sb (E : Ev t K mg base) (y : Str) (hy : t.excs.contains y = true) : ∀ c D, (t.L K pw).cl c = some D → PySem.W.exmOne K (.ref D) (.ref (He.ga K y)) = some (decide (c = y)) := fun c D h => by
  obtain ⟨h1, rfl⟩ := Txt.cl_inv h
  exact E.exm c y h1 hy
theorem Ev.ctab (E : Ev t K mg base) (hK : X.K = K) (hm : X.mg = mg) (hb : X.base = base) {p : He.Defn} {nm : Nat → Nat → Str} (hp : (p, nm) ∈ t.tf) (hc : X.env.code = .ref (He.codeOf K p)) {pos : Pos} {name : Str} (hn : nm pos.line pos.col = X.env.qual ++ name) : CTab X (t.L K pw).tabs pos name := by
  subst hK hm hb
  refine ctab_of (E.tb p (List.mem_map.mpr ⟨_, hp, rfl⟩)) hc (List.mem_map.mpr ⟨_, hp, rfl⟩) hn fun q hq e => ?_
  obtain ⟨r, hr, rfl⟩ := List.mem_map.mp hq
  have key : ∀ (l : List (He.Defn × (Nat → Nat → Str))), (l.map fun p => (He.cT X.K p.1).2).Nodup → r ∈ l → (p, nm) ∈ l → (He.cT X.K r.1).2 = (He.cT X.K p).2 → r = (p, nm) := by
    intro l
    induction l with
    | nil => intro _ h; cases h
    | cons a l ih =>
      intro nd h1 h2 e
      rw [List.map_cons, List.nodup_cons] at nd
      rcases List.mem_cons.mp h1 with z1 | z1
      · rcases List.mem_cons.mp h2 with z2 | z2
        · rw [z1, z2]
        · exact absurd (List.mem_map.mpr ⟨_, z2, by rw [← e, z1]⟩) nd.1
      · rcases List.mem_cons.mp h2 with z2 | z2
        · exact absurd (List.mem_map.mpr ⟨_, z1, by rw [e, ← z2]⟩) nd.1
        · exact ih nd.2 z1 z2 e
  rw [key t.tf E.nd hr hp e]
end
/-! ### methods of lists, ready for use -/
section
variable {L : Lx} {X : Cx} {o e e2 : Expr} {fo : Sm} {fa : Sa} {apos cpos : Pos} {p pos : Pos}
theorem se_append (ho : SE L X o fo) (ha : SA L X [e] fa) (hbase : attributeBase o "append" X.env (eval o X.env) = eval o X.env := by rfl)
    (hfew : ((backTo cpos (starEach [e] X.env)).all (fun x => !x.1) && (backToKw cpos (keywordEach [] X.env)).all (fun x => x.1.isSome) && decide (([e] : List Expr).length + ([] : List Keyword).length + (if ([] : List Keyword).isEmpty then 0 else 1) < 30)) = true := by rfl)
    (hline : (apos.endLine == cpos.line) = true := by rfl) (hs : starEach [e] X.env = (false, eval e X.env) :: starEach [] X.env := by rfl) (hplain : (backTo cpos (starEach [] X.env)).any (·.1) = false := by rfl) :
    SE L X (.Call (.Attribute o "append" apos) [e] [] cpos) (sBM mAppend fo fa) := se_bm PySem.F.slot_list_append PySem.F.type_list_append m_append nx_append ho ha hbase hfew hline hs hplain
theorem se_pop0 (ho : SE L X o fo) (hbase : attributeBase o "pop" X.env (eval o X.env) = eval o X.env := by rfl) (hline : (apos.endLine == cpos.line) = true := by rfl) :
    SE L X (.Call (.Attribute o "pop" apos) [] [] cpos) (sBM mPop fo aNil) := se_bm0 PySem.F.slot_list_pop PySem.F.type_list_pop m_pop nx_pop ho hbase hline
end
/-! ### built-ins, ready for use -/
section
variable {L : Lx} {X : Cx} {e : Expr} {es : List Expr} {fa : Sa} {p pos : Pos}
theorem se_len (hg : Gl X "len") (hm : X.mg "len" = none) (ha : SA L X [e] fa) (he : starEach [e] X.env = (false, eval e X.env) :: starEach [] X.env := by rfl) : SE L X (.Call (.Name "len" p) [e] [] pos) (sCall fLen fa) := se_callB b_len nx_len hg hm (by first | rfl | decide +kernel) ha (he := he)
theorem se_abs (hg : Gl X "abs") (hm : X.mg "abs" = none) (ha : SA L X [e] fa) (he : starEach [e] X.env = (false, eval e X.env) :: starEach [] X.env := by rfl) : SE L X (.Call (.Name "abs" p) [e] [] pos) (sCall fAbs fa) := se_callB b_abs nx_abs hg hm (by first | rfl | decide +kernel) ha (he := he)
theorem se_min2 (hc : X.calm = true) (hg : Gl X "min") (hm : X.mg "min" = none) (ha : SA L X (e :: es) fa) (he : starEach (e :: es) X.env = (false, eval e X.env) :: starEach es X.env := by rfl) (hpl : (backTo pos (starEach es X.env)).any (·.1) = false := by rfl) : SE L X (.Call (.Name "min" p) (e :: es) [] pos) (sCall fMin2 fa) := se_callB (b_min2 hc) nx_min2 hg hm (by first | rfl | decide +kernel) ha (he := he) (hpl := hpl)
theorem se_sum1 (hc : X.calm = true) (hg : Gl X "sum") (hm : X.mg "sum" = none) (ha : SA L X [e] fa) (he : starEach [e] X.env = (false, eval e X.env) :: starEach [] X.env := by rfl) : SE L X (.Call (.Name "sum" p) [e] [] pos) (sCall fSum fa) := se_callB (b_sum hc) nx_sum hg hm (by first | rfl | decide +kernel) ha (he := he)
theorem se_int1 (hg : Gl X "int") (hm : X.mg "int" = none) (ha : SA L X [e] fa) (he : starEach [e] X.env = (false, eval e X.env) :: starEach [] X.env := by rfl) : SE L X (.Call (.Name "int" p) [e] [] pos) (sCall fInt fa) := se_callTy b_int nx_int hg hm (by first | rfl | decide +kernel) ha (he := he)
theorem se_tuple1 (hg : Gl X "tuple") (hm : X.mg "tuple" = none) (ha : SA L X [e] fa) (he : starEach [e] X.env = (false, eval e X.env) :: starEach [] X.env := by rfl) : SE L X (.Call (.Name "tuple" p) [e] [] pos) (sCall fTup fa) := se_callTy b_tup nx_tup hg hm (by first | rfl | decide +kernel) ha (he := he)
theorem sn_list1 (hc : X.calm = true) (hg : Gl X "list") (hm : X.mg "list" = none) (ha : SA L X [e] fa) (he : starEach [e] X.env = (false, eval e X.env) :: starEach [] X.env := by rfl) : SN L X (.Call (.Name "list" p) [e] [] pos) (sCall fLst fa) := sn_callTy (b_lst hc) nx_lst hg hm (by first | rfl | decide +kernel) ha (he := he)
end
end SP

namespace SP
open PySem PySem.Spec PyProof.Rows L2 SeqAt
/-! ### list(range(..)) -/
open Classical in
noncomputable def nLstRg1 (fa : Sa) : Sm := fun ρ q => (fa ρ q).bind fun ts q' => match ts with
  | [.int n] => if RgOk 0 n then .ok (.lst ((List.range n.toNat).map fun (i : Nat) => .int (0 + (i : Nat)))) q' else .stuck
  | _ => .stuck
open Classical in
noncomputable def nLstRg3 (fa : Sa) : Sm := fun ρ q => (fa ρ q).bind fun ts q' => match ts with
  | [.int i, .int j, .int c] => if RgC i j c (Builtin.Range.rangeSize i j c).toNat ∧ (Builtin.Range.rangeSize i j c).toNat ≤ 2 ^ 24 then .ok (.lst ((List.range (Builtin.Range.rangeSize i j c).toNat).map fun (k : Nat) => .int (i + (k : Nat) * c))) q' else .stuck
  | _ => .stuck
section
variable {L : Lx} {X : Cx} {e a b c : Expr} {fa : Sa} {p p2 pos pos2 : Pos}
end
/-! ### list.index, flat items -/
def flT : T → Bool
  | .int _ => true
  | .str _ => true
  | _ => false
def mIndex : FS := fun ts q => match ts with
  | [t, u] => match lstAt q t with
    | some us => if us.all flT = true ∧ flT u = true then match us.findIdx? (fun x => eqT x u) with
      | some j => .ok (.int (j : Nat)) q
      | none => .stuck
    else .stuck
    | none => .stuck
  | _ => .stuck
section
variable {L : Lx} {X : Cx} {o e : Expr} {fo : Sm} {fa : Sa} {apos cpos : Pos}
end
end SP

namespace SP
open PySem PySem.Spec PyProof.Rows L2 SeqAt
/-! ### comprehension stores, by kind -/
section
variable {L : Lx} {X : Cx} {tg iter elt : Expr} {ifs : List Expr} {fi : Si} {g : Tg} {tt : St'} {te : Sm} {scope : Scope} {own : List (Str × Nat)} {pos : Pos}
theorem ss_setLcF {i : Nat} {y : Str} {py spos : Pos} (hc : X.calm = true) (hN : X.N.Nodup) (hy : X.N[i]? = some y) (hyl : X.env.scope.names.lookup y = some .local)
    (hsw : swapsWith (.ListComp elt [⟨tg, iter, ifs, 0⟩] scope pos) (some (.Name y py)) spos.line X.env = pure true) (hi : SI L X tg iter fi) (ok : BlkOk X.N X.env.scope scope own)
    (hg : ∀ (s : Shared) (H : Hp) (C : Addr) (cl : List (Str × Addr)) (fp : List Addr), SGw L (X.blk s H scope (compEnvC scope cl C X.env) fp) (own.map (·.2)) tg g)
    (ht : ∀ (s : Shared) (H : Hp) (C : Addr) (cl : List (Str × Addr)) (fp : List Addr), STs L (X.blk s H scope (compEnvC scope cl C X.env) fp) ifs tt)
    (he : ∀ (s : Shared) (H : Hp) (C : Addr) (cl : List (Str × Addr)) (fp : List Addr), SE L (X.blk s H scope (compEnvC scope cl C X.env) fp) elt te)
    (hs : ∀ x, foldedSetIterable iter X.env x = pure x := by intro _; rfl) :
    SS L X (.Assign [.Name y py] (.ListComp elt [⟨tg, iter, ifs, 0⟩] scope pos) spos) (xSet i (froz (nLc fi g tt te (own.map (·.2))))) := ss_setLc hc hN hy hyl hsw hi ok hg ht he hs false
end
end SP

namespace SP
open PySem PySem.Spec PyProof.Rows L2 SeqAt LamX
/-! ### a lambda of one parameter, called by a built-in -/
structure L1Ok (N : List Str) (sc scope : Scope) (x : Str) (i : Nat) : Prop where
  blk : BlkOk N sc scope [(x, i)]
  co : scope.isCoroutine = false
  gen : scope.isGenerator = false
  nocell : ∀ y ∈ scope.names, y.2 ≠ .cell
  par : scope.names.lookup x = some .local
def l1B (N : List Str) (sc scope : Scope) (x : Str) (i : Nat) : Bool := blkC N sc scope [(x, i)] && !scope.isCoroutine && !scope.isGenerator && (scope.names.all fun y => !decide (y.2 = .cell)) && decide (scope.names.lookup x = some NameKind.local)
section
variable {X : Cx} {pins : List (Addr × Obj)} {σ : L2.St} {H : Hp} {s : Shared}
end
end SP

namespace SP
open PySem PySem.Spec PyProof.Rows L2 SeqAt LamX
section
variable {X : Cx} {pins : List (Addr × Obj)} {σ : L2.St} {H : Hp} {s : Shared}
abbrev noE : XK := fun _ _ _ => False
end
end SP

namespace SP
open PySem PySem.Spec PyProof.Rows L2 SeqAt LamX
/-- the context, from a place further in -/
def reA (X : Cx) (A : Around) : Cx := { X with A := A }
section
variable {X : Cx} {pins : List (Addr × Obj)} {σ : L2.St} {H : Hp} {s : Shared} {tg : Expr} {R : It → Hp → Prop}
theorem Inv.reA {A : Around} (I : Inv X pins σ H s) (hd : A.handled = none) (hf : A.frames = X.A.frames) : Inv (reA X A) pins σ H s := by
  obtain ⟨ok, os, bare, base, loc, cell, free, freeC, pin, hok, len⟩ := I
  refine ⟨?_, os, bare, base, loc, cell, free, freeC, pin, hok, len⟩
  have fr : A.frames = some X.stack := hf.trans ok.frames
  cases ok
  constructor <;> first | assumption | exact fun _ => hd | skip
/-- what is walked, by its value -/
def Wk (K : PySem.W.Frag) (x : V) (H1 : Hp) (R : It → Hp → Prop) : Prop :=
  (∃ a xs, x = .ref a ∧ SqL K H1 a xs ∧ R (Itl K a) H1) ∨ (∃ a xs, x = .ref a ∧ SqT K H1 a xs ∧ R (Itt K a) H1) ∨ (∃ z, x = .str z ∧ R (Its z) H1) ∨
    ∃ d kvs, x = .ref d ∧ Rd H1 d (.dK kvs) ∧ ∀ o H2, (H2 = H1 ∨ (H1 d = some (.dK kvs) ∧ H2 = upd H1 d (.frz o (.dK kvs)))) → H2 d = some (.frz o (.dK kvs)) → R (Itk d o kvs) H2
end
end SP

namespace SP
open PySem PySem.Spec PyProof.Rows L2 SeqAt LamX
/-! ### min, max by a key that a lambda tells -/
/-- the keys, item by item -/
def keyRun (i : Nat) (te : Sm) (ρ : TEnv) : List T → Store → R (List T)
  | [], q => .ok [] q
  | t :: ts, q => match te (ρ.set i (some t)) q with
    | .ok k q1 => (keyRun i te ρ ts q1).bind fun ks q2 => .ok (k :: ks) q2
    | _ => .stuck
def minKF (a : T × T) (l : List (T × T)) : T × T := l.foldl (fun a y => if ltD y.2 a.2 = true then y else a) a
/-- the lambda as it lies -/
structure LamAt (X : Cx) (f c' : Addr) (pm ctv : Value) (params : Arguments) (body : Expr) (scope : Scope) (x : Str) (i k : Nat) : Prop where
  ok : L1Ok X.N X.env.scope scope x i
  nd : X.N.Nodup
  bind : ∀ u, bindArgs (PySem.W.kla_fn "<lambda>" (X.env.qual ++ "<lambda>") params body scope (cloFrom X.env.cells scope.names []) pm (.ref c') ctv) ⟨[u], []⟩ = pure [(x, u)]
abbrev lamO (X : Cx) (c' : Addr) (pm ctv : Value) (params : Arguments) (body : Expr) (scope : Scope) : Obj := PySem.W.kla_obj "<lambda>" (X.env.qual ++ "<lambda>") params body scope (cloFrom X.env.cells scope.names []) pm c' ctv
section
variable {L : Lx} {X : Cx} {pins : List (Addr × Obj)} {σ : L2.St} {f c' : Addr} {pm ctv : Value} {params : Arguments} {body : Expr} {scope : Scope} {x : Str} {i k : Nat} {fb : Sm} {B : Around}
end
end SP

namespace SP
open PySem PySem.Spec PyProof.Rows L2 SeqAt LamX
abbrev bestO (u w : Value) (c : Nat) : Obj := { cls := .type "list", dict := none, data := .seq #[u, w] c, slots := #[] }
section
variable {L : Lx} {X : Cx} {pins : List (Addr × Obj)} {σ : L2.St} {f c' : Addr} {pm ctv : Value} {params : Arguments} {body : Expr} {scope : Scope} {x : Str} {i k : Nat} {fb : Sm} {B : Around}
end
end SP

namespace SP
open PySem PySem.Spec PyProof.Rows L2 SeqAt LamX
section
variable {L : Lx} {X : Cx} {pins : List (Addr × Obj)} {σ : L2.St} {f c' : Addr} {pm ctv : Value} {params : Arguments} {body : Expr} {scope : Scope} {x : Str} {i k : Nat} {fb : Sm} {B : Around}
end
end SP

namespace SP
open PySem PySem.Spec PyProof.Rows L2 SeqAt LamX
open Classical in
noncomputable def sMinK (i : Nat) (fa : Sa) (fb : Sm) : Sm := fun ρ q => (fa ρ q).bind fun l q1 => match l with
  | [t] => match walkT t with
    | some (t0 :: ts) => match keyRun i fb ρ (t0 :: ts) q1 with
      | .ok (k0 :: ks) q2 => if DatOk (k0 :: ks) then .ok (minKF (t0, k0) (ts.zip ks)).1 q2 else .stuck
      | _ => .stuck
    | _ => .stuck
  | _ => .stuck
section
variable {L : Lx} {X : Cx} {e : Expr} {params : Arguments} {body : Expr} {scope : Scope} {x : Str} {i k : Nat} {fa : Sa} {fb : Sm} {p lpos pos kpos : Pos}
end
end SP

namespace SP
open PySem PySem.Spec PyProof.Rows L2 SeqAt
/-! ### sorted(d) -/
noncomputable def strsOf : List (T × T) → Option (List Str)
  | [] => some []
  | (.str k, _) :: r => (strsOf r).map (k :: ·)
  | _ :: _ => none
noncomputable def fSortD : FS := fun ts q => match ts with
  | [.dct kvs] => match strsOf kvs with
    | some ks => if ks.length < 64 then .ok (.lst (sortT (kvs.map (·.1)))) q else .stuck
    | none => .stuck
  | _ => .stuck
end SP

namespace SP
open PySem PySem.Spec PyProof.Rows L2 SeqAt RZ
/-! ### rows = zip(x, y), walked later by a comprehension -/
def exO (b : Addr) (o : Obj) : HO := .ext fun h => h.get? b = some o
open Classical in
/-- the objects of an iterator, told by the heap -/
noncomputable def told (fp : List Addr) (h0 : Heap) (H : Hp) : Hp := fun b => if b ∈ fp then (h0.get? b).map (exO b) else H b
section
variable {X : Cx} {pins : List (Addr × Obj)} {σ : L2.St} {H : Hp} {s : Shared} {fp : List Addr} {h0 : Heap}
theorem told_in {b : Addr} {o : Obj} (hb : b ∈ fp) (e : h0.get? b = some o) : told fp h0 H b = some (exO b o) := by
  unfold told
  rw [if_pos hb, e] <;> rfl
theorem told_out {b : Addr} (hb : b ∉ fp) : told fp h0 H b = H b := by
  unfold told
  rw [if_neg hb]
theorem told_keep {b : Addr} {o : HO} (hn : ∀ b ∈ fp, H b = none) (e : H b = some o) : told fp h0 H b = some o := by
  rw [told_out fun m => by rw [hn b m] at e; cases e]
  exact e
/-- the iterator's objects taken into the heap that is told -/
theorem Inv.told (I : L2.Inv X pins σ H s) (hf : ∀ b ∈ fp, FpOk X pins H b) (ho : ∀ b ∈ fp, ∃ o, s.heap.get? b = some o) : L2.Inv X pins σ (SP.told fp s.heap H) s := by
  have hn : ∀ b ∈ fp, H b = none := fun b hb => (hf b hb).1
  obtain ⟨ok, os, bare, base, loc, cell, free, freeC, pin, hok, len⟩ := I
  refine ⟨ok, os, bare, ⟨base.keep, base.slot, fun b o e n nx => ?_, base.there, fun b xs e => told_keep hn (base.tups b xs e), fun b o u e => told_keep hn (base.frzs b o u e), fun b ps e => ?_⟩, loc, cell, ?_, fun x c e => ?_, fun p hp => ?_, fun a o e => ?_, len⟩
  · rw [told_out fun m => ?_]
    · exact base.free b o e n nx
    · rcases (hf b m).2.2.2.1 with z | z
      · exact nx z
      · exact absurd (Nat.lt_of_lt_of_le (Heap.lt_size e) z) (Nat.lt_irrefl _)
  · obtain ⟨more, e2⟩ := base.tbls b ps e
    exact ⟨more, told_keep hn e2⟩
  · rw [told_out fun m => (hf _ m).2.1 rfl]
    exact free
  · rw [told_out fun m => (hf _ m).2.2.2.2.1 x c e rfl]
    exact freeC x c e
  · obtain ⟨a1, a2, a3⟩ := pin p hp
    refine ⟨a1, ?_, a3⟩
    rw [told_out fun m => (hf _ m).2.2.2.2.2 p hp rfl]
    exact a2
  · by_cases ha : a ∈ fp
    · obtain ⟨u, hu⟩ := ho a ha
      rw [told_in ha hu] at e
      cases e
      exact ⟨hu, ⟨u, hu⟩, fun h1 h2 e1 k => k _ e1⟩
    · rw [told_out ha] at e
      exact (hok a o e).stay (fun _ _ _ e => e) (fun b e => told_keep hn e) fun b xs e => told_keep hn e
/-- an iterator over two tuples that lies there, told -/
def ZipAt (X : Cx) (tg : Expr) (it a b : Addr) (H1 H2 : Hp) : Prop := ∃ (fp : List Addr) (tn : Nat → Heap → Prop) (h0 : Heap), Turn X.prog X.w X.K tg (SPF.ItzF X.K a b) fp it tn ∧ tn 0 h0 ∧ H2 = SP.told fp h0 H1 ∧ ∀ c ∈ fp, H1 c = none ∧ X.s_0.heap.objs.size ≤ c
def tZipV (X : Cx) (tg : Expr) (ta : TA) : TE := fun σ H Q => ta σ H fun vs H1 => ∃ a b xs ys, vs = [.ref a, .ref b] ∧ SqT X.K H1 a xs ∧ SqT X.K H1 b ys ∧ ∀ it H2, ZipAt X tg it a b H1 H2 → Q (.ref it) H2
/-- the name that holds it, walked -/
def wHeld (X : Cx) (tg : Expr) (i : Nat) : TI := fun σ H2 R => ∃ it a b H1, σ[i]? = some (some (.ref it)) ∧ ZipAt X tg it a b H1 H2 ∧ R (SPF.ItzF X.K a b) H1
end
end SP

namespace SP
open PySem PySem.Spec PyProof.Rows L2 SeqAt RZ
noncomputable def sZip (i : Nat) (fa : Sa) (g : Tg) (tt : St') (te : Sm) (vs : List Nat) : Sm := fun ρ q => match fa ρ q with
  | .ok [.tup a, .tup b] q1 => if i < ρ.length then match nLc (fun _ q => .ok ((a.zip b).map fun p => .tup [p.1, p.2]) q) g tt te vs (ρ.set i none) q1 with
    | .ok t q2 => if isCell t = true then fTup [t] q2 else .stuck
    | _ => .stuck
    else .stuck
  | .exc c fs q1 => .exc c fs q1
  | _ => .stuck
section
variable {L : Lx} {X : Cx} {i : Nat} {fa : Sa} {g : Tg} {tt : St'} {te : Sm}
end
end SP

namespace SP
open PySem PySem.Spec PyProof.Rows L2 SeqAt LamX
/-! ### the law, at the end -/
theorem Dk.fn {P : Program} {w : World} {K : PySem.W.Frag} {mg : Str → Option Value} {base : Heap} {L : Lx} {p : He.Defn} {k : Nat} {N ps : List Str} {name qual : Str} {params : Arguments} {body : List Stmt} {scope : Scope} {fd : FuncData} {fb : Ss} (F : FunD K name qual params body scope [] [] (He.fAd K p) fd) (S : FnScope N ps scope)
    (hbody : ∀ (A : Around) (outer : List Env) (s : Shared) (H : Hp) (E : XK) (cdv : Value), cdv = .ref (He.codeOf K p) → Room k (A.deeper (envOfC qual scope s.heap.objs.size (He.fAd K p) cdv)) → SSs L (cxOf (CX P w) P w K mg base N qual scope (He.fAd K p) cdv A outer s H E) body fb) :
    FnOk P w K mg base (CX P w) (k + 1) (He.fAd K p) fd ps (spS K L ps.length (runK N.length fb)) := by
  obtain ⟨oc, od, dV, kV, doc, pm, an, cdv, ct, osl, rfl, lk, hcd, _, _⟩ := id F.ex
  obtain ⟨c, rfl⟩ := He.codeIn_ref hcd
  have ec : c = He.codeOf K p := (He.codeOf_eq lk rfl).symm
  exact fnS_of lk hcd S fun A outer s H E hr => hbody A outer s H E _ (by rw [ec]) hr
theorem reps_ints {K : PySem.W.Frag} {L : Lx} {ν : Nu} {H : Hp} : ∀ l : List Int, Reps K L ν H (l.map T.int) (l.map V.int)
  | [] => .nil
  | x :: l => .cons (.int x) (reps_ints l)
/-- what is asked of the law's own function -/
def LawOk (F : FS) : Prop := ∀ (ns : List Int) (t : T), (t = .lst (ns.map .int) ∨ t = .fz (ns.map .int)) → ns.length ≤ 63 → (∀ z ∈ ns, Builtin.Int.intBits z ≤ 1048576) → ∃ q, F [t] [] = .ok (.bl true) q
theorem law_at {t : Txt} {l : PySem.W.OpenLaw} {w : World} {K : PySem.W.Frag} {mg : Str → Option Value} {fa : Addr} {h : Heap} {fd : FuncData} {k : Nat} {F : FS} (KX : K.In h) (G : h.Ns mainGlobals mg) (c : He.SaysX t.fa t.fn [] t.defns t.ex w h K)
    (hb : ∀ (s : Shared) (v : Value), BindsTo s fd ⟨[v], []⟩ [("script", v)]) (hF : ∀ base, Ev t K mg base → FnOk l.prog w K mg base (CX l.prog w) k fa fd ["script"] (spS K (t.L K (l.prog, w)) 1 F)) (hlaw : LawOk F) : LawAtS l w K (CX l.prog w) k 63 "script" mg fa h := by
  refine ⟨fd, t.defns.map (He.cT K), spS K (t.L K (l.prog, w)) 1 F, fun p hp => ?_, fun p hp => ?_, fun p hp => ?_, hb, fun H a ns hl hbits hT hs => ?_, fun base hbase hns htb => hF base ⟨⟨h, KX, G⟩, c.t.d, fun p hp => htb _ (List.mem_map.mpr ⟨p, hp, rfl⟩), of_decide_eq_true (Bool.and_eq_true_iff.mp c.more).1, fun p hp => List.all_eq_true.mp (Bool.and_eq_true_iff.mp (Bool.and_eq_true_iff.mp c.more).2).1 p hp, fun x hx => List.all_eq_true.mp (Bool.and_eq_true_iff.mp (Bool.and_eq_true_iff.mp c.more).2).2 x hx⟩⟩
  · obtain ⟨d, hd, rfl⟩ := List.mem_map.mp hp
    exact c.empty d hd
  · obtain ⟨d, hd, rfl⟩ := List.mem_map.mp hp
    exact c.out d hd
  · obtain ⟨d, hd, rfl⟩ := List.mem_map.mp hp
    exact PySem.W.codeHd_of_K KX (c.hd d hd)
  · refine ⟨rfl, ?_⟩
    have tabs : NdefX.TabsN (t.L K (l.prog, w)).tabs H := fun p hp => by
      obtain ⟨d, hd, rfl⟩ := List.mem_map.mp hp
      refine ⟨#[], hT _ (List.mem_map.mpr ⟨d.1, List.mem_map.mpr ⟨d, hd, rfl⟩, rfl⟩), ?_, fun p' cv hcv => ?_⟩
      · trivial
      · cases hcv
    obtain ⟨t0, ht, rt⟩ : ∃ t0, (t0 = .lst (ns.map .int) ∨ t0 = .fz (ns.map .int)) ∧ Rep K (t.L K (l.prog, w)) ⟨[], []⟩ H t0 (.ref a) := by
      rcases hs with (hs | ⟨o, hs⟩) | hs
      · exact ⟨_, .inl rfl, .lst ⟨nofun, nofun⟩ hs (reps_ints ns)⟩
      · exact ⟨_, .inr rfl, .fz ⟨nofun, nofun⟩ hs (reps_ints ns)⟩
      · exact ⟨_, .inr rfl, .fzK hs (reps_ints ns)⟩
    obtain ⟨q, e⟩ := hlaw ns t0 ht hl hbits
    refine ⟨⟨[], []⟩, [], [t0], ⟨rfl, nofun, nofun, nofun, tabs, nofun⟩, .cons rt .nil, ?_⟩
    rw [e]
    intro ν' H' v f s r
    cases r
    rfl
end SP

namespace SP
open PySem PySem.Spec
/-! ### plain tools: closing what names no new object -/
mutual
theorem clB_mono {n m : Nat} (h : n ≤ m) : ∀ t : T, clB n t = true → clB m t = true
  | .non, _ => rfl
  | .bl _, _ => rfl
  | .int _, _ => rfl
  | .str _, _ => rfl
  | .tup ts, e => by unfold clB at e ⊢; exact clsB_mono h ts e
  | .lst ts, e => by unfold clB at e ⊢; exact clsB_mono h ts e
  | .fz ts, e => by unfold clB at e ⊢; exact clsB_mono h ts e
  | .dct ts, e => by unfold clB at e ⊢; exact clkB_mono h ts e
  | .dcu ts, e => by unfold clB at e ⊢; exact clkB_mono h ts e
  | .ins _ ts, e => by unfold clB at e ⊢; exact clfB_mono h ts e
  | .obj k, e => by unfold clB at e ⊢; exact decide_eq_true (Nat.lt_of_lt_of_le (of_decide_eq_true e) h)
theorem clsB_mono {n m : Nat} (h : n ≤ m) : ∀ t : List T, clsB n t = true → clsB m t = true
  | [], _ => rfl
  | t :: ts, e => by
    unfold clsB at e ⊢
    rw [Bool.and_eq_true] at e ⊢
    exact ⟨clB_mono h t e.1, clsB_mono h ts e.2⟩
theorem clkB_mono {n m : Nat} (h : n ≤ m) : ∀ t : List (T × T), clkB n t = true → clkB m t = true
  | [], _ => rfl
  | (_, t) :: ts, e => by
    unfold clkB at e ⊢
    rw [Bool.and_eq_true] at e ⊢
    exact ⟨clB_mono h t e.1, clkB_mono h ts e.2⟩
theorem clfB_mono {n m : Nat} (h : n ≤ m) : ∀ t : List (Str × T), clfB n t = true → clfB m t = true
  | [], _ => rfl
  | (_, t) :: ts, e => by
    unfold clfB at e ⊢
    rw [Bool.and_eq_true] at e ⊢
    exact ⟨clB_mono h t e.1, clfB_mono h ts e.2⟩
end
mutual
theorem clo_id {q : Store} {n : Nat} : ∀ (t : T) (f : Nat), clB n t = true → clo q n f t = some t
  | .non, f, _ => by cases f <;> (unfold clo; rfl)
  | .bl _, f, _ => by cases f <;> (unfold clo; rfl)
  | .int _, f, _ => by cases f <;> (unfold clo; rfl)
  | .str _, f, _ => by cases f <;> (unfold clo; rfl)
  | .tup ts, f, e => by unfold clB at e; cases f <;> (unfold clo; rw [cloS_id ts _ e])
  | .lst ts, f, e => by unfold clB at e; cases f <;> (unfold clo; rw [cloS_id ts _ e])
  | .fz ts, f, e => by unfold clB at e; cases f <;> (unfold clo; rw [cloS_id ts _ e])
  | .dct ts, f, e => by unfold clB at e; cases f <;> (unfold clo; rw [cloK_id ts _ e])
  | .dcu ts, f, e => by unfold clB at e; cases f <;> (unfold clo; rw [cloK_id ts _ e])
  | .ins _ ts, f, e => by unfold clB at e; cases f <;> (unfold clo; rw [cloF_id ts _ e])
  | .obj k, f, e => by
    unfold clB at e
    have hk := of_decide_eq_true e
    cases f <;> (unfold clo; rw [if_pos hk])
theorem cloS_id {q : Store} {n : Nat} : ∀ (t : List T) (f : Nat), clsB n t = true → cloS q n f t = some t
  | [], f, _ => by unfold cloS; rfl
  | t :: ts, f, e => by
    unfold clsB at e
    rw [Bool.and_eq_true] at e
    unfold cloS
    rw [clo_id t f e.1, cloS_id ts f e.2]
theorem cloK_id {q : Store} {n : Nat} : ∀ (t : List (T × T)) (f : Nat), clkB n t = true → cloK q n f t = some t
  | [], f, _ => by unfold cloK; rfl
  | (k, t) :: ts, f, e => by
    unfold clkB at e
    rw [Bool.and_eq_true] at e
    unfold cloK
    rw [clo_id t f e.1, cloK_id ts f e.2]
theorem cloF_id {q : Store} {n : Nat} : ∀ (t : List (Str × T)) (f : Nat), clfB n t = true → cloF q n f t = some t
  | [], f, _ => by unfold cloF; rfl
  | (k, t) :: ts, f, e => by
    unfold clfB at e
    rw [Bool.and_eq_true] at e
    unfold cloF
    rw [clo_id t f e.1, cloF_id ts f e.2]
end
/-- the cells hold pure trees -/
def PureQ (q : Store) : Prop := ∀ (i : Nat) c, q[i]? = some (some c) → clB 0 c = true
theorem PureQ.set {q : Store} (h : PureQ q) {n : Nat} {c : T} (hc : clB 0 c = true) : PureQ (q.set n (some c)) := fun i d e => by
  by_cases hi : n = i
  · subst hi
    rw [List.getElem?_set] at e
    split at e
    · split at e
      · cases e; exact hc
      · cases e
    · exact h _ _ e
  · rw [List.getElem?_set_ne hi] at e
    exact h i d e
theorem PureQ.push {q : Store} (h : PureQ q) {c : T} (hc : clB 0 c = true) : PureQ (q ++ [some c]) := fun i d e => by
  rcases Nat.lt_or_ge i q.length with hi | hi
  · rw [List.getElem?_append_left hi] at e
    exact h i d e
  · rw [List.getElem?_append_right hi] at e
    cases z : i - q.length with
    | zero => rw [z] at e; cases e; exact hc
    | succ k => rw [z] at e; cases e
theorem PureQ.nil : PureQ [] := fun i d e => by cases e
end SP

namespace SP
open PySem PySem.Spec L2
/-! ### each construct, applied -/
section
variable {f g h : Sm} {t u : T} {ρ : TEnv} {q q' : Store} {o : Op2} {fa : Sa} {F : FS} {c : St'} {s1 s2 : Ss} {i : Nat} {α : Type}
theorem ap_Op : sOp o f g ρ q = (f ρ q).bind fun t q1 => (g ρ q1).bind fun u q2 => o t u q2 := rfl
theorem ap_cons : aCons f fa ρ q = (f ρ q).bind fun t q1 => (fa ρ q1).bind fun ts q2 => .ok (t :: ts) q2 := rfl
theorem ap_Call : sCall F fa ρ q = (fa ρ q).bind fun ts q1 => F ts q1 := rfl
theorem ap_If : sIf c f g ρ q = (c ρ q).bind fun b q1 => if b = true then f ρ q1 else g ρ q1 := rfl
theorem ap_An {c d : St'} : tAn c d ρ q = (c ρ q).bind fun b q1 => if b = true then d ρ q1 else .ok false q1 := rfl
theorem ap_Or {c d : St'} : tOr' c d ρ q = (c ρ q).bind fun b q1 => if b = true then .ok true q1 else d ρ q1 := rfl
theorem ap_Nt : tNt c ρ q = (c ρ q).bind fun b q1 => .ok (!b) q1 := rfl
theorem ap_True : tTrue ρ q = .ok true q := rfl
theorem ap_Seq : xSeq s1 s2 ρ q = (s1 ρ q).then s2 := rfl
theorem ap_Ret : xRet f ρ q = (f ρ q).to ρ fun t q1 => .ret t q1 := rfl
theorem ap_Set : xSet i f ρ q = (f ρ q).to ρ fun t q1 => .nx (ρ.set i (some t)) q1 := rfl
theorem ap_Expr : xExpr f ρ q = (f ρ q).to ρ fun _ q1 => .nx ρ q1 := rfl
theorem ap_xIf : xIf c s1 s2 ρ q = (c ρ q).to ρ fun b q1 => if b = true then s1 ρ q1 else s2 ρ q1 := rfl
theorem ap_to {a : α} {k : α → Store → RS} : (R.ok a q).to ρ k = k a q := rfl
theorem ap_then {s : Ss} : (RS.nx ρ q).then s = s ρ q := rfl
theorem ap_thenR {s : Ss} : (RS.ret t q).then s = .ret t q := rfl
theorem ap_set0 {x y : Option T} {r : TEnv} : List.set (x :: r) 0 y = y :: r := rfl
theorem ap_sets {x y : Option T} {r : TEnv} : List.set (x :: r) (i + 1) y = x :: List.set r i y := rfl
theorem ap_run {m : Nat} {fb : Ss} {ts : List T} : runC m fb ts q = closeR q (endR (fb (env0 m ts) q)) := rfl
theorem ap_runK {m : Nat} {fb : Ss} {ts : List T} : runK m fb ts q = endR (fb (env0 m ts) q) := rfl
theorem ap_thaw : thaw f ρ q = (f ρ q).bind fun t q1 => .ok (.obj q1.length) (q1 ++ [some t]) := rfl
theorem ap_froz {q1 : Store} (e : f ρ q = .ok t q1) (h : isCell t = true) : froz f ρ q = .ok t q1 := by
  unfold froz
  rw [e]
  show (if isCell t = true then R.ok t q1 else .stuck) = _
  rw [if_pos h]
theorem ap_For {fi : Si} {g : Tg} {b : Ss} : xFor fi g b ρ q = (fi ρ q).to ρ fun ts q1 => forT g b ts ρ q1 := rfl
/-! #### operators on ints -/
theorem op_add {i j : Int} : oAdd (.int i) (.int j) q = .ok (.int (i + j)) q := rfl
theorem op_sub {i j : Int} : oSub (.int i) (.int j) q = .ok (.int (i - j)) q := rfl
open Classical in
theorem op_mul {i j : Int} (h : CMul i j) : oMul (.int i) (.int j) q = .ok (.int (i * j)) q := by
  unfold oMul
  show (if CMul i j ∨ CMulW i j then R.ok (T.int (i * j)) q else .stuck) = _
  rw [if_pos (.inl h)]
open Classical in
theorem op_div {i j : Int} (h : CDivW i j) : oDiv (.int i) (.int j) q = .ok (.int (i / j)) q := by
  unfold oDiv
  show (if CDivW i j then R.ok (T.int (i / j)) q else .stuck) = _
  rw [if_pos h]
theorem op_mod {i j : Int} (h : 0 < j) : oMod (.int i) (.int j) q = .ok (.int (i % j)) q := by
  unfold oMod
  show (if 0 < j then R.ok (T.int (i % j)) q else .stuck) = _
  rw [if_pos h]
theorem op_eqI {i j : Int} : oEq (.int i) (.int j) q = .ok (.bl (decide (i = j))) q := by
  unfold oEq
  rw [if_pos ⟨.int, .int⟩]
  show R.ok (T.bl (eqT (.int i) (.int j))) q = _
  unfold eqT
  by_cases h : i = j
  · subst h; simp
  · simp [h]
theorem op_lt {i j : Int} : oLt (.int i) (.int j) q = .ok (.bl (decide (i < j))) q := rfl
theorem op_gt {i j : Int} : oGt (.int i) (.int j) q = .ok (.bl (decide (j < i))) q := rfl
theorem op_ge {i j : Int} : oGe (.int i) (.int j) q = .ok (.bl (decide (j ≤ i))) q := rfl
theorem op_le {i j : Int} : oLe (.int i) (.int j) q = .ok (.bl (decide (i ≤ j))) q := rfl
theorem cell_at {n : Nat} (h : q[n]? = some (some t)) : cell q n = some t := by unfold cell; rw [h]
theorem op_ixO {n : Nat} {ts : List T} {k : Int} (hc : cell q n = some (.lst ts)) (e : L2.atI ts k = some t) : oIx (.obj n) (.int k) q = .ok t q := by
  unfold oIx
  simp [dctAt, seqAt, lstAt, hc, e]
end
end SP

namespace SP
open PySem PySem.Spec L2
/-! ### the rest, applied -/
theorem small_sz {n : Nat} (h : n ≤ 1000) : n ≤ sizeLine := Nat.le_trans h (by decide)
section
variable {f g h : Sm} {t u : T} {ρ : TEnv} {q q1 q2 : Store} {fa : Sa} {ts ys : List T} {fi : Si} {tg : Tg} {tt : St'} {te : Sm} {vs : List Nat}
theorem lst_run (h : fa ρ q = .ok ts q1) (hl : ts.length ≤ sizeLine) : sLst fa ρ q = .ok (.lst ts) q1 := by
  unfold sLst
  rw [h, bind_ok, if_pos hl]
theorem tup_run (h : fa ρ q = .ok ts q1) (hl : ts.length ≤ sizeLine) : sTup fa ρ q = .ok (.tup ts) q1 := by
  unfold sTup
  rw [h, bind_ok, if_pos hl]
theorem nlst_run (h : fa ρ q = .ok ts q1) (hl : ts.length ≤ sizeLine) : nLst fa ρ q = .ok (.lst ts) q1 := by
  unfold nLst
  rw [h, bind_ok, if_pos hl]
theorem nlc_run (hi : fi ρ q = .ok ts q1) (hl : ts.length ≤ sizeLine) (hr : lcT tg tt te (wipeT ρ vs) ts q1 [] = .ok ys q2) : nLc fi tg tt te vs ρ q = .ok (.lst ys) q2 := by
  unfold nLc
  rw [hi, bind_ok, if_pos hl, hr, bind_ok]
theorem bl_run : tBl f ρ q = (f ρ q).bind fun t q1 => match t with
  | .bl b => .ok b q1
  | _ => .stuck := rfl
theorem op_eqD (h : Dt 50 t) (h2 : Dt 50 u) (hd : deref q t = t) (hd2 : deref q u = u) : oEq t u q = .ok (.bl (eqT t u)) q := by
  unfold oEq
  rw [if_pos ⟨by rw [hd]; exact h, by rw [hd2]; exact h2⟩, hd, hd2]
theorem op_neD (h : Dt 50 t) (h2 : Dt 50 u) (hd : deref q t = t) (hd2 : deref q u = u) : oNe t u q = .ok (.bl (!eqT t u)) q := by
  unfold oNe
  rw [if_pos ⟨by rw [hd]; exact h, by rw [hd2]; exact h2⟩, hd, hd2]
end
end SP

namespace SP
open PySem PySem.Spec L2
/-! ### evaluation by rules: each construct ends in .ok -/
section
variable {f g h fo fi' fv : Sm} {t u v w t1 t2 : T} {ρ ρ1 ρ2 ρ3 : TEnv} {q q0 q1 q2 q3 : Store} {o : Op2} {fa : Sa} {F : FS} {c d : St'} {s s1 s2 : Ss} {i n : Nat} {ts us ys : List T} {b b1 b2 : Bool} {fi : Si} {tg : Tg} {tt : St'} {te : Sm} {vs : List Nat} {r : RS}
theorem e_C : sC t ρ q = .ok t q := rfl
theorem e_V (h : ρ[i]? = some (some t)) : sVar i ρ q = .ok t q := by unfold sVar; rw [h]
theorem e_Op (hf : f ρ q = .ok t q1) (hg : g ρ q1 = .ok u q2) (ho : o t u q2 = .ok v q3) : sOp o f g ρ q = .ok v q3 := by
  rw [ap_Op, hf, bind_ok, hg, bind_ok, ho]
theorem a_nil : aNil ρ q = .ok [] q := rfl
theorem a_cons (hf : f ρ q = .ok t q1) (ha : fa ρ q1 = .ok ts q2) : aCons f fa ρ q = .ok (t :: ts) q2 := by
  rw [ap_cons, hf, bind_ok, ha, bind_ok]
theorem e_Call (ha : fa ρ q = .ok ts q1) (hF : F ts q1 = .ok t q2) : sCall F fa ρ q = .ok t q2 := by
  rw [ap_Call, ha, bind_ok, hF]
theorem e_Tup (ha : fa ρ q = .ok ts q1) (hl : ts.length ≤ sizeLine) : sTup fa ρ q = .ok (.tup ts) q1 := tup_run ha hl
theorem e_Lst (ha : fa ρ q = .ok ts q1) (hl : ts.length ≤ sizeLine) : sLst fa ρ q = .ok (.lst ts) q1 := lst_run ha hl
theorem e_nLst (ha : fa ρ q = .ok ts q1) (hl : ts.length ≤ sizeLine) : nLst fa ρ q = .ok (.lst ts) q1 := nlst_run ha hl
theorem e_nDct : nDct ρ q = .ok (.dct []) q := rfl
theorem e_froz (hf : f ρ q = .ok t q1) (h : isCell t = true) : froz f ρ q = .ok t q1 := ap_froz hf h
theorem e_thaw (hf : f ρ q = .ok t q1) : thaw f ρ q = .ok (.obj q1.length) (q1 ++ [some t]) := by
  rw [ap_thaw, hf, bind_ok]
theorem e_If (hc : c ρ q = .ok b q1) (hf : b = true → f ρ q1 = .ok t q2) (hg : b = false → g ρ q1 = .ok u q2) : sIf c f g ρ q = .ok (if b = true then t else u) q2 := by
  rw [ap_If, hc, bind_ok]
  cases b with
  | true => simp [hf rfl]
  | false => simp [hg rfl]
theorem e_Chain {o' : Op2} (hf : f ρ q = .ok t q1) (hg : g ρ q1 = .ok u q2) (ho : o t u q2 = .ok (.bl b) q2) (hh : b = true → h ρ q2 = .ok v q2 ∧ o' u v q2 = .ok (.bl b2) q2) : sChain o o' f g h ρ q = .ok (.bl (b && b2)) q2 := by
  unfold sChain
  rw [hf, bind_ok, hg, bind_ok, ho, bind_ok]
  cases b with
  | true => simp [(hh rfl).1, (hh rfl).2]
  | false => simp
theorem e_Not (hf : f ρ q = .ok (.bl b) q1) : sNot f ρ q = .ok (.bl (!b)) q1 := by
  unfold sNot
  rw [hf, bind_ok]
theorem e_And (hf : f ρ q = .ok (.bl b) q1) (hg : b = true → g ρ q1 = .ok (.bl b2) q1) : sAnd f g ρ q = .ok (.bl (b && b2)) q1 := by
  unfold sAnd
  rw [hf, bind_ok]
  cases b with
  | true => simp [hg rfl]
  | false => simp
theorem e_Or (hf : f ρ q = .ok (.bl b) q1) (hg : b = false → g ρ q1 = .ok (.bl b2) q1) : sOr f g ρ q = .ok (.bl (b || b2)) q1 := by
  unfold sOr
  rw [hf, bind_ok]
  cases b with
  | true => simp
  | false => simp [hg rfl]
/-! #### truth -/
theorem c_Bl (hf : f ρ q = .ok (.bl b) q1) : tBl f ρ q = .ok b q1 := by
  rw [bl_run, hf, bind_ok]
theorem c_Val (hf : f ρ q = .ok t q1) (ht : truT q1 t = some b) : tVal f ρ q = .ok b q1 := by
  unfold tVal
  rw [hf, bind_ok, ht]
theorem c_An (hc : c ρ q = .ok b q1) (hd : b = true → d ρ q1 = .ok b2 q1) : tAn c d ρ q = .ok (b && b2) q1 := by
  rw [ap_An, hc, bind_ok]
  cases b with
  | true => simp [hd rfl]
  | false => simp
theorem c_Or (hc : c ρ q = .ok b q1) (hd : b = false → d ρ q1 = .ok b2 q1) : tOr' c d ρ q = .ok (b || b2) q1 := by
  rw [ap_Or, hc, bind_ok]
  cases b with
  | true => simp
  | false => simp [hd rfl]
theorem c_Nt (hc : c ρ q = .ok b q1) : tNt c ρ q = .ok (!b) q1 := by
  rw [ap_Nt, hc, bind_ok]
theorem c_conv (hc : c ρ q = .ok b q1) (e : b = b2) : c ρ q = .ok b2 q1 := by rw [hc, e]
/-! #### statements, one ahead of the rest -/
theorem s_set (hf : f ρ q = .ok t q1) (hs : s (ρ.set i (some t)) q1 = r) : xSeq (xSet i f) s ρ q = r := by
  rw [ap_Seq, ap_Set, hf, ap_to, ap_then, hs]
theorem s_ret (hf : f ρ q = .ok t q1) : xSeq (xRet f) s ρ q = .ret t q1 := by
  rw [ap_Seq, ap_Ret, hf, ap_to, ap_thenR]
theorem s_nil : xNil ρ q = .nx ρ q := rfl
theorem s_expr (hf : f ρ q = .ok t q1) (hs : s ρ q1 = r) : xSeq (xExpr f) s ρ q = r := by
  rw [ap_Seq, ap_Expr, hf, ap_to, ap_then, hs]
theorem s_ifN (hc : c ρ q = .ok false q1) (hs : s ρ q1 = r) : xSeq (xIf c s1 xNil) s ρ q = r := by
  rw [ap_Seq, ap_xIf, hc, ap_to, if_neg (by decide), s_nil, ap_then, hs]
theorem s_ifT (hc : c ρ q = .ok true q1) (h2 : s1 ρ q1 = .nx ρ2 q2) (hs : s ρ2 q2 = r) : xSeq (xIf c s1 s2) s ρ q = r := by
  rw [ap_Seq, ap_xIf, hc, ap_to, if_pos rfl, h2, ap_then, hs]
theorem s_ifTr (hc : c ρ q = .ok true q1) (h2 : s1 ρ q1 = .ret t q2) : xSeq (xIf c s1 s2) s ρ q = .ret t q2 := by
  rw [ap_Seq, ap_xIf, hc, ap_to, if_pos rfl, h2, ap_thenR]
theorem s_raise {e : Str} (ha : fa ρ q = .ok ts q1) (hl : ts.length ≤ sizeLine) : xSeq (xRaise e fa) s ρ q = .exc e [] ρ q1 := by
  rw [ap_Seq]
  unfold xRaise
  rw [ha, ap_to, if_pos hl]; rfl
theorem s_asg (hf : f ρ q = .ok t q1) (hg : tg t ρ q1 = some (ρ2, q2)) (hs : s ρ2 q2 = r) : xSeq (xAsg tg f) s ρ q = r := by
  rw [ap_Seq]
  unfold xAsg
  rw [hf, ap_to, hg]
  exact hs
theorem s_par {is : List Nat} (ha : fa ρ q = .ok ts q1) (hl : ts.length = is.length) (hs : s ((is.zip ts).foldl (fun ρ p => ρ.set p.1 (some p.2)) ρ) q1 = r) : xSeq (xPar is fa) s ρ q = r := by
  rw [ap_Seq]
  unfold xPar
  rw [ha, ap_to, if_pos hl]
  exact hs
theorem s_aug (h0 : ρ[i]? = some (some u)) (hf : f ρ q = .ok v q1) (ho : o u v q1 = .ok w q2) (hs : s (ρ.set i (some w)) q2 = r) : xSeq (xAug o i f) s ρ q = r := by
  rw [ap_Seq]
  unfold xAug
  simp only [h0, hf, ap_to, ho, ap_then, hs]
theorem s_for (hi : fi ρ q = .ok ts q1) (hl : forT tg s1 ts ρ q1 = .nx ρ2 q2) (hs : s ρ2 q2 = r) : xSeq (xFor fi tg s1) s ρ q = r := by
  rw [ap_Seq, ap_For, hi, ap_to, hl, ap_then, hs]
theorem s_fld {ic : Str → Bool} {f' cn : Str} {fs : List (Str × T)} (hv : fv ρ q = .ok u q1) (ho : fo ρ q1 = .ok (.obj n) q2) (hc : cell q2 n = some (.ins cn fs)) (hic : ic cn = true ∧ fs.length < 1000) (hs : s ρ (q2.set n (some (.ins cn (putT f' u fs)))) = r) : xSeq (xFld ic f' fo fv) s ρ q = r := by
  rw [ap_Seq]
  unfold xFld
  rw [hv, ap_to, ho, ap_to]
  simp only [hc]
  rw [if_pos hic, ap_then, hs]
theorem s_subL {k : Int} {j : Nat} (hv : fv ρ q = .ok u q1) (ho : fo ρ q1 = .ok (.obj n) q2) (hi : fi' ρ q2 = .ok (.int k) q3) (hc : cell q3 n = some (.lst ts)) (hj : ixN ts.length k = some j) (hs : s ρ (q3.set n (some (.lst (ts.set j u)))) = r) : xSeq (xSubL fo fi' fv) s ρ q = r := by
  rw [ap_Seq]
  unfold xSubL
  rw [hv, ap_to, ho, ap_to, hi, ap_to]
  simp only [hc, hj]
  rw [ap_then, hs]
/-! #### a function's run -/
theorem run_K {m : Nat} {fb : Ss} (h : fb (env0 m ts) q = .ret t q1) : runK m fb ts q = .ok t q1 := by
  rw [ap_runK, h]; rfl
theorem run_C {m : Nat} {fb : Ss} (h : fb (env0 m ts) q = .ret t q1) (hc : closeR q (.ok t q1) = .ok u q2) : runC m fb ts q = .ok u q2 := by
  rw [ap_run, h]; exact hc
/-- the first cells are as they were, or hold what is pure -/
theorem kept_of {p0 p e : Store} (hl : p0.length = p.length) (hk : ∀ i, i < p0.length → p[i]? = p0[i]? ∨ ∀ c, p[i]? = some (some c) → clB 0 c = true) : KeptC p0 (p ++ e) := fun i hi => by
  rw [List.getElem?_append_left (by omega)]
  rcases hk i hi with h | h
  · exact .inl h
  · exact .inr fun c e => clB_mono (Nat.zero_le _) c (h c e)
theorem close_app {p0 p e : Store} (hl : p0.length = p.length) (hk : ∀ i, i < p0.length → p[i]? = p0[i]? ∨ ∀ c, p[i]? = some (some c) → clB 0 c = true) (ht : clB 0 t = true) : closeR p0 (.ok t (p ++ e)) = .ok t p := by
  unfold closeR
  simp only []
  rw [if_pos (kept_of hl hk), clo_id t 9 (clB_mono (Nat.zero_le _) t ht)]
  simp only [hl, List.take_left']
/-- the result is a new object -/
theorem close_obj {p0 p e : Store} {cl : T} (hl : p0.length = p.length) (hk : ∀ i, i < p0.length → p[i]? = p0[i]? ∨ ∀ c, p[i]? = some (some c) → clB 0 c = true) (hc : isCell cl = true ∨ ∃ c fs, cl = .ins c fs) (ht : clB 0 cl = true) : closeR p0 (.ok (.obj p0.length) (p ++ some cl :: e)) = .ok cl p := by
  have ht' := clB_mono (Nat.zero_le p0.length) cl ht
  have hx : (p ++ some cl :: e)[p0.length]? = some (some cl) := by
    rw [hl, List.getElem?_append_right (Nat.le_refl _), Nat.sub_self]; rfl
  have hcl : clo (p ++ some cl :: e) p0.length 9 (.obj p0.length) = some cl := by
    unfold clo
    rw [if_neg (Nat.lt_irrefl _), hx]
    rcases hc with hc | ⟨c, fs, rfl⟩
    · cases cl <;> first | (cases hc; done) | skip
      · unfold clB at ht'; simp only [cloS_id _ _ ht']
      · unfold clB at ht'; simp only [cloK_id _ _ ht']
      · unfold clB at ht'; simp only [cloK_id _ _ ht']
    · unfold clB at ht'; simp only [cloF_id _ _ ht']
  unfold closeR
  simp only []
  rw [if_pos (kept_of hl hk), hcl]
  simp only [hl, List.take_left']
theorem close_objId {q e : Store} {cl : T} (hc : isCell cl = true ∨ ∃ c fs, cl = .ins c fs) (ht : clB 0 cl = true) : closeR q (.ok (.obj q.length) (q ++ some cl :: e)) = .ok cl q := close_obj rfl (fun _ _ => .inl rfl) hc ht
end
end SP

namespace SP
open PySem PySem.Spec L2
/-! ### evaluation by rules: sources, comprehensions, calls -/
instance : Inhabited T := ⟨.non⟩
instance : Inhabited Str := ⟨⟨#[]⟩⟩
/-- the whole numbers from a up to b -/
def ri (a b : Int) : List Int := (List.range (b - a).toNat).map fun (k : Nat) => a + (k : Int)
theorem ri_len (a b : Int) : (ri a b).length = (b - a).toNat := by simp [ri]
/-- the item at a place that stands in the list -/
def gi {α : Type} [Inhabited α] (xs : List α) (k : Int) : α := xs.getD k.toNat default
section
variable {α β : Type} {xs : List α} {en F : α → T} {p : α → Bool} {f g h fo fi' fv : Sm} {t u v w t1 t2 : T} {ρ ρ1 ρ2 ρ3 : TEnv} {q q0 q1 q2 q3 : Store} {o : Op2} {fa : Sa} {FF : FS} {c d : St'} {s s1 s2 : Ss} {i n : Nat} {ts us ys : List T} {b b1 b2 : Bool} {fi : Si} {tg : Tg} {tt : St'} {te : Sm} {vs : List Nat} {r : RS}
theorem i_range1 {j : Int} (hf : fa ρ q = .ok [.int j] q1) (hj : -(2 ^ 62) ≤ j ∧ j < 2 ^ 62) : iRange1 fa ρ q = .ok ((ri 0 j).map fun x => .int x) q1 := by
  unfold iRange1
  rw [hf, bind_ok]
  simp only []
  rw [if_pos hj]
  unfold ri
  rw [List.map_map, Int.sub_zero]; rfl
theorem i_range2 {i j : Int} (hf : fa ρ q = .ok [.int i, .int j] q1) (hi : -(2 ^ 62) ≤ i ∧ i < 2 ^ 62) (hj : -(2 ^ 62) ≤ j ∧ j < 2 ^ 62) : iRange2 fa ρ q = .ok ((ri i j).map fun x => .int x) q1 := by
  unfold iRange2
  rw [hf, bind_ok]
  simp only []
  rw [if_pos ⟨hi.1, hi.2, hj.1, hj.2⟩]
  unfold ri
  rw [List.map_map]; rfl
theorem i_enumL (hf : fa ρ q = .ok [.lst (xs.map en)] q1) : iEnumS fa ρ q = .ok (xs.zipIdx.map fun p => .tup [.int (p.2 : Nat), en p.1]) q1 := by
  unfold iEnumS
  rw [hf, bind_ok]
  simp only [List.zipIdx_map, List.map_map]; rfl
/-! #### comprehensions -/
theorem e_lc (hi : fi ρ q = .ok (xs.map en) q1) (hl : xs.length ≤ sizeLine) (hs : ∀ x ∈ xs, ∃ ρ1, tg (en x) (wipeT ρ vs) q1 = some (ρ1, q1) ∧ te ρ1 q1 = .ok (F x) q1) : nLc fi tg tTrue te vs ρ q = .ok (.lst (xs.map F)) q1 := by
  refine nlc_run hi (by rw [List.length_map]; exact hl) ?_
  have main : ∀ (xs : List α) acc, (∀ x ∈ xs, ∃ ρ1, tg (en x) (wipeT ρ vs) q1 = some (ρ1, q1) ∧ te ρ1 q1 = .ok (F x) q1) → lcT tg tTrue te (wipeT ρ vs) (xs.map en) q1 acc = .ok (acc ++ xs.map F) q1 := by
    intro xs
    induction xs with
    | nil => intro acc _; simp [lcT]
    | cons x r ih =>
      intro acc hs
      obtain ⟨ρ1, e1, e2⟩ := hs x (List.mem_cons_self ..)
      rw [List.map_cons]
      unfold lcT
      simp only [e1, e2, ap_True, if_true]
      rw [ih _ fun x m => hs x (List.mem_cons_of_mem _ m)]
      simp
  simpa using main xs [] hs
theorem e_lcf (hi : fi ρ q = .ok (xs.map en) q1) (hl : xs.length ≤ sizeLine) (hs : ∀ x ∈ xs, ∃ ρ1, tg (en x) (wipeT ρ vs) q1 = some (ρ1, q1) ∧ tt ρ1 q1 = .ok (p x) q1 ∧ (p x = true → te ρ1 q1 = .ok (F x) q1)) : nLc fi tg tt te vs ρ q = .ok (.lst ((xs.filter p).map F)) q1 := by
  refine nlc_run hi (by rw [List.length_map]; exact hl) ?_
  have main : ∀ (xs : List α) acc, (∀ x ∈ xs, ∃ ρ1, tg (en x) (wipeT ρ vs) q1 = some (ρ1, q1) ∧ tt ρ1 q1 = .ok (p x) q1 ∧ (p x = true → te ρ1 q1 = .ok (F x) q1)) → lcT tg tt te (wipeT ρ vs) (xs.map en) q1 acc = .ok (acc ++ (xs.filter p).map F) q1 := by
    intro xs
    induction xs with
    | nil => intro acc _; simp [lcT]
    | cons x r ih =>
      intro acc hs
      obtain ⟨ρ1, e1, e2, e3⟩ := hs x (List.mem_cons_self ..)
      rw [List.map_cons]
      have ih := fun acc => ih acc fun x m => hs x (List.mem_cons_of_mem _ m)
      unfold lcT
      cases hp : p x with
      | true =>
        simp only [e1, e2, hp, if_true, e3 hp]
        rw [ih]
        simp [List.filter_cons, hp]
      | false =>
        simp only [e1, e2, hp, Bool.false_eq_true, if_false]
        rw [ih]
        simp [List.filter_cons, hp]
  simpa using main xs [] hs
/-- a comprehension that turns the first cell -/
def mapS {σ : Type} (F : σ → α → β) (N : σ → α → σ) : σ → List α → List β
  | _, [] => []
  | s, x :: xs => F s x :: mapS F N (N s x) xs
theorem mapS_len {σ : Type} {F : σ → α → β} {N : σ → α → σ} : ∀ (xs : List α) (s : σ), (mapS F N s xs).length = xs.length
  | [], _ => rfl
  | x :: xs, s => by rw [mapS, List.length_cons, List.length_cons, mapS_len xs]
theorem truG_run {b0 : Bool} (hs : ∀ x ∈ xs, ∃ ρ1, tg (en x) ρ q = some (ρ1, q) ∧ te ρ1 q = .ok (.bl (p x)) q) : truG b0 tg tTrue te ρ (xs.map en) q = .ok (.bl (if b0 = true then xs.any p else xs.all p)) q := by
  induction xs with
  | nil => cases b0 <;> rfl
  | cons x r ih =>
    obtain ⟨ρ1, e1, e2⟩ := hs x (List.mem_cons_self ..)
    have ih := ih fun x m => hs x (List.mem_cons_of_mem _ m)
    rw [List.map_cons]
    unfold truG
    simp only [e1, e2, ap_True, if_true, ih]
    cases b0 <;> cases hp : p x <;> simp [hp]
theorem e_any (hi : fi ρ q = .ok (xs.map en) q1) (hs : ∀ x ∈ xs, ∃ ρ1, tg (en x) (wipeT ρ vs) q1 = some (ρ1, q1) ∧ te ρ1 q1 = .ok (.bl (p x)) q1) : sTruG true fi tg tTrue te vs ρ q = .ok (.bl (xs.any p)) q1 := by
  unfold sTruG
  rw [hi, bind_ok, truG_run hs]; rfl
theorem e_all (hi : fi ρ q = .ok (xs.map en) q1) (hs : ∀ x ∈ xs, ∃ ρ1, tg (en x) (wipeT ρ vs) q1 = some (ρ1, q1) ∧ te ρ1 q1 = .ok (.bl (p x)) q1) : sTruG false fi tg tTrue te vs ρ q = .ok (.bl (xs.all p)) q1 := by
  unfold sTruG
  rw [hi, bind_ok, truG_run hs]; rfl
theorem sumG_run {k : α → Int} (hs : ∀ x ∈ xs, ∃ ρ1, tg (en x) ρ q = some (ρ1, q) ∧ te ρ1 q = .ok (.int (k x)) q) : ∀ a, sumG tg tTrue te ρ (xs.map en) q a = .ok (.int (a + (xs.map k).sum)) q := by
  induction xs with
  | nil => intro a; simp [sumG]
  | cons x r ih =>
    intro a
    obtain ⟨ρ1, e1, e2⟩ := hs x (List.mem_cons_self ..)
    have ih := ih fun x m => hs x (List.mem_cons_of_mem _ m)
    rw [List.map_cons]
    unfold sumG
    simp only [e1, e2, ap_True, if_true, ih]
    simp [Int.add_assoc]
theorem e_sumG {k : α → Int} (hi : fi ρ q = .ok (xs.map en) q1) (hs : ∀ x ∈ xs, ∃ ρ1, tg (en x) (wipeT ρ vs) q1 = some (ρ1, q1) ∧ te ρ1 q1 = .ok (.int (k x)) q1) : sSumG fi tg tTrue te vs ρ q = .ok (.int (xs.map k).sum) q1 := by
  unfold sSumG
  rw [hi, bind_ok, sumG_run hs, Int.zero_add]
theorem truG_runF {b0 : Bool} {p2 : α → Bool} (hs : ∀ x ∈ xs, ∃ ρ1, tg (en x) ρ q = some (ρ1, q) ∧ tt ρ1 q = .ok (p x) q ∧ (p x = true → te ρ1 q = .ok (.bl (p2 x)) q)) : truG b0 tg tt te ρ (xs.map en) q = .ok (.bl (if b0 = true then (xs.filter p).any p2 else (xs.filter p).all p2)) q := by
  induction xs with
  | nil => cases b0 <;> rfl
  | cons x r ih =>
    obtain ⟨ρ1, e1, e2, e3⟩ := hs x (List.mem_cons_self ..)
    have ih := ih fun x m => hs x (List.mem_cons_of_mem _ m)
    rw [List.map_cons]
    unfold truG
    cases hp : p x with
    | true =>
      simp only [e1, e2, hp, e3 hp, if_true, ih, List.filter_cons]
      cases b0 <;> cases hp2 : p2 x <;> simp [hp2]
    | false =>
      simp only [e1, e2, hp, Bool.false_eq_true, if_false, ih, List.filter_cons]
theorem sumG_runF {k : α → Int} (hs : ∀ x ∈ xs, ∃ ρ1, tg (en x) ρ q = some (ρ1, q) ∧ tt ρ1 q = .ok (p x) q ∧ (p x = true → te ρ1 q = .ok (.int (k x)) q)) : ∀ a, sumG tg tt te ρ (xs.map en) q a = .ok (.int (a + ((xs.filter p).map k).sum)) q := by
  induction xs with
  | nil => intro a; simp [sumG]
  | cons x r ih =>
    intro a
    obtain ⟨ρ1, e1, e2, e3⟩ := hs x (List.mem_cons_self ..)
    have ih := ih fun x m => hs x (List.mem_cons_of_mem _ m)
    rw [List.map_cons]
    unfold sumG
    cases hp : p x with
    | true =>
      simp only [e1, e2, hp, e3 hp, if_true, ih, List.filter_cons]
      simp [Int.add_assoc]
    | false =>
      simp only [e1, e2, hp, Bool.false_eq_true, if_false, ih, List.filter_cons]
theorem e_anyF {p2 : α → Bool} (hi : fi ρ q = .ok (xs.map en) q1) (hs : ∀ x ∈ xs, ∃ ρ1, tg (en x) (wipeT ρ vs) q1 = some (ρ1, q1) ∧ tt ρ1 q1 = .ok (p x) q1 ∧ (p x = true → te ρ1 q1 = .ok (.bl (p2 x)) q1)) : sTruG true fi tg tt te vs ρ q = .ok (.bl ((xs.filter p).any p2)) q1 := by
  unfold sTruG
  rw [hi, bind_ok, truG_runF hs]; rfl
theorem e_allF {p2 : α → Bool} (hi : fi ρ q = .ok (xs.map en) q1) (hs : ∀ x ∈ xs, ∃ ρ1, tg (en x) (wipeT ρ vs) q1 = some (ρ1, q1) ∧ tt ρ1 q1 = .ok (p x) q1 ∧ (p x = true → te ρ1 q1 = .ok (.bl (p2 x)) q1)) : sTruG false fi tg tt te vs ρ q = .ok (.bl ((xs.filter p).all p2)) q1 := by
  unfold sTruG
  rw [hi, bind_ok, truG_runF hs]; rfl
theorem e_sumGF {k : α → Int} (hi : fi ρ q = .ok (xs.map en) q1) (hs : ∀ x ∈ xs, ∃ ρ1, tg (en x) (wipeT ρ vs) q1 = some (ρ1, q1) ∧ tt ρ1 q1 = .ok (p x) q1 ∧ (p x = true → te ρ1 q1 = .ok (.int (k x)) q1)) : sSumG fi tg tt te vs ρ q = .ok (.int ((xs.filter p).map k).sum) q1 := by
  unfold sSumG
  rw [hi, bind_ok, sumG_runF hs, Int.zero_add]
/-! #### objects -/
theorem e_Meth {cn m : Str} {fs : List (Str × T)} (ho : fo ρ q = .ok t q1) (hi : insAt q1 t = some (cn, fs)) (hm : (fs.map (·.1)).contains m = false) (ha : fa ρ q1 = .ok ts q2) (hF : FF (t :: ts) q2 = .ok v q3) : sMeth cn m FF fo fa ρ q = .ok v q3 := by
  unfold sMeth
  rw [ho, bind_ok, hi]
  simp only []
  rw [if_pos ⟨trivial, hm⟩, ha, bind_ok, hF]
theorem e_Fld {ic : Str → Bool} {f' cn : Str} {fs : List (Str × T)} (ho : fo ρ q = .ok t q1) (hi : insAt q1 t = some (cn, fs)) (hc : ic cn = true) (hl : fs.lookup f' = some u) : sFld ic f' fo ρ q = .ok u q1 := by
  unfold sFld
  rw [ho, bind_ok, hi]
  simp only []
  rw [if_pos hc, hl]
theorem e_Make {cn : Str} {fs : List (Str × T)} (ha : fa ρ q = .ok ts q) (hF : FF (.obj q.length :: ts) (q ++ [some (.ins cn [])]) = .ok .non (q ++ [some (.ins cn fs)])) (hp : clB 0 (.ins cn fs) = true) : sClose (sMake cn FF fa) ρ q = .ok (.ins cn fs) q := by
  unfold sClose sMake
  rw [ha, bind_ok, hF, bind_ok]
  exact close_objId (.inr ⟨_, _, rfl⟩) hp
theorem cell_last : cell (q ++ [some t]) q.length = some t := cell_at (by rw [List.getElem?_append_right (Nat.le_refl _), Nat.sub_self]; rfl)
theorem set_last {x y : Option T} : (q ++ [x]).set q.length y = q ++ [y] := by
  rw [List.set_append]
  simp
/-! #### loops -/
end
end SP

namespace SP
open PySem PySem.Spec L2
/-! ### operators and functions on values of known kinds -/
section
variable {α β κ : Type} {xs ys : List α} {en F : α → T} {i j k : Int} {x y : Str} {q : Store} {t u v : T} {ts us : List T} {n : Nat} {b : Bool}
theorem o_addS (h : x.length + y.length ≤ sizeLine) : oAdd (.str x) (.str y) q = .ok (.str (x ++ y)) q := by
  unfold oAdd; simp only []; rw [if_pos h]
theorem o_addT (h : ts.length + us.length ≤ sizeLine) : oAdd (.tup ts) (.tup us) q = .ok (.tup (ts ++ us)) q := by
  unfold oAdd; simp only []; rw [if_pos h]
theorem o_addL (h : ts.length + us.length ≤ sizeLine) : oAdd (.lst ts) (.lst us) q = .ok (.lst (ts ++ us)) q := by
  unfold oAdd; simp only [lstAt]; rw [if_pos h]
theorem o_mulI (h : ((-(2 ^ 64) < i ∧ i < 2 ^ 64) ∨ (-(2 ^ 64) < j ∧ j < 2 ^ 64))) : oMul (.int i) (.int j) q = .ok (.int (i * j)) q := op_mul h
theorem o_divI (h : 0 < j) (h2 : j < 2 ^ 60) : oDiv (.int i) (.int j) q = .ok (.int (i / j)) q :=
  op_div ⟨h, Nat.lt_of_lt_of_le ((Nat.log2_lt (by omega)).mpr (show j.natAbs < 2 ^ 60 by omega)) (by decide : 60 ≤ 9000)⟩
theorem o_modI (h : 0 < j) : oMod (.int i) (.int j) q = .ok (.int (i % j)) q := op_mod h
theorem o_ltS : oLt (.str x) (.str y) q = .ok (.bl (strLt x y)) q := rfl
theorem o_isN : oIsN .non .non q = .ok (.bl true) q := rfl
theorem o_isNot : oIsNot .non .non q = .ok (.bl false) q := rfl
/-! #### plain data -/
theorem dt_nil : ∀ t ∈ ([] : List T), Dt n t := fun _ h => by cases h
theorem dt_cons (h : Dt n t) (r : ∀ t ∈ ts, Dt n t) : ∀ u ∈ t :: ts, Dt n u := fun u m => by
  rcases List.mem_cons.mp m with rfl | m
  · exact h
  · exact r u m
theorem dt_map (h : ∀ x ∈ xs, Dt n (en x)) : ∀ u ∈ xs.map en, Dt n u := fun u m => by
  obtain ⟨x, hx, rfl⟩ := List.mem_map.mp m
  exact h x hx
theorem dt_app (h : ∀ t ∈ ts, Dt n t) (r : ∀ t ∈ us, Dt n t) : ∀ u ∈ ts ++ us, Dt n u := fun u m => (List.mem_append.mp m).elim (h u) (r u)
theorem cl_nil : clsB n [] = true := by unfold clsB; rfl
theorem cl_cons (h : clB n t = true) (r : clsB n ts = true) : clsB n (t :: ts) = true := by unfold clsB; rw [h, r]; rfl
theorem cls_all : ∀ {l : List T}, clsB n l = true ↔ ∀ t ∈ l, clB n t = true
  | [] => by simp [clsB]
  | x :: l => by
    unfold clsB
    rw [Bool.and_eq_true, cls_all (l := l)]
    simp
theorem cl_map (h : ∀ x ∈ xs, clB n (en x) = true) : clsB n (xs.map en) = true := cls_all.mpr fun t m => by
  obtain ⟨x, hx, rfl⟩ := List.mem_map.mp m
  exact h x hx
theorem cl_app (h : clsB n ts = true) (r : clsB n us = true) : clsB n (ts ++ us) = true := cls_all.mpr fun t m => (List.mem_append.mp m).elim (cls_all.mp h t) (cls_all.mp r t)
theorem cl_tup (h : clsB n ts = true) : clB n (.tup ts) = true := by unfold clB; exact h
theorem cl_lst (h : clsB n ts = true) : clB n (.lst ts) = true := by unfold clB; exact h
theorem cl_int : clB n (.int i) = true := by unfold clB; rfl
theorem cl_str : clB n (.str x) = true := by unfold clB; rfl
theorem cl_bl : clB n (.bl b) = true := by unfold clB; rfl
theorem cl_non : clB n .non = true := by unfold clB; rfl
theorem clk_map {kvs : List β} {ek ev : β → T} (h : ∀ p ∈ kvs, clB n (ev p) = true) : clkB n (kvs.map fun p => (ek p, ev p)) = true := by
  induction kvs with
  | nil => unfold clkB; rfl
  | cons p r ih =>
    rw [List.map_cons]
    unfold clkB
    rw [h p (List.mem_cons_self ..), ih fun p m => h p (List.mem_cons_of_mem _ m)]; rfl
theorem cl_dct {kvs : List (T × T)} (h : clkB n kvs = true) : clB n (.dct kvs) = true := by unfold clB; exact h
theorem clf_nil : clfB n [] = true := by unfold clfB; rfl
theorem clf_cons {f : Str} {fs : List (Str × T)} (h : clB n t = true) (r : clfB n fs = true) : clfB n ((f, t) :: fs) = true := by unfold clfB; rw [h, r]; rfl
theorem cl_ins {c : Str} {fs : List (Str × T)} (h : clfB n fs = true) : clB n (.ins c fs) = true := by unfold clB; exact h
/-! #### equality -/
mutual
theorem eqT_self : ∀ {n : Nat} {t : T}, Dt n t → eqT t t = true
  | _, _, .non => by unfold eqT; rfl
  | _, _, .bl => by unfold eqT; simp
  | _, _, .int => by unfold eqT; simp
  | _, _, .str => by unfold eqT; simp
  | n + 1, .tup ts, h => by
    unfold eqT
    exact eqTs_self (n := n) fun t m => by cases h with | tup h => exact h t m
  | n + 1, .lst ts, h => by
    unfold eqT
    exact eqTs_self (n := n) fun t m => by cases h with | lst h => exact h t m
theorem eqTs_self : ∀ {n : Nat} {ts : List T}, (∀ t ∈ ts, Dt n t) → eqTs ts ts = true
  | _, [], _ => by unfold eqTs; rfl
  | n, t :: ts, h => by
    unfold eqTs
    rw [eqT_self (h t (List.mem_cons_self ..)), eqTs_self fun u m => h u (List.mem_cons_of_mem _ m)]; rfl
end
theorem dt_deref (h : Dt n t) : deref q t = t := by cases h <;> rfl
theorem o_eqD (h : Dt 50 t) (h2 : Dt 50 u) : oEq t u q = .ok (.bl (eqT t u)) q := op_eqD h h2 (dt_deref h) (dt_deref h2)
theorem o_neD (h : Dt 50 t) (h2 : Dt 50 u) : oNe t u q = .ok (.bl (!eqT t u)) q := op_neD h h2 (dt_deref h) (dt_deref h2)
theorem o_eqI : oEq (.int i) (.int j) q = .ok (.bl (decide (i = j))) q := op_eqI
theorem eqT_int : eqT (.int i) (.int j) = decide (i = j) := by unfold eqT; by_cases h : i = j <;> simp [h]
theorem eqT_str : eqT (.str x) (.str y) = decide (x = y) := by unfold eqT; by_cases h : x = y <;> simp [h]
theorem o_neI : oNe (.int i) (.int j) q = .ok (.bl (decide (i ≠ j))) q := by
  rw [o_neD .int .int, eqT_int]; by_cases h : i = j <;> simp [h]
theorem o_eqS : oEq (.str x) (.str y) q = .ok (.bl (decide (x = y))) q := by rw [o_eqD .str .str, eqT_str]
theorem o_neS : oNe (.str x) (.str y) q = .ok (.bl (decide (x ≠ y))) q := by
  rw [o_neD .str .str, eqT_str]; by_cases h : x = y <;> simp [h]
/-- an encoder whose equality is that of the things themselves -/
class EqE {α : Type} (e : α → T) : Prop where
  eq : ∀ a b, eqT (e a) (e b) = true ↔ a = b
instance : EqE T.int := ⟨fun a b => by rw [eqT_int]; simp⟩
instance : EqE T.str := ⟨fun a b => by rw [eqT_str]; simp⟩
/-! #### places -/
theorem ixN_at {n : Nat} (h : 0 ≤ i) (h2 : i < n) : ixN n i = some i.toNat := by
  unfold ixN; rw [if_pos h, if_pos h2]
theorem atI_map [Inhabited α] (h : 0 ≤ i) (h2 : i < xs.length) : L2.atI (xs.map en) i = some (en (gi xs i)) := by
  unfold L2.atI
  rw [List.length_map, ixN_at h h2]
  have hn : i.toNat < xs.length := by omega
  simp only [Option.bind_some, List.getElem?_map, List.getElem?_eq_getElem hn, Option.map_some, gi, List.getD_eq_getElem?_getD, Option.getD_some]
theorem o_ixT (h : L2.atI ts k = some t) : oIx (.tup ts) (.int k) q = .ok t q := by
  unfold oIx; simp [dctAt, seqAt, lstAt, h]
theorem o_ixL (h : L2.atI ts k = some t) : oIx (.lst ts) (.int k) q = .ok t q := by
  unfold oIx; simp [dctAt, seqAt, lstAt, h]
theorem o_ixTm [Inhabited α] (h : 0 ≤ i) (h2 : i < xs.length) : oIx (.tup (xs.map en)) (.int i) q = .ok (en (gi xs i)) q := o_ixT (atI_map h h2)
theorem o_ixLm [Inhabited α] (h : 0 ≤ i) (h2 : i < xs.length) : oIx (.lst (xs.map en)) (.int i) q = .ok (en (gi xs i)) q := o_ixL (atI_map h h2)
theorem o_ixO (hc : cell q n = some (.lst ts)) (h : L2.atI ts k = some t) : oIx (.obj n) (.int k) q = .ok t q := op_ixO hc h
/-! #### functions -/
theorem f_lenM : fLen [.lst (xs.map en)] q = .ok (.int xs.length) q := by unfold fLen; simp [seqAt, lstAt]
theorem f_lenMT : fLen [.tup (xs.map en)] q = .ok (.int xs.length) q := by unfold fLen; simp [seqAt, lstAt]
theorem f_lenL : fLen [.lst ts] q = .ok (.int ts.length) q := by unfold fLen; simp [seqAt, lstAt]
theorem f_lenT : fLen [.tup ts] q = .ok (.int ts.length) q := by unfold fLen; simp [seqAt, lstAt]
theorem f_lenD {kvs : List β} {G : β → T × T} : fLen [.dct (kvs.map G)] q = .ok (.int kvs.length) q := by unfold fLen; simp [seqAt, lstAt, dctAt]
theorem f_abs : fAbs [.int i] q = .ok (.int (i.natAbs : Int)) q := by
  unfold fAbs
  simp only []
  congr 2
  split <;> omega
theorem f_max2 : fMax2 [.int i, .int j] q = .ok (.int (max i j)) q := by
  unfold fMax2
  simp only []
  congr 2
  split <;> omega
theorem f_min2 : fMin2 [.int i, .int j] q = .ok (.int (min i j)) q := by
  unfold fMin2
  simp only []
  congr 2
  split <;> omega
theorem f_int : fInt [.int i] q = .ok (.int i) q := rfl
theorem f_intB : fInt [.bl b] q = .ok (.int (if b = true then 1 else 0)) q := rfl
theorem intsT_map {h : α → Int} : ∀ xs : List α, intsT (xs.map fun x => .int (h x)) = some (xs.map h)
  | [] => rfl
  | x :: xs => by
    rw [List.map_cons]
    unfold intsT
    rw [intsT_map xs]; rfl
theorem f_sumL {h : α → Int} : fSum [.lst (xs.map fun x => .int (h x))] q = .ok (.int (xs.map h).sum) q := by
  unfold fSum; simp [seqAt, lstAt, intsT_map]
theorem f_sumT {h : α → Int} : fSum [.tup (xs.map fun x => .int (h x))] q = .ok (.int (xs.map h).sum) q := by
  unfold fSum; simp [seqAt, lstAt, intsT_map]
theorem f_tup : fTup [.lst ts] q = .ok (.tup ts) q := rfl
theorem f_tupT : fTup [.tup ts] q = .ok (.tup ts) q := rfl
theorem f_lst : fLst [.lst ts] q = .ok (.lst ts) q := rfl
theorem f_lstT : fLst [.tup ts] q = .ok (.lst ts) q := rfl
theorem f_lstD {kvs : List β} {ek ev : β → T} : fLst [.dct (kvs.map fun p => (ek p, ev p))] q = .ok (.lst (kvs.map fun p => ek p)) q := by
  unfold fLst; simp [seqAt, lstAt, dctAt, Function.comp_def]
theorem f_str (h : i.natAbs < 2 ^ 60) : fStr [.int i] q = .ok (.str (toString i)) q := by
  unfold fStr
  simp only []
  rw [if_pos]
  by_cases h0 : i.natAbs = 0
  · rw [h0]; decide
  · exact Nat.lt_of_lt_of_le ((Nat.log2_lt h0).mpr h) (by decide : 60 ≤ 1920)
theorem f_strS : fStr [.str x] q = .ok (.str x) q := rfl
/-! #### cuts -/
theorem cut_to {j : Int} (h : 0 ≤ j) : cutT ts none (some j) = ts.take j.toNat := by
  unfold cutT
  have e0 : HT.sIx ts.length 0 none = 0 := rfl
  have e1 : HT.sIx ts.length ts.length (some j) = min j.toNat ts.length := by
    show (if _ < 0 then _ else _) = _
    rw [if_neg (by omega)]
  rw [e0, e1, List.drop_zero, Nat.sub_zero]
  rw [← List.take_take, List.take_length]
theorem cut_from {j : Int} (h : 0 ≤ j) : cutT ts (some j) none = ts.drop j.toNat := by
  unfold cutT
  have e0 : HT.sIx ts.length ts.length none = ts.length := rfl
  have e1 : HT.sIx ts.length 0 (some j) = min j.toNat ts.length := by
    show (if _ < 0 then _ else _) = _
    rw [if_neg (by omega)]
  rw [e0, e1]
  rcases Nat.le_total j.toNat ts.length with h | h
  · rw [Nat.min_eq_left h]
    exact List.take_of_length_le (by rw [List.length_drop]; omega)
  · rw [Nat.min_eq_right h, Nat.sub_self, List.drop_of_length_le h]; rfl
theorem cut_mid {i j : Int} (h : 0 ≤ i) (h2 : 0 ≤ j) : cutT ts (some i) (some j) = (ts.take j.toNat).drop i.toNat := by
  unfold cutT
  have e0 : HT.sIx ts.length ts.length (some j) = min j.toNat ts.length := by
    show (if _ < 0 then _ else _) = _
    rw [if_neg (by omega)]
  have e1 : HT.sIx ts.length 0 (some i) = min i.toNat ts.length := by
    show (if _ < 0 then _ else _) = _
    rw [if_neg (by omega)]
  rw [e0, e1]
  refine List.ext_getElem? fun k => ?_
  simp only [List.getElem?_take, List.getElem?_drop]
  by_cases hk : min i.toNat ts.length + k < ts.length
  · by_cases h3 : i.toNat + k < j.toNat
    · rw [if_pos (by omega), if_pos h3, show min i.toNat ts.length = i.toNat by omega]
    · rw [if_neg (by omega), if_neg h3]
  · rw [List.getElem?_eq_none (by omega), ite_self]
    split
    · rw [List.getElem?_eq_none (by omega)]
    · rfl
section
variable {f : Sm} {fl fh : TEnv → Store → R (Option Int)} {ρ : TEnv} {q1 q2 q3 : Store}
theorem p_no : sNoPart ρ q = .ok none q := rfl
theorem p_some {f : Sm} (h : f ρ q = .ok (.int i) q1) : sPart f ρ q = .ok (some i) q1 := by unfold sPart; rw [h, bind_ok]
end
theorem cut_toM {j : Int} (h : 0 ≤ j) : cutT (xs.map en) none (some j) = (xs.take j.toNat).map en := by rw [cut_to h, List.map_take]
theorem cut_fromM {j : Int} (h : 0 ≤ j) : cutT (xs.map en) (some j) none = (xs.drop j.toNat).map en := by rw [cut_from h, List.map_drop]
theorem cut_midM {i j : Int} (h : 0 ≤ i) (h2 : 0 ≤ j) : cutT (xs.map en) (some i) (some j) = ((xs.take j.toNat).drop i.toNat).map en := by rw [cut_mid h h2, List.map_drop, List.map_take]
/-! #### is it in -/
open Classical in
theorem in_at (neg : Bool) {tl : T} (e : seqAt q tl = some us) (hd : dctAt q tl = none) (hs : ∀ z, tl ≠ .str z) (h : Dt 50 t) (h2 : ∀ u ∈ us, Dt 50 u) : oInA neg t tl q = .ok (.bl (inT t us != neg)) q := by
  unfold oInA
  rw [hd]
  show oIn neg t tl q = _
  have : oIn neg t tl q = match seqAt q tl with
    | some us => if Dt 50 t ∧ ∀ u ∈ us, Dt 50 u then R.ok (T.bl (inT t us != neg)) q else .stuck
    | none => .stuck := by
    cases tl <;> first | exact absurd rfl (hs _) | skip
    all_goals cases t <;> rfl
  rw [this, e]
  simp only []
  rw [if_pos ⟨h, h2⟩]
theorem o_inL (neg : Bool) (h : Dt 50 t) (h2 : ∀ x ∈ xs, Dt 50 (en x)) : oInA neg t (.lst (xs.map en)) q = .ok (.bl ((xs.any fun x => eqT (en x) t) != neg)) q := by
  rw [in_at neg (us := xs.map en) rfl rfl (fun z e => by cases e) h (dt_map h2)]
  unfold inT
  rw [List.any_map]; rfl
theorem o_inT (neg : Bool) (h : Dt 50 t) (h2 : ∀ x ∈ xs, Dt 50 (en x)) : oInA neg t (.tup (xs.map en)) q = .ok (.bl ((xs.any fun x => eqT (en x) t) != neg)) q := by
  rw [in_at neg (us := xs.map en) rfl rfl (fun z e => by cases e) h (dt_map h2)]
  unfold inT
  rw [List.any_map]; rfl
theorem any_str {h : α → Str} : (xs.any fun a => eqT (.str (h a)) (.str x)) = decide (x ∈ xs.map h) := by
  induction xs with
  | nil => rfl
  | cons y r ih => rw [List.any_cons, ih, eqT_str, List.map_cons, decide_eq_decide.mpr List.mem_cons, Bool.decide_or, decide_eq_decide.mpr (eq_comm (a := x))]
theorem any_int {h : α → Int} : (xs.any fun a => eqT (.int (h a)) (.int i)) = decide (i ∈ xs.map h) := by
  induction xs with
  | nil => rfl
  | cons y r ih => rw [List.any_cons, ih, eqT_int, List.map_cons, decide_eq_decide.mpr List.mem_cons, Bool.decide_or, decide_eq_decide.mpr (eq_comm (a := i))]
theorem bne_tr {P : Prop} [Decidable P] : (decide P != true) = decide ¬P := by by_cases h : P <;> simp [h]
theorem o_inLS {h : α → Str} : oInA false (.str x) (.lst (xs.map fun a => .str (h a))) q = .ok (.bl (decide (x ∈ xs.map h))) q := by
  rw [o_inL false .str fun _ _ => .str, any_str]; simp
theorem o_ninLS {h : α → Str} : oInA true (.str x) (.lst (xs.map fun a => .str (h a))) q = .ok (.bl (decide (x ∉ xs.map h))) q := by
  rw [o_inL true .str fun _ _ => .str, any_str, bne_tr]
theorem o_inTS {h : α → Str} : oInA false (.str x) (.tup (xs.map fun a => .str (h a))) q = .ok (.bl (decide (x ∈ xs.map h))) q := by
  rw [o_inT false .str fun _ _ => .str, any_str]; simp
theorem o_ninTS {h : α → Str} : oInA true (.str x) (.tup (xs.map fun a => .str (h a))) q = .ok (.bl (decide (x ∉ xs.map h))) q := by
  rw [o_inT true .str fun _ _ => .str, any_str, bne_tr]
theorem o_inLI {h : α → Int} : oInA false (.int i) (.lst (xs.map fun a => .int (h a))) q = .ok (.bl (decide (i ∈ xs.map h))) q := by
  rw [o_inL false .int fun _ _ => .int, any_int]; simp
theorem o_ninLI {h : α → Int} : oInA true (.int i) (.lst (xs.map fun a => .int (h a))) q = .ok (.bl (decide (i ∉ xs.map h))) q := by
  rw [o_inL true .int fun _ _ => .int, any_int, bne_tr]
theorem o_inTI {h : α → Int} : oInA false (.int i) (.tup (xs.map fun a => .int (h a))) q = .ok (.bl (decide (i ∈ xs.map h))) q := by
  rw [o_inT false .int fun _ _ => .int, any_int]; simp
theorem o_ninTI {h : α → Int} : oInA true (.int i) (.tup (xs.map fun a => .int (h a))) q = .ok (.bl (decide (i ∉ xs.map h))) q := by
  rw [o_inT true .int fun _ _ => .int, any_int, bne_tr]
/-! #### lists that are being filled -/
end
end SP

namespace SP
open PySem PySem.Spec L2
/-! ### dictionaries of known kinds -/
class KeyE {κ : Type} [DecidableEq κ] (e : κ → T) : Prop where
  eq : ∀ a b, kEq (e a) (e b) = decide (a = b)
  key : ∀ a, ∃ k, keyT (e a) = some k
instance : KeyE T.int := ⟨fun a b => rfl, fun a => ⟨_, rfl⟩⟩
instance : KeyE T.str := ⟨fun a b => rfl, fun a => ⟨_, rfl⟩⟩
section
variable {α β κ ν : Type} [DecidableEq κ] {ek : κ → T} {ev : ν → T} [hk : KeyE ek] {kvs : List (κ × ν)} {k : κ} {v : ν} {q : Store} {n : Nat}
def aget (kvs : List (κ × ν)) (k : κ) : Option ν := (kvs.find? fun p => decide (p.1 = k)).map (·.2)
def aput (kvs : List (κ × ν)) (k : κ) (v : ν) : List (κ × ν) := if (kvs.any fun p => decide (p.1 = k)) = true then kvs.map (fun p => if p.1 = k then (p.1, v) else p) else kvs ++ [(k, v)]
def amer (ps : List (κ × ν)) : List (κ × ν) := ps.foldl (fun acc p => aput acc p.1 p.2) []
/-- a dictionary by its kinds -/
def eD (ek : κ → T) (ev : ν → T) (kvs : List (κ × ν)) : T := .dct (kvs.map fun p => (ek p.1, ev p.2))
include hk in
theorem dval_map : dval (kvs.map fun p => (ek p.1, ev p.2)) (ek k) = (aget kvs k).map ev := by
  unfold dval aget
  rw [List.find?_map]
  have : (fun p : T × T => kEq p.1 (ek k)) ∘ (fun p : κ × ν => (ek p.1, ev p.2)) = fun p => decide (p.1 = k) := by
    funext p; exact KeyE.eq (e := ek) _ _
  rw [this]
  cases kvs.find? fun p => decide (p.1 = k) <;> rfl
include hk in
theorem dput_map : dput (kvs.map fun p => (ek p.1, ev p.2)) (ek k) (ev v) = (aput kvs k v).map fun p => (ek p.1, ev p.2) := by
  unfold dput aput
  rw [List.any_map]
  have : (fun p : T × T => kEq p.1 (ek k)) ∘ (fun p : κ × ν => (ek p.1, ev p.2)) = fun p => decide (p.1 = k) := by
    funext p; exact KeyE.eq (e := ek) _ _
  rw [this]
  split
  · rw [List.map_map, List.map_map]
    refine List.map_congr_left fun p _ => ?_
    simp only [Function.comp, KeyE.eq]
    by_cases h : p.1 = k <;> simp [h]
  · rw [List.map_append]; rfl
include hk in
theorem merge_map (ps : List (κ × ν)) : mergeT (ps.map fun p => (ek p.1, ev p.2)) = (amer ps).map fun p => (ek p.1, ev p.2) := by
  unfold mergeT amer
  have main : ∀ (ps acc : List (κ × ν)), (ps.map fun p => (ek p.1, ev p.2)).foldl (fun acc p => dput acc p.1 p.2) (acc.map fun p => (ek p.1, ev p.2)) = (ps.foldl (fun acc p => aput acc p.1 p.2) acc).map fun p => (ek p.1, ev p.2) := by
    intro ps
    induction ps with
    | nil => intro acc; rfl
    | cons p r ih =>
      intro acc
      rw [List.map_cons, List.foldl_cons, List.foldl_cons, dput_map, ih]
  exact main ps []
include hk in
theorem pairs_map (ps : List (κ × ν)) : pairsT (ps.map fun p => .tup [ek p.1, ev p.2]) = some (ps.map fun p => (ek p.1, ev p.2)) := by
  induction ps with
  | nil => rfl
  | cons p r ih =>
    obtain ⟨z, hz⟩ := KeyE.key (e := ek) p.1
    rw [List.map_cons]
    unfold pairsT
    rw [hz, ih]; rfl
include hk in
theorem f_dictL (ps : List (κ × ν)) : fDict [.lst (ps.map fun p => .tup [ek p.1, ev p.2])] q = .ok (eD ek ev (amer ps)) q := by
  unfold fDict
  simp only [lstAt, pairs_map, merge_map]; rfl
include hk in
theorem f_dictF (xs : List α) (h : α → κ) (g : α → ν) : fDict [.lst (xs.map fun x => .tup [ek (h x), ev (g x)])] q = .ok (eD ek ev (amer (xs.map fun x => (h x, g x)))) q := by
  have := f_dictL (ek := ek) (ev := ev) (q := q) (xs.map fun x => (h x, g x))
  rw [List.map_map] at this
  exact this
include hk in
theorem o_ixD (h : aget kvs k = some v) : oIx (eD ek ev kvs) (ek k) q = .ok (ev v) q := by
  obtain ⟨z, hz⟩ := KeyE.key (e := ek) k
  unfold oIx eD
  simp only [dctAt, hz, dval_map, h, Option.map_some]
theorem aget_some : (aget kvs k).isSome = decide (k ∈ kvs.map (·.1)) := by
  unfold aget
  rw [Option.isSome_map, Bool.eq_iff_iff, List.find?_isSome]
  simp
include hk in
theorem o_inD : oInA false (ek k) (eD ek ev kvs) q = .ok (.bl (decide (k ∈ kvs.map (·.1)))) q := by
  obtain ⟨z, hz⟩ := KeyE.key (e := ek) k
  unfold oInA eD
  simp only [dctAt, hz, dval_map, Option.isSome_map, aget_some]
  simp
include hk in
theorem o_ninD : oInA true (ek k) (eD ek ev kvs) q = .ok (.bl (decide (k ∉ kvs.map (·.1)))) q := by
  obtain ⟨z, hz⟩ := KeyE.key (e := ek) k
  unfold oInA eD
  simp only [dctAt, hz, dval_map, Option.isSome_map, aget_some, bne_tr]
theorem f_lenE : fLen [eD ek ev kvs] q = .ok (.int kvs.length) q := f_lenD
theorem f_lstE : fLst [eD ek ev kvs] q = .ok (.lst (kvs.map fun p => ek p.1)) q := f_lstD
theorem cl_eD {n : Nat} (h : ∀ p ∈ kvs, clB n (ev p.2) = true) : clB n (eD ek ev kvs) = true := cl_dct (clk_map h)
/-! #### the plain lists of pairs -/
end
/-! ### the order of plain data -/
mutual
theorem eqv_enc : ∀ {t u : T}, datB t = true → datB u = true → PySem.W.alike (encT t) (encT u) = true → PyData.eqv (encT t) (encT u) = true → t = u
  | .int i, u, _, hu, ha, h => by
    cases u <;> simp only [encT, PySem.W.alike, datB, Bool.false_eq_true] at ha hu
    simpa [encT, PyData.eqv] using h
  | .str i, u, _, hu, ha, h => by
    cases u <;> simp only [encT, PySem.W.alike, datB, Bool.false_eq_true] at ha hu
    simpa [encT, PyData.eqv] using h
  | .bl i, u, _, hu, ha, h => by
    cases u <;> simp only [encT, PySem.W.alike, datB, Bool.false_eq_true] at ha hu
    simpa [encT, PyData.eqv] using h
  | .tup ts, u, ht, hu, ha, h => by
    cases u <;> simp only [encT, PySem.W.alike, datB, Bool.false_eq_true] at ha hu
    unfold datB at ht
    simp only [encT, PyData.eqv] at h
    rw [eqvs_enc ht hu ha h]
  | .non, _, h, _, _, _ => by simp [datB] at h
  | .lst _, _, h, _, _, _ => by simp [datB] at h
  | .dct _, _, h, _, _, _ => by simp [datB] at h
  | .dcu _, _, h, _, _, _ => by simp [datB] at h
  | .ins _ _, _, h, _, _, _ => by simp [datB] at h
  | .obj _, _, h, _, _, _ => by simp [datB] at h
  | .fz _, _, h, _, _, _ => by simp [datB] at h
theorem eqvs_enc : ∀ {ts us : List T}, datsB ts = true → datsB us = true → PySem.W.alikeAll (encTs ts) (encTs us) = true → PyData.eqvAll (encTs ts) (encTs us) = true → ts = us
  | [], [], _, _, _, _ => rfl
  | [], u :: us, _, _, _, h => by simp [encTs, PyData.eqvAll] at h
  | t :: ts, [], _, _, _, h => by simp [encTs, PyData.eqvAll] at h
  | t :: ts, u :: us, ht, hu, ha, h => by
    unfold encTs at ha h
    unfold datsB at ht hu
    rw [Bool.and_eq_true] at ht hu
    rw [PySem.W.eqv_all_cons, Bool.and_eq_true] at h
    have ha := PySem.W.alike_all_cons ha
    rw [eqv_enc ht.1 hu.1 ha.1 h.1, eqvs_enc ht.2 hu.2 ha.2 h.2]
end
def lt2 (t u : T) : Bool := PyProof.Rows.lexLt PyProof.Rows.itemOrd (PySem.W.keyToks (encT t)) (PySem.W.keyToks (encT u))
end SP

namespace SP
open PySem PySem.Spec L2
/-! ### plain data of one kind, by encoders -/
structure DatE {α : Type} (d : Nat) (e : α → T) : Prop where
  dat : ∀ a, datB (e a) = true
  alk : ∀ a b, PySem.W.alike (encT (e a)) (encT (e b)) = true
  dep : ∀ a, PyData.depth (encT (e a)) ≤ d
structure DatsE {α : Type} (d : Nat) (e : α → List T) : Prop where
  dat : ∀ a, datsB (e a) = true
  alk : ∀ a b, PySem.W.alikeAll (encTs (e a)) (encTs (e b)) = true
  dep : ∀ a, PyData.depthAll (encTs (e a)) ≤ d
section
variable {α β : Type} {d : Nat}
theorem DatE.int {f : α → Int} : DatE d fun x => .int (f x) := ⟨fun _ => by simp [datB], fun _ _ => by simp [encT, PySem.W.alike], fun _ => by simp [encT, PyData.depth]⟩
theorem DatE.str {f : α → Str} : DatE d fun x => .str (f x) := ⟨fun _ => by simp [datB], fun _ _ => by simp [encT, PySem.W.alike], fun _ => by simp [encT, PyData.depth]⟩
theorem DatE.bl {f : α → Bool} : DatE d fun x => .bl (f x) := ⟨fun _ => by simp [datB], fun _ _ => by simp [encT, PySem.W.alike], fun _ => by simp [encT, PyData.depth]⟩
theorem DatE.tup {g : α → List T} (h : DatsE d g) : DatE (d + 1) fun x => .tup (g x) := ⟨fun a => by unfold datB; exact h.dat a, fun a b => by simp only [encT, PySem.W.alike]; exact h.alk a b, fun a => by simp only [encT, PyData.depth]; exact Nat.succ_le_succ (h.dep a)⟩
theorem DatsE.nil : DatsE d fun _ : α => ([] : List T) := ⟨fun _ => by unfold datsB; rfl, fun _ _ => by simp [encTs, PySem.W.alikeAll], fun _ => by simp [encTs, PyData.depthAll]⟩
theorem DatsE.cons {f : α → T} {g : α → List T} (h : DatE d f) (h2 : DatsE d g) : DatsE d fun x => f x :: g x := ⟨fun a => by unfold datsB; rw [h.dat, h2.dat]; rfl, fun a b => by simp only [encTs, PySem.W.alikeAll, h.alk, h2.alk]; rfl, fun a => by simp only [encTs, PyData.depthAll]; exact Nat.max_le.mpr ⟨h.dep a, h2.dep a⟩⟩
theorem DatsE.map {e : β → T} {g : α → List β} (h : DatE d e) : DatsE d fun x => (g x).map e := by
  have dat : ∀ l : List β, datsB (l.map e) = true := fun l => by
    induction l with
    | nil => unfold datsB; rfl
    | cons x r ih => rw [List.map_cons]; unfold datsB; rw [h.dat, ih]; rfl
  have alk : ∀ l m : List β, PySem.W.alikeAll (encTs (l.map e)) (encTs (m.map e)) = true := fun l => by
    induction l with
    | nil => intro m; simp [encTs, PySem.W.alikeAll]
    | cons x r ih =>
      intro m
      cases m with
      | nil => simp [encTs, PySem.W.alikeAll]
      | cons y m => simp only [List.map_cons, encTs, PySem.W.alikeAll, h.alk, ih]; rfl
  have dep : ∀ l : List β, PyData.depthAll (encTs (l.map e)) ≤ d := fun l => by
    induction l with
    | nil => simp [encTs, PyData.depthAll]
    | cons x r ih => simp only [List.map_cons, encTs, PyData.depthAll]; exact Nat.max_le.mpr ⟨h.dep x, ih⟩
  exact ⟨fun a => dat _, fun a b => alk _ _, fun a => dep _⟩
theorem DatE.comp {e : β → T} {f : α → β} (h : DatE d e) : DatE d fun x => e (f x) := ⟨fun _ => h.dat _, fun _ _ => h.alk _ _, fun _ => h.dep _⟩
theorem DatE.ok {e : α → T} (h : DatE d e) (hd : d ≤ 40) (xs : List α) : DatOk (xs.map e) := by
  refine ⟨?_, ?_, ?_⟩
  · rw [List.all_map, List.all_eq_true]
    exact fun x _ => h.dat x
  · intro t ht u hu
    obtain ⟨x, _, rfl⟩ := List.mem_map.mp ht
    obtain ⟨y, _, rfl⟩ := List.mem_map.mp hu
    exact h.alk x y
  · have := (DatsE.map (g := fun _ : Unit => xs) h).dep ()
    exact Nat.le_trans this hd
/-- the first of the least -/
def minE (F : α → T) (a : α) (l : List α) : α := l.foldl (fun a y => if ltD (F y) (F a) = true then y else a) a
def maxE (F : α → T) (a : α) (l : List α) : α := l.foldl (fun a y => if ltD (F a) (F y) = true then y else a) a
/-- the least of a row of whole numbers, and the most -/
def minI : List Int → Int
  | [] => 0
  | x :: l => l.foldl min x
def maxI : List Int → Int
  | [] => 0
  | x :: l => l.foldl max x
theorem ltD_int (i j : Int) : ltD (.int i) (.int j) = decide (i < j) := by
  unfold ltD
  simp only [encT]
  exact PySem.W.dataLt_int i j
theorem minT_ints : ∀ (l : List Int) (x : Int), minT (.int x) (l.map .int) = .int (l.foldl min x)
  | [], _ => rfl
  | y :: l, x => by
    have e : minT (.int x) ((y :: l).map .int) = minT (if ltD (.int y) (.int x) = true then .int y else .int x) (l.map .int) := rfl
    rw [e, ltD_int, List.foldl_cons]
    by_cases h : y < x
    · rw [if_pos (decide_eq_true h), Int.min_eq_right (by omega), minT_ints l y]
    · rw [if_neg (by simpa using h), Int.min_eq_left (by omega), minT_ints l x]
theorem maxT_ints : ∀ (l : List Int) (x : Int), maxT (.int x) (l.map .int) = .int (l.foldl max x)
  | [], _ => rfl
  | y :: l, x => by
    have e : maxT (.int x) ((y :: l).map .int) = maxT (if ltD (.int x) (.int y) = true then .int y else .int x) (l.map .int) := rfl
    rw [e, ltD_int, List.foldl_cons]
    by_cases h : x < y
    · rw [if_pos (decide_eq_true h), Int.max_eq_right (by omega), maxT_ints l y]
    · rw [if_neg (by simpa using h), Int.max_eq_left (by omega), maxT_ints l x]
section
variable {q : Store} {xs : List α} {F : α → T}
theorem f_minI {h : α → Int} (hx : xs ≠ []) : fMin [.lst (xs.map fun x => .int (h x))] q = .ok (.int (minI (xs.map h))) q := by
  cases xs with
  | nil => exact absurd rfl hx
  | cons a l =>
    unfold fMin
    simp only [seqAt, lstAt, List.map_cons]
    rw [if_pos (by have := (DatE.int (d := 0) (f := h)).ok (by decide) (a :: l); rwa [List.map_cons] at this)]
    have := minT_ints (l.map h) (h a)
    rw [List.map_map] at this
    exact congrArg (R.ok · q) this
theorem f_maxI {h : α → Int} (hx : xs ≠ []) : fMax [.lst (xs.map fun x => .int (h x))] q = .ok (.int (maxI (xs.map h))) q := by
  cases xs with
  | nil => exact absurd rfl hx
  | cons a l =>
    unfold fMax
    simp only [seqAt, lstAt, List.map_cons]
    rw [if_pos (by have := (DatE.int (d := 0) (f := h)).ok (by decide) (a :: l); rwa [List.map_cons] at this)]
    have := maxT_ints (l.map h) (h a)
    rw [List.map_map] at this
    exact congrArg (R.ok · q) this
theorem f_minTI {h : α → Int} (hx : xs ≠ []) : fMin [.tup (xs.map fun x => .int (h x))] q = .ok (.int (minI (xs.map h))) q := f_minI (q := q) hx
theorem f_maxTI {h : α → Int} (hx : xs ≠ []) : fMax [.tup (xs.map fun x => .int (h x))] q = .ok (.int (maxI (xs.map h))) q := f_maxI (q := q) hx
/-! #### sorting -/
/-- the sorted row, as a row of the things -/
def sortE (F : α → T) (xs : List α) : List α := xs.mergeSort fun a b => leD (F a) (F b)
theorem sort_map (F : α → T) (xs : List α) : sortT (xs.map F) = (sortE F xs).map F := by
  unfold sortT sortE
  exact (List.map_mergeSort (f := F) (s := leD) (r := fun a b => leD (F a) (F b)) fun a _ b _ => rfl).symm
theorem strsOf_ok {kvs : List α} {ek : α → Str} {ev : α → T} : strsOf (kvs.map fun p => (.str (ek p), ev p)) = some (kvs.map ek) := by
  induction kvs with
  | nil => rfl
  | cons p r ih =>
    rw [List.map_cons]
    unfold strsOf
    rw [ih]; rfl
theorem f_sortD {ν : Type} {ev : ν → T} {kvs : List (Str × ν)} (hl : kvs.length < 64) : fSortD [eD .str ev kvs] q = .ok (.lst ((sortE T.str (kvs.map (·.1))).map T.str)) q := by
  unfold fSortD eD
  have e : strsOf (kvs.map fun p => (T.str p.1, ev p.2)) = some (kvs.map (·.1)) := strsOf_ok
  simp only [e, List.length_map]
  rw [if_pos hl, ← sort_map]
  simp only [List.map_map]; rfl
/-! #### min by a key -/
end
end
end SP

namespace SP
open PySem PySem.Spec L2
theorem i_seq {f : Sm} {ρ : TEnv} {q q1 : Store} {t : T} {ts : List T} (hf : f ρ q = .ok t q1) (hw : walkT t = some ts) : iSeq f ρ q = .ok ts q1 := by
  unfold iSeq; rw [hf, bind_ok]; simp only [hw]
theorem walk_D {κ ν : Type} {ek : κ → T} {ev : ν → T} {kvs : List (κ × ν)} : walkT (eD ek ev kvs) = some (kvs.map fun p => ek p.1) := by
  unfold walkT eD
  simp only [List.map_map]; rfl
/-! ### the dice -/
structure Dc where
  a : Int
  b : Int
  c : Int
def eDc (d : Dc) : T := .lst [.int d.a, .int d.b, .int d.c]
def lcg (d : Dc) : Int := (d.a * 48271 + d.b * 69621 + 11) % 2147483647
def easy (d : Dc) : Bool := decide (d.c = 2) || (decide (d.c = 1) && decide (0 < d.a))
def dv (m : Int) (d : Dc) : Int := if easy d = true then d.a % m else (lcg d / 7 + lcg d) % m
def dn (m : Int) (d : Dc) : Dc := if easy d = true then ⟨d.a / m, d.b, d.c⟩ else ⟨lcg d, d.b + 1, 0⟩
theorem dv_ge {m : Int} (h : 0 < m) (d : Dc) : 0 ≤ dv m d := by unfold dv; split <;> exact Int.emod_nonneg _ (by omega)
theorem dv_lt {m : Int} (h : 0 < m) (d : Dc) : dv m d < m := by unfold dv; split <;> exact Int.emod_lt_of_pos _ h
noncomputable def bRoll : Ss := (xSeq (xIf (tOr' (tBl (sOp oEq (sOp oIx (sVar 0) (sC (.int 2))) (sC (.int 2)))) (tAn (tBl (sOp oEq (sOp oIx (sVar 0) (sC (.int 2))) (sC (.int 1)))) (tBl (sOp oGt (sOp oIx (sVar 0) (sC (.int 0))) (sC (.int 0)))))) (xSeq (xSet 2 (sOp oMod (sCall fInt (aCons (sOp oIx (sVar 0) (sC (.int 0))) aNil)) (sVar 1))) (xSeq (xSubL (sVar 0) (sC (.int 0)) (sOp oDiv (sOp oIx (sVar 0) (sC (.int 0))) (sVar 1))) (xSeq (xRet (sVar 2)) xNil))) xNil) (xSeq (xSubL (sVar 0) (sC (.int 2)) (sC (.int 0))) (xSeq (xSubL (sVar 0) (sC (.int 0)) (sOp oMod (sCall fInt (aCons (sOp oAdd (sOp oAdd (sOp oMul (sOp oIx (sVar 0) (sC (.int 0))) (sC (.int 48271))) (sOp oMul (sOp oIx (sVar 0) (sC (.int 1))) (sC (.int 69621)))) (sC (.int 11))) aNil)) (sC (.int 2147483647)))) (xSeq (xSubL (sVar 0) (sC (.int 1)) (sOp oAdd (sOp oIx (sVar 0) (sC (.int 1))) (sC (.int 1)))) (xSeq (xRet (sOp oMod (sCall fInt (aCons (sOp oAdd (sOp oDiv (sOp oIx (sVar 0) (sC (.int 0))) (sC (.int 7))) (sOp oIx (sVar 0) (sC (.int 0)))) aNil)) (sVar 1))) xNil)))))
theorem ixO {d : Dc} {q : Store} {n : Nat} {k : Int} {t : T} (hc : cell q n = some (eDc d)) (h : L2.atI [.int d.a, .int d.b, .int d.c] k = some t) : oIx (.obj n) (.int k) q = .ok t q := o_ixO hc h
theorem set_set {α : Type} (q : List α) (n : Nat) (x y : α) : (q.set n x).set n y = q.set n y := List.set_set ..
local macro_rules | `(tactic| clean_wf) => `(tactic| first
  | (with_reducible exact SP.walk_D)
  | exact rfl
  | (with_reducible refine SP.c_Val ?_ ?_)
  | (with_reducible refine SP.e_If ?_ (fun _ => ?_) (fun _ => ?_))
  | exact SP.dt_nil
  | (with_reducible exact Dt.int)
  | (with_reducible exact Dt.str)
  | (with_reducible exact Dt.bl)
  | (with_reducible exact Dt.non)
  | (with_reducible refine SP.dt_cons ?_ ?_)
  | (with_reducible refine SP.dt_map fun _ _ => ?_)
  | (with_reducible refine SP.dt_app ?_ ?_)
  | (with_reducible refine Dt.tup ?_)
  | (with_reducible refine Dt.lst ?_)
  | (with_reducible exact SP.cl_int)
  | (with_reducible exact SP.cl_str)
  | (with_reducible exact SP.cl_bl)
  | (with_reducible exact SP.cl_non)
  | (with_reducible exact SP.cl_nil)
  | (with_reducible refine SP.cl_cons ?_ ?_)
  | (with_reducible refine SP.cl_map fun _ _ => ?_)
  | (with_reducible refine SP.cl_app ?_ ?_)
  | (with_reducible refine SP.cl_tup ?_)
  | (with_reducible refine SP.cl_lst ?_)
  | (with_reducible refine SP.cl_eD fun _ _ => ?_)
  | (with_reducible exact SP.DatE.int)
  | (with_reducible exact SP.DatE.str)
  | (with_reducible exact SP.DatE.bl)
  | (with_reducible exact SP.DatsE.nil)
  | (with_reducible refine SP.DatsE.cons ?_ ?_)
  | (with_reducible refine SP.DatsE.map ?_)
  | (with_reducible refine SP.DatE.tup ?_)
  | (with_reducible exact SP.small_sz (Nat.le_of_ble_eq_true rfl))
  | (refine SP.cl_ins ?_)
  | (refine SP.clf_cons ?_ ?_)
  | exact SP.clf_nil
  | assumption
  | (apply SP.small_sz; simp only [List.length_map, List.length_cons, List.length_nil, List.length_append, SP.ri_len, SP.mapS_len]; omega)
  | omega)
local macro_rules | `(tactic| clean_wf) => `(tactic| first
  | (with_reducible exact SP.op_add)
  | (with_reducible exact SP.op_sub)
  | (with_reducible refine SP.o_mulI ?_)
  | (with_reducible refine SP.o_divI ?_ ?_)
  | (with_reducible refine SP.o_modI ?_)
  | (with_reducible exact SP.op_lt)
  | (with_reducible exact SP.op_gt)
  | (with_reducible exact SP.op_ge)
  | (with_reducible exact SP.op_le)
  | (with_reducible exact SP.o_ltS)
  | (with_reducible exact SP.o_eqI)
  | (with_reducible exact SP.o_neI)
  | (with_reducible exact SP.o_eqS)
  | (with_reducible exact SP.o_neS)
  | (with_reducible exact SP.o_isN)
  | (with_reducible exact SP.o_isNot)
  | (with_reducible refine SP.o_addS ?_)
  | (with_reducible refine SP.o_addT ?_)
  | (with_reducible refine SP.o_addL ?_)
  | (with_reducible exact SP.o_inLS)
  | (with_reducible exact SP.o_ninLS)
  | (with_reducible exact SP.o_inTS)
  | (with_reducible exact SP.o_ninTS)
  | (with_reducible exact SP.o_inLI)
  | (with_reducible exact SP.o_ninLI)
  | (with_reducible exact SP.o_inTI)
  | (with_reducible exact SP.o_ninTI)
  | (with_reducible exact SP.o_inD)
  | (with_reducible exact SP.o_ninD)
  | (with_reducible refine SP.o_ixTm ?_ ?_)
  | (with_reducible refine SP.o_ixLm ?_ ?_)
  | (with_reducible refine SP.o_ixD ?_)
  | exact SP.o_ixT rfl
  | exact SP.o_ixL rfl
  | (with_reducible exact SP.f_abs)
  | (with_reducible exact SP.f_max2)
  | (with_reducible exact SP.f_min2)
  | (with_reducible exact SP.f_int)
  | (with_reducible exact SP.f_intB)
  | (with_reducible exact SP.f_lenM)
  | (with_reducible exact SP.f_lenMT)
  | (with_reducible exact SP.f_lenL)
  | (with_reducible exact SP.f_lenT)
  | (with_reducible exact SP.f_lenE)
  | (with_reducible exact SP.f_sumL)
  | (with_reducible exact SP.f_sumT)
  | (with_reducible exact SP.f_tup)
  | (with_reducible exact SP.f_tupT)
  | (with_reducible exact SP.f_lst)
  | (with_reducible exact SP.f_lstT)
  | (with_reducible exact SP.f_lstE)
  | (with_reducible exact SP.f_strS)
  | (with_reducible refine SP.f_str ?_)
  | (with_reducible refine SP.f_minI ?_)
  | (with_reducible refine SP.f_maxI ?_)
  | (with_reducible refine SP.f_minTI ?_)
  | (with_reducible refine SP.f_maxTI ?_)
  | (with_reducible refine SP.f_sortD ?_)
  | (with_reducible exact SP.p_no)
  | (with_reducible refine SP.p_some ?_)
  | (with_reducible refine SP.cut_toM ?_)
  | (with_reducible refine SP.cut_fromM ?_)
  | (with_reducible refine SP.cut_midM ?_ ?_)
  | (with_reducible refine SP.cut_to ?_)
  | (with_reducible refine SP.cut_from ?_))
local macro_rules | `(tactic| clean_wf) => `(tactic| first
  | (with_reducible exact SP.e_C)
  | (with_reducible refine SP.e_V ?_; exact rfl)
  | (with_reducible exact SP.a_nil)
  | (with_reducible refine SP.a_cons ?_ ?_)
  | (with_reducible refine SP.e_Op ?_ ?_ ?_)
  | (with_reducible refine SP.e_Call ?_ ?_)
  | (with_reducible refine SP.e_Tup ?_ ?_)
  | (with_reducible refine SP.e_Lst ?_ ?_)
  | (with_reducible refine SP.e_nLst ?_ ?_)
  | (with_reducible exact SP.e_nDct)
  | (with_reducible refine SP.e_froz ?_ ?_)
  | (with_reducible refine SP.e_thaw ?_)
  | (with_reducible refine SP.c_Bl ?_)
  | (with_reducible refine SP.c_An ?_ (fun _ => ?_))
  | (with_reducible refine SP.c_Or ?_ (fun _ => ?_))
  | (with_reducible refine SP.c_Nt ?_)
  | (with_reducible refine SP.e_lc ?_ ?_ (fun _ _ => ⟨_, ?_, ?_⟩))
  | (with_reducible refine SP.e_any ?_ (fun _ _ => ⟨_, ?_, ?_⟩))
  | (with_reducible refine SP.e_all ?_ (fun _ _ => ⟨_, ?_, ?_⟩))
  | (with_reducible refine SP.e_sumG ?_ (fun _ _ => ⟨_, ?_, ?_⟩))
  | (with_reducible refine SP.e_lcf ?_ ?_ (fun _ _ => ⟨_, ?_, ?_, fun _ => ?_⟩))
  | (with_reducible refine SP.e_anyF ?_ (fun _ _ => ⟨_, ?_, ?_, fun _ => ?_⟩))
  | (with_reducible refine SP.e_allF ?_ (fun _ _ => ⟨_, ?_, ?_, fun _ => ?_⟩))
  | (with_reducible refine SP.e_sumGF ?_ (fun _ _ => ⟨_, ?_, ?_, fun _ => ?_⟩))
  | (with_reducible refine SP.i_seq ?_ ?_)
  | (with_reducible refine SP.i_range1 ?_ ?_)
  | (with_reducible refine SP.i_range2 ?_ ?_ ?_)
  | (with_reducible refine SP.e_Chain ?_ ?_ ?_ (fun _ => ⟨?_, ?_⟩))
  | (with_reducible refine SP.e_Fld ?_ ?_ ?_ ?_)
  | (with_reducible refine SP.e_Meth ?_ ?_ ?_ ?_ ?_)
  | (with_reducible refine SP.e_Make ?_ ?_ ?_)
  | (with_reducible refine SP.e_Not ?_)
  | (with_reducible refine SP.e_And ?_ (fun _ => ?_))
  | (with_reducible refine SP.e_Or ?_ (fun _ => ?_)))
local macro_rules | `(tactic| array_get_dec) => `(tactic| repeat' clean_wf)
theorem roll_at {d : Dc} {q : Store} {n : Nat} {m : Int} (hc : cell q n = some (eDc d)) (h : 0 < m) (h2 : m < 2 ^ 60) : runC 3 bRoll [.obj n, .int m] q = .ok (.int (dv m d)) (q.set n (some (eDc (dn m d)))) := by
  have hn : n < q.length := by
    unfold cell at hc
    rcases Nat.lt_or_ge n q.length with h | h
    · exact h
    · rw [List.getElem?_eq_none h] at hc; cases hc
  have cs : ∀ x, cell (q.set n (some x)) n = some x := fun x => cell_at (List.getElem?_set_self hn)
  have kc : ∀ e : Dc, closeR q (.ok (.int (dv m d)) (q.set n (some (eDc e)))) = .ok (.int (dv m d)) (q.set n (some (eDc e))) := fun e => by
    have := close_app (p0 := q) (p := q.set n (some (eDc e))) (e := []) (t := .int (dv m d)) (by simp) (fun i hi => by
      by_cases hin : n = i
      · subst hin
        refine .inr fun c z => ?_
        rw [List.getElem?_set_self hn] at z
        cases z; rfl
      · exact .inl (List.getElem?_set_ne hin)) rfl
    rwa [List.append_nil] at this
  have hcond : tOr' (tBl (sOp oEq (sOp oIx (sVar 0) (sC (.int 2))) (sC (.int 2)))) (tAn (tBl (sOp oEq (sOp oIx (sVar 0) (sC (.int 2))) (sC (.int 1)))) (tBl (sOp oGt (sOp oIx (sVar 0) (sC (.int 0))) (sC (.int 0))))) [some (.obj n), some (.int m), none] q = .ok (easy d) q := by
    refine c_Or (c_Bl (e_Op (e_Op (e_V rfl) e_C (ixO hc rfl)) e_C o_eqI)) fun _ => c_An (c_Bl (e_Op (e_Op (e_V rfl) e_C (ixO hc rfl)) e_C o_eqI)) fun _ => c_Bl (e_Op (e_Op (e_V rfl) e_C (ixO hc rfl)) e_C op_gt)
  unfold bRoll
  cases he : easy d with
  | true =>
    have ev : dv m d = d.a % m := by unfold dv; rw [if_pos he]
    have en : dn m d = ⟨d.a / m, d.b, d.c⟩ := by unfold dn; rw [if_pos he]
    refine run_C (t := .int (dv m d)) (s_ifTr (by rw [he] at hcond; exact hcond) ?_) (kc _)
    refine s_set (e_Op (e_Call (a_cons (e_Op (e_V rfl) e_C (ixO hc rfl)) a_nil) f_int) (e_V rfl) (o_modI h)) ?_
    refine s_subL (ts := [.int d.a, .int d.b, .int d.c]) (e_Op (e_Op (e_V rfl) e_C (ixO hc rfl)) (e_V rfl) (o_divI h h2)) (e_V rfl) e_C hc rfl ?_
    refine (s_ret (e_V rfl)).trans ?_
    rw [ev, en]; rfl
  | false =>
    have ev : dv m d = (lcg d / 7 + lcg d) % m := by unfold dv; rw [if_neg (by rw [he]; decide)]
    have en : dn m d = ⟨lcg d, d.b + 1, 0⟩ := by unfold dn; rw [if_neg (by rw [he]; decide)]
    refine run_C (t := .int (dv m d)) (s_ifN (by rw [he] at hcond; exact hcond) ?_) (kc _)
    refine s_subL (ts := [.int d.a, .int d.b, .int d.c]) e_C (e_V rfl) e_C hc rfl ?_
    have c1 : cell (q.set n (some (eDc ⟨d.a, d.b, 0⟩))) n = _ := cs _
    refine s_subL (q1 := q.set n (some (eDc ⟨d.a, d.b, 0⟩))) (q2 := q.set n (some (eDc ⟨d.a, d.b, 0⟩))) (q3 := q.set n (some (eDc ⟨d.a, d.b, 0⟩))) (ts := [.int d.a, .int d.b, .int 0]) (u := .int (lcg d)) ?_ (e_V rfl) e_C c1 rfl ?_
    · exact e_Op (e_Call (a_cons (e_Op (e_Op (e_Op (e_Op (e_V rfl) e_C (ixO c1 rfl)) e_C (o_mulI (.inr ⟨by decide, by decide⟩))) (e_Op (e_Op (e_V rfl) e_C (ixO c1 rfl)) e_C (o_mulI (.inr ⟨by decide, by decide⟩))) op_add) e_C op_add) a_nil) f_int) e_C (o_modI (by decide))
    rw [List.set_set]
    have c2 : cell (q.set n (some (eDc ⟨lcg d, d.b, 0⟩))) n = _ := cs _
    refine s_subL (q1 := q.set n (some (eDc ⟨lcg d, d.b, 0⟩))) (q2 := q.set n (some (eDc ⟨lcg d, d.b, 0⟩))) (q3 := q.set n (some (eDc ⟨lcg d, d.b, 0⟩))) (ts := [.int (lcg d), .int d.b, .int 0]) (u := .int (d.b + 1)) ?_ (e_V rfl) e_C c2 rfl ?_
    · exact e_Op (e_Op (e_V rfl) e_C (ixO c2 rfl)) e_C op_add
    rw [List.set_set]
    have c3 : cell (q.set n (some (eDc ⟨lcg d, d.b + 1, 0⟩))) n = _ := cs _
    rw [ev, en]
    exact s_ret (q1 := q.set n (some (eDc ⟨lcg d, d.b + 1, 0⟩))) (e_Op (e_Call (a_cons (e_Op (e_Op (e_Op (e_V rfl) e_C (ixO c3 rfl)) e_C (o_divI (by decide) (by decide))) (e_Op (e_V rfl) e_C (ixO c3 rfl)) op_add) a_nil) f_int) (e_V rfl) (o_modI h))
/-- the dice stand in the first cell -/
theorem roll_0 {d : Dc} {r : Store} {m : Int} (h : 0 < m) (h2 : m < 2 ^ 60) : runC 3 bRoll [.obj 0, .int m] (some (eDc d) :: r) = .ok (.int (dv m d)) (some (eDc (dn m d)) :: r) := roll_at (n := 0) rfl h h2
end SP

namespace SP
open PySem PySem.Spec L2
section
variable {f : Sm} {fl fh : TEnv → Store → R (Option Int)} {ρ : TEnv} {q q1 q2 q3 q4 : Store} {t u : T} {ts us : List T} {lo hi : Option Int} {α : Type} {xs : List α} {en : α → T}
theorem e_Sl (hf : f ρ q = .ok t q1) (h1 : fl ρ q1 = .ok lo q2) (h2 : fh ρ q2 = .ok hi q3) (hc : fCut t lo hi q3 = .ok u q4) : sSl f fl fh ρ q = .ok u q4 := by
  unfold sSl
  rw [hf, bind_ok, h1, bind_ok, h2, bind_ok, hc]
theorem f_cutT (e : cutT ts lo hi = us) : fCut (.tup ts) lo hi q = .ok (.tup us) q := by rw [← e]; rfl
theorem f_cutL (e : cutT ts lo hi = us) : fCut (.lst ts) lo hi q = .ok (.lst us) q := by rw [← e]; rfl
theorem f_cutF (e : cutT ts lo hi = us) : fCut (.fz ts) lo hi q = .ok (.lst us) q := by rw [← e]; rfl
end
end SP

namespace SP
open PySem PySem.Spec L2
local macro_rules | `(tactic| array_get_dec) => `(tactic| first
  | (with_reducible apply SP.walk_D)
  | exact (rfl : (_ : Option (SP.TEnv × SP.Store)) = _)
  | exact (rfl : (_ : Bool) = _)
  | exact (rfl : (_ : Option SP.T) = _)
  | exact (rfl : (_ : Option (List SP.T)) = _)
  | exact (rfl : (_ : Option (Str × List (Str × SP.T))) = _)
  | exact (rfl : (_ : Option Bool) = _)
  | (with_reducible apply SP.c_Val)
  | (with_reducible apply SP.e_If)
  | (with_reducible apply Exists.intro)
  | (with_reducible apply And.intro)
  | (with_reducible exact SP.dt_nil)
  | (with_reducible refine SP.dt_cons ?_ ?_)
  | (with_reducible refine SP.dt_map ?_)
  | (with_reducible refine SP.dt_app ?_ ?_)
  | (with_reducible apply SP.Dt.int)
  | (with_reducible apply SP.Dt.str)
  | (with_reducible apply SP.Dt.bl)
  | (with_reducible apply SP.Dt.non)
  | (with_reducible apply SP.Dt.tup)
  | (with_reducible apply SP.Dt.lst)
  | (with_reducible apply SP.cl_int)
  | (with_reducible apply SP.cl_str)
  | (with_reducible apply SP.cl_bl)
  | (with_reducible apply SP.cl_non)
  | (with_reducible apply SP.cl_nil)
  | (with_reducible apply SP.cl_cons)
  | (with_reducible apply SP.cl_map)
  | (with_reducible apply SP.cl_app)
  | (with_reducible apply SP.cl_tup)
  | (with_reducible apply SP.cl_lst)
  | (with_reducible apply SP.cl_eD)
  | (with_reducible apply SP.DatE.int)
  | (with_reducible apply SP.DatE.str)
  | (with_reducible apply SP.DatE.bl)
  | (with_reducible apply SP.DatsE.nil)
  | (with_reducible apply SP.DatsE.cons)
  | (with_reducible apply SP.DatsE.map)
  | (with_reducible apply SP.DatE.tup)
  | (apply SP.cl_ins)
  | (apply SP.clf_cons)
  | exact SP.clf_nil
  | with_reducible assumption
  | ((apply SP.small_sz); (try simp only [List.length_map, List.length_cons, List.length_nil, List.length_append, List.length_take, List.length_drop, SP.ri_len, SP.mapS_len]) <;> omega)
  | (intro _)
  | omega
  | ((simp only [List.length_map, List.length_cons, List.length_nil]) <;> omega)
  | (with_reducible apply_assumption))
local macro_rules | `(tactic| array_get_dec) => `(tactic| first
  | (with_reducible apply SP.op_add)
  | (with_reducible apply SP.op_sub)
  | (with_reducible apply SP.o_mulI)
  | (with_reducible apply SP.o_divI)
  | (with_reducible apply SP.o_modI)
  | (with_reducible apply SP.op_lt)
  | (with_reducible apply SP.op_gt)
  | (with_reducible apply SP.op_ge)
  | (with_reducible apply SP.op_le)
  | (with_reducible apply SP.o_ltS)
  | (with_reducible apply SP.o_eqI)
  | (with_reducible apply SP.o_neI)
  | (with_reducible apply SP.o_eqS)
  | (with_reducible apply SP.o_neS)
  | (with_reducible apply SP.o_isN)
  | (with_reducible apply SP.o_isNot)
  | (with_reducible apply SP.o_addS)
  | (with_reducible apply SP.o_addT)
  | (with_reducible apply SP.o_addL)
  | (with_reducible apply SP.o_inLS)
  | (with_reducible apply SP.o_ninLS)
  | (with_reducible apply SP.o_inTS)
  | (with_reducible apply SP.o_ninTS)
  | (with_reducible apply SP.o_inLI)
  | (with_reducible apply SP.o_ninLI)
  | (with_reducible apply SP.o_inTI)
  | (with_reducible apply SP.o_ninTI)
  | (with_reducible apply SP.o_inD)
  | (with_reducible apply SP.o_ninD)
  | (with_reducible apply SP.o_ixTm)
  | (with_reducible apply SP.o_ixLm)
  | (with_reducible apply SP.o_ixD)
  | exact SP.o_ixT rfl
  | exact SP.o_ixL rfl
  | (with_reducible apply SP.f_abs)
  | (with_reducible apply SP.f_max2)
  | (with_reducible apply SP.f_min2)
  | (with_reducible apply SP.f_int)
  | (with_reducible apply SP.f_intB)
  | (with_reducible apply SP.f_lenM)
  | (with_reducible apply SP.f_lenMT)
  | (with_reducible apply SP.f_lenL)
  | (with_reducible apply SP.f_lenT)
  | (with_reducible apply SP.f_lenE)
  | (with_reducible apply SP.f_sumL)
  | (with_reducible apply SP.f_sumT)
  | (with_reducible apply SP.f_tup)
  | (with_reducible apply SP.f_tupT)
  | (with_reducible apply SP.f_lst)
  | (with_reducible apply SP.f_lstT)
  | (with_reducible apply SP.f_lstE)
  | (with_reducible apply SP.f_dictF)
  | (with_reducible apply SP.f_strS)
  | (with_reducible apply SP.f_str)
  | (with_reducible apply SP.f_minI)
  | (with_reducible apply SP.f_maxI)
  | (with_reducible apply SP.f_minTI)
  | (with_reducible apply SP.f_maxTI)
  | (with_reducible apply SP.f_sortD)
  | (with_reducible apply SP.p_no)
  | (with_reducible apply SP.p_some)
  | (with_reducible apply SP.cut_toM)
  | (with_reducible apply SP.cut_fromM)
  | (with_reducible apply SP.cut_midM)
  | (with_reducible apply SP.cut_to)
  | (with_reducible apply SP.cut_from)
  | (apply SP.f_cutT)
  | (apply SP.f_cutL)
  | (apply SP.f_cutF)
  | (apply SP.f_tup)
  | (apply SP.f_tupT)
  | (apply SP.f_lst)
  | (apply SP.f_lstT)
  | (apply SP.f_lenT)
  | (apply SP.f_lenL))
local macro_rules | `(tactic| array_get_dec) => `(tactic| first
  | ((with_reducible apply SP.e_V); exact rfl)
  | (with_reducible apply SP.e_C)
  | (with_reducible apply SP.a_nil)
  | (with_reducible apply SP.a_cons)
  | (with_reducible apply SP.e_Op)
  | (with_reducible apply SP.e_Call)
  | (with_reducible apply SP.e_Tup)
  | (with_reducible apply SP.e_Lst)
  | (with_reducible apply SP.e_nLst)
  | (with_reducible apply SP.e_nDct)
  | (with_reducible apply SP.e_froz)
  | (with_reducible apply SP.e_thaw)
  | (with_reducible apply SP.c_Bl)
  | (with_reducible apply SP.c_An)
  | (with_reducible apply SP.c_Or)
  | (with_reducible apply SP.c_Nt)
  | (with_reducible apply SP.e_lc)
  | (with_reducible apply SP.e_any)
  | (with_reducible apply SP.e_all)
  | (with_reducible apply SP.e_sumG)
  | (with_reducible apply SP.e_lcf)
  | (with_reducible apply SP.e_anyF)
  | (with_reducible apply SP.e_allF)
  | (with_reducible apply SP.e_sumGF)
  | (with_reducible apply SP.i_seq)
  | (with_reducible apply SP.i_range1)
  | (with_reducible apply SP.i_range2)
  | (with_reducible apply SP.e_Chain)
  | (with_reducible apply SP.e_Fld)
  | (with_reducible apply SP.e_Meth)
  | (with_reducible apply SP.e_Make)
  | (with_reducible apply SP.e_Sl)
  | (with_reducible apply SP.e_Not)
  | (with_reducible apply SP.e_And)
  | (with_reducible apply SP.e_Or))
local macro_rules | `(tactic| sizeOf_list_dec) => `(tactic| repeat' array_get_dec)
local macro_rules | `(tactic| clean_wf) => `(tactic| simp only [env0, List.map_cons, List.map_nil, List.length_cons, List.length_nil, List.replicate, List.replicate_zero, Nat.sub_self, Nat.zero_add, List.cons_append, List.nil_append, ap_set0, ap_sets, List.zip_cons_cons, List.zip_nil_right, List.zip_nil_left, List.foldl_cons, List.foldl_nil])
/-! ### the laws' own helpers -/
noncomputable def bDice : Ss := (xSeq (xIf (tBl (sChain oLt oLt (sOp oSub (sC (.int 0)) (sC (.int 10))) (sVar 0) (sC (.int 10)))) (xSeq (xRet (thaw (nLst (aCons (sCall fAbs (aCons (sVar 0) aNil)) (aCons (sC (.int 0)) (aCons (sC (.int 2)) aNil)))))) xNil) xNil) (xSeq (xRet (thaw (nLst (aCons (sVar 0) (aCons (sOp oAdd (sC (.int 1)) (sOp oMod (sCall fInt (aCons (sVar 0) aNil)) (sC (.int 1009)))) (aCons (sCall fInt (aCons (sOp oGe (sVar 0) (sOp oPow (sC (.int 10)) (sC (.int 18)))) aNil)) aNil)))))) xNil))
noncomputable def bRounds : Ss := (xSeq (xSet 2 (sSl (sVar 0) sNoPart (sPart (sVar 1)))) (xSeq (xIf (tBl (sOp oEq (sVar 2) (sLst aNil))) (xSeq (xSet 2 (sLst (aCons (sC (.int 0)) aNil))) xNil) xNil) (xSeq (xRet (froz (nLc (iSeq (sVar 2)) (gNm 3) tTrue (sCall (runK 1 bDice) (aCons (sVar 3) aNil)) [3]))) xNil)))
noncomputable def bFlat : Ss := (xSeq (xSet 1 (sLst aNil)) (xSeq (xFor (iSeq (sVar 0)) (gNm 2) (xSeq (xSet 1 (sOp oAdd (sVar 1) (sVar 2))) xNil)) (xSeq (xRet (sVar 1)) xNil)))
noncomputable def bMoves : Ss := (xSeq (xPar [2, 3] (aCons (thaw (nLstRg1 (aCons (sVar 1) aNil))) (aCons (thaw (nLst aNil)) aNil))) (xSeq (xFor (iRange1 (aCons (sVar 1) aNil)) (gNm 4) (xSeq (xExpr (sBM mAppend (sVar 3) (aCons (sBM mPop (sVar 2) (aCons (sCall (runC 3 bRoll) (aCons (sVar 0) (aCons (sCall fLen (aCons (sVar 2) aNil)) aNil))) aNil)) aNil))) xNil)) (xSeq (xRet (sCall fTup (aCons (sVar 3) aNil))) xNil)))
noncomputable def bOrders (rec : FS) : Ss := (xSeq (xIf (tBl (sOp oEq (sVar 0) (sLst aNil))) (xSeq (xRet (sLst (aCons (sTup aNil) aNil))) xNil) xNil) (xSeq (xRet (sCall (runC 3 bFlat) (aCons (froz (nLc (iRange1 (aCons (sCall fLen (aCons (sVar 0) aNil)) aNil)) (gNm 1) tTrue (froz (nLc (iSeq (sCall rec (aCons (sOp oAdd (sSl (sVar 0) sNoPart (sPart (sVar 1))) (sSl (sVar 0) (sPart (sOp oAdd (sVar 1) (sC (.int 1)))) sNoPart)) aNil))) (gNm 2) tTrue (sOp oAdd (sTup (aCons (sOp oIx (sVar 0) (sVar 1)) aNil)) (sVar 2)) [2])) [1])) aNil))) xNil))
noncomputable def orders : Nat → FS
  | 0 => fun _ _ => .stuck
  | n + 1 => runC 3 (bOrders (orders n))
open Classical in
theorem o_pow18 {q : Store} : oPow (.int 10) (.int 18) q = .ok (.int (10 ^ 18)) q := by
  unfold oPow
  show (if CPow 10 18 then R.ok (T.int (10 ^ (18 : Int).toNat)) q else .stuck) = _
  rw [if_pos ⟨by decide, by decide, by decide⟩]
  rfl
theorem dice_run (z : Int) (q : Store) : ∃ d, runK 1 bDice [.int z] q = .ok (.obj q.length) (q ++ [some (eDc d)]) := by
  have hc : ∃ b, tBl (sChain oLt oLt (sOp oSub (sC (.int 0)) (sC (.int 10))) (sVar 0) (sC (.int 10))) [some (.int z)] q = .ok b q := by
    apply Exists.intro
    sizeOf_list_dec
  obtain ⟨b, hc⟩ := hc
  unfold bDice
  cases b with
  | true =>
    refine ⟨⟨z.natAbs, 0, 2⟩, ?_⟩
    apply run_K
    clean_wf
    apply s_ifTr
    · exact hc
    · apply s_ret
      apply e_thaw
      unfold eDc
      sizeOf_list_dec
  | false =>
    refine ⟨⟨z, 1 + z % 1009, if decide (10 ^ 18 ≤ z) = true then 1 else 0⟩, ?_⟩
    apply run_K
    clean_wf
    apply s_ifN
    · exact hc
    · apply s_ret
      apply e_thaw
      unfold eDc
      apply e_nLst
      · apply a_cons
        · sizeOf_list_dec
        · apply a_cons
          · sizeOf_list_dec
          · apply a_cons
            · apply e_Call
              · apply a_cons
                · apply e_Op
                  · sizeOf_list_dec
                  · apply e_Op
                    · sizeOf_list_dec
                    · sizeOf_list_dec
                    · exact o_pow18
                  · sizeOf_list_dec
                · sizeOf_list_dec
              · sizeOf_list_dec
            · sizeOf_list_dec
      · sizeOf_list_dec
theorem rounds_at (l : List Int) (t : T) (ht : t = .lst (l.map .int) ∨ t = .fz (l.map .int)) : ∃ d, runK 4 bRounds [t, .int 1] [] = .ok (.lst [.obj 0]) [some (eDc d)] := by
  have main : ∀ z : Int, ∃ d, (xSeq (xRet (froz (nLc (iSeq (sVar 2)) (gNm 3) tTrue (sCall (runK 1 bDice) (aCons (sVar 3) aNil)) [3]))) xNil) [some t, some (.int 1), some (.lst [.int z]), none] [] = .ret (.lst [.obj 0]) [some (eDc d)] := fun z => by
    obtain ⟨d, e⟩ := dice_run z []
    refine ⟨d, ?_⟩
    apply s_ret
    apply e_froz
    · refine nlc_run (ts := [.int z]) (q1 := []) rfl (small_sz (by decide : 1 ≤ 1000)) ?_
      show lcT (gNm 3) tTrue _ _ [.int z] [] [] = _
      unfold lcT
      have e2 : sCall (runK 1 bDice) (aCons (sVar 3) aNil) (List.set (wipeT [some t, some (T.int 1), some (T.lst [T.int z]), none] [3]) 3 (some (T.int z))) [] = .ok (.obj 0) [some (eDc d)] := by
        apply e_Call
        · sizeOf_list_dec
        · exact e
      simp only [gNm, ap_True, if_true]
      have e3 : ∀ ρ, (sCall (runK 1 (xSeq (xIf (tBl (sChain oLt oLt (sOp oSub (sC (.int 0)) (sC (.int 10))) (sVar 0) (sC (.int 10)))) (xSeq (xRet (thaw (nLst (aCons (sCall fAbs (aCons (sVar 0) aNil)) (aCons (sC (.int 0)) (aCons (sC (.int 2)) aNil)))))) xNil) xNil) (xSeq (xRet (thaw (nLst (aCons (sVar 0) (aCons (sOp oAdd (sC (.int 1)) (sOp oMod (sCall fInt (aCons (sVar 0) aNil)) (sC (.int 1009)))) (aCons (sCall fInt (aCons (sOp oGe (sVar 0) (sOp oPow (sC (.int 10)) (sC (.int 18)))) aNil)) aNil)))))) xNil))) (aCons (sVar 3) aNil)) ρ [] = sCall (runK 1 bDice) (aCons (sVar 3) aNil) ρ [] := fun _ => rfl
      simp only [show (runK 1 bDice) = runK 1 bDice from rfl, e2]
      rfl
    · rfl
  have cut1 : ∀ l : List T, cutT l none (some 1) = l.take 1 := fun l => cut_to (by decide)
  unfold bRounds
  cases l with
  | nil =>
    obtain ⟨d, e⟩ := main 0
    refine ⟨d, ?_⟩
    apply run_K
    clean_wf
    apply s_set (t := .lst []) (q1 := [])
    · apply e_Sl
      · sizeOf_list_dec
      · sizeOf_list_dec
      · sizeOf_list_dec
      · rcases ht with rfl | rfl
        · apply f_cutL; rw [cut1]; rfl
        · apply f_cutF; rw [cut1]; rfl
    · clean_wf
      apply s_ifT
      · apply c_conv
        · apply c_Bl
          apply e_Op
          · sizeOf_list_dec
          · sizeOf_list_dec
          · apply o_eqD
            · sizeOf_list_dec
            · sizeOf_list_dec
        · rfl
      · apply s_set
        · sizeOf_list_dec
        · rfl
      · clean_wf
        exact e
  | cons x r =>
    obtain ⟨d, e⟩ := main x
    refine ⟨d, ?_⟩
    apply run_K
    clean_wf
    apply s_set (t := .lst [.int x]) (q1 := [])
    · apply e_Sl
      · sizeOf_list_dec
      · sizeOf_list_dec
      · sizeOf_list_dec
      · rcases ht with rfl | rfl
        · apply f_cutL; rw [cut1]; rfl
        · apply f_cutF; rw [cut1]; rfl
    · clean_wf
      apply s_ifN
      · apply c_conv
        · apply c_Bl
          apply e_Op
          · sizeOf_list_dec
          · sizeOf_list_dec
          · apply o_eqD
            · sizeOf_list_dec
            · sizeOf_list_dec
        · rfl
      · exact e
/-! #### a row of rows, flat -/
end SP

namespace SP
open PySem PySem.Spec L2
local macro_rules | `(tactic| array_get_dec) => `(tactic| first
  | (with_reducible apply SP.walk_D)
  | exact (rfl : (_ : Option (SP.TEnv × SP.Store)) = _)
  | exact (rfl : (_ : Bool) = _)
  | exact (rfl : (_ : Option SP.T) = _)
  | exact (rfl : (_ : Option (List SP.T)) = _)
  | exact (rfl : (_ : Option (Str × List (Str × SP.T))) = _)
  | exact (rfl : (_ : Option Bool) = _)
  | (with_reducible apply SP.c_Val)
  | (with_reducible apply SP.e_If)
  | (with_reducible apply Exists.intro)
  | (with_reducible apply And.intro)
  | (with_reducible exact SP.dt_nil)
  | (with_reducible refine SP.dt_cons ?_ ?_)
  | (with_reducible refine SP.dt_map ?_)
  | (with_reducible refine SP.dt_app ?_ ?_)
  | (with_reducible apply SP.Dt.int)
  | (with_reducible apply SP.Dt.str)
  | (with_reducible apply SP.Dt.bl)
  | (with_reducible apply SP.Dt.non)
  | (with_reducible apply SP.Dt.tup)
  | (with_reducible apply SP.Dt.lst)
  | (with_reducible apply SP.cl_int)
  | (with_reducible apply SP.cl_str)
  | (with_reducible apply SP.cl_bl)
  | (with_reducible apply SP.cl_non)
  | (with_reducible apply SP.cl_nil)
  | (with_reducible apply SP.cl_cons)
  | (with_reducible apply SP.cl_map)
  | (with_reducible apply SP.cl_app)
  | (with_reducible apply SP.cl_tup)
  | (with_reducible apply SP.cl_lst)
  | (with_reducible apply SP.cl_eD)
  | (with_reducible apply SP.DatE.int)
  | (with_reducible apply SP.DatE.str)
  | (with_reducible apply SP.DatE.bl)
  | (with_reducible apply SP.DatsE.nil)
  | (with_reducible apply SP.DatsE.cons)
  | (with_reducible apply SP.DatsE.map)
  | (with_reducible apply SP.DatE.tup)
  | (apply SP.cl_ins)
  | (apply SP.clf_cons)
  | exact SP.clf_nil
  | with_reducible assumption
  | ((apply SP.small_sz); (try simp only [List.length_map, List.length_cons, List.length_nil, List.length_append, List.length_take, List.length_drop, SP.ri_len, SP.mapS_len]) <;> omega)
  | (intro _)
  | omega
  | ((simp only [List.length_map, List.length_cons, List.length_nil]) <;> omega)
  | (with_reducible apply_assumption))
local macro_rules | `(tactic| array_get_dec) => `(tactic| first
  | (with_reducible apply SP.op_add)
  | (with_reducible apply SP.op_sub)
  | (with_reducible apply SP.o_mulI)
  | (with_reducible apply SP.o_divI)
  | (with_reducible apply SP.o_modI)
  | (with_reducible apply SP.op_lt)
  | (with_reducible apply SP.op_gt)
  | (with_reducible apply SP.op_ge)
  | (with_reducible apply SP.op_le)
  | (with_reducible apply SP.o_ltS)
  | (with_reducible apply SP.o_eqI)
  | (with_reducible apply SP.o_neI)
  | (with_reducible apply SP.o_eqS)
  | (with_reducible apply SP.o_neS)
  | (with_reducible apply SP.o_isN)
  | (with_reducible apply SP.o_isNot)
  | (with_reducible apply SP.o_addS)
  | (with_reducible apply SP.o_addT)
  | (with_reducible apply SP.o_addL)
  | (with_reducible apply SP.o_inLS)
  | (with_reducible apply SP.o_ninLS)
  | (with_reducible apply SP.o_inTS)
  | (with_reducible apply SP.o_ninTS)
  | (with_reducible apply SP.o_inLI)
  | (with_reducible apply SP.o_ninLI)
  | (with_reducible apply SP.o_inTI)
  | (with_reducible apply SP.o_ninTI)
  | (with_reducible apply SP.o_inD)
  | (with_reducible apply SP.o_ninD)
  | (with_reducible apply SP.o_ixTm)
  | (with_reducible apply SP.o_ixLm)
  | (with_reducible apply SP.o_ixD)
  | exact SP.o_ixT rfl
  | exact SP.o_ixL rfl
  | (with_reducible apply SP.f_abs)
  | (with_reducible apply SP.f_max2)
  | (with_reducible apply SP.f_min2)
  | (with_reducible apply SP.f_int)
  | (with_reducible apply SP.f_intB)
  | (with_reducible apply SP.f_lenM)
  | (with_reducible apply SP.f_lenMT)
  | (with_reducible apply SP.f_lenL)
  | (with_reducible apply SP.f_lenT)
  | (with_reducible apply SP.f_lenE)
  | (with_reducible apply SP.f_sumL)
  | (with_reducible apply SP.f_sumT)
  | (with_reducible apply SP.f_tup)
  | (with_reducible apply SP.f_tupT)
  | (with_reducible apply SP.f_lst)
  | (with_reducible apply SP.f_lstT)
  | (with_reducible apply SP.f_lstE)
  | (with_reducible apply SP.f_dictF)
  | (with_reducible apply SP.f_strS)
  | (with_reducible apply SP.f_str)
  | (with_reducible apply SP.f_minI)
  | (with_reducible apply SP.f_maxI)
  | (with_reducible apply SP.f_minTI)
  | (with_reducible apply SP.f_maxTI)
  | (with_reducible apply SP.f_sortD)
  | (with_reducible apply SP.p_no)
  | (with_reducible apply SP.p_some)
  | (with_reducible apply SP.cut_toM)
  | (with_reducible apply SP.cut_fromM)
  | (with_reducible apply SP.cut_midM)
  | (with_reducible apply SP.cut_to)
  | (with_reducible apply SP.cut_from)
  | (apply SP.f_cutT)
  | (apply SP.f_cutL)
  | (apply SP.f_cutF)
  | (apply SP.f_tup)
  | (apply SP.f_tupT)
  | (apply SP.f_lst)
  | (apply SP.f_lstT)
  | (apply SP.f_lenT)
  | (apply SP.f_lenL))
local macro_rules | `(tactic| array_get_dec) => `(tactic| first
  | ((with_reducible apply SP.e_V); exact rfl)
  | (with_reducible apply SP.e_C)
  | (with_reducible apply SP.a_nil)
  | (with_reducible apply SP.a_cons)
  | (with_reducible apply SP.e_Op)
  | (with_reducible apply SP.e_Call)
  | (with_reducible apply SP.e_Tup)
  | (with_reducible apply SP.e_Lst)
  | (with_reducible apply SP.e_nLst)
  | (with_reducible apply SP.e_nDct)
  | (with_reducible apply SP.e_froz)
  | (with_reducible apply SP.e_thaw)
  | (with_reducible apply SP.c_Bl)
  | (with_reducible apply SP.c_An)
  | (with_reducible apply SP.c_Or)
  | (with_reducible apply SP.c_Nt)
  | (with_reducible apply SP.e_lc)
  | (with_reducible apply SP.e_any)
  | (with_reducible apply SP.e_all)
  | (with_reducible apply SP.e_sumG)
  | (with_reducible apply SP.e_lcf)
  | (with_reducible apply SP.e_anyF)
  | (with_reducible apply SP.e_allF)
  | (with_reducible apply SP.e_sumGF)
  | (with_reducible apply SP.i_seq)
  | (with_reducible apply SP.i_range1)
  | (with_reducible apply SP.i_range2)
  | (with_reducible apply SP.e_Chain)
  | (with_reducible apply SP.e_Fld)
  | (with_reducible apply SP.e_Meth)
  | (with_reducible apply SP.e_Make)
  | (with_reducible apply SP.e_Sl)
  | (with_reducible apply SP.e_Not)
  | (with_reducible apply SP.e_And)
  | (with_reducible apply SP.e_Or))
local macro_rules | `(tactic| sizeOf_list_dec) => `(tactic| repeat' array_get_dec)
local macro_rules | `(tactic| clean_wf) => `(tactic| simp only [env0, List.map_cons, List.map_nil, List.length_cons, List.length_nil, List.replicate, List.replicate_zero, Nat.sub_self, Nat.zero_add, List.cons_append, List.nil_append, ap_set0, ap_sets, List.zip_cons_cons, List.zip_nil_right, List.zip_nil_left, List.foldl_cons, List.foldl_nil])
/-! ### all orders of some items -/
section
variable {α : Type} [Inhabited α]
def ordL : Nat → List α → List (List α)
  | 0, _ => []
  | n + 1, xs => if xs.length = 0 then [[]] else (ri 0 xs.length).flatMap fun k => (ordL n (xs.take k.toNat ++ xs.drop (k + 1).toNat)).map fun row => gi xs k :: row
end
/-! ### a drawn order -/
end SP

namespace SP
open PySem PySem.Spec PyProof.Rows L2 SeqAt
/-! ### the sign turned; the least of three; an entry taken out; stores into places, as targets -/
def sNeg (f : Sm) : Sm := fun ρ q => (f ρ q).bind fun t q' => match t with
  | .int i => .ok (.int (-i)) q'
  | _ => .stuck
def xDelD (fo fi : Sm) : Ss := fun ρ q => (fo ρ q).to ρ fun t q1 => (fi ρ q1).to ρ fun i q2 => match t with
  | .obj n => match cell q2 n with
    | some (.dct kvs) => match keyT i, dval kvs i with
      | some _, some _ => .nx ρ (q2.set n (some (.dct (ddrop kvs i))))
      | _, _ => .stuck
    | _ => .stuck
  | _ => .stuck
def gSubL (fo fi : Sm) : Tg := fun u ρ q => match fo ρ q with
  | .ok (.obj n) q1 => match fi ρ q1 with
    | .ok (.int k) q2 => match cell q2 n with
      | some (.lst ts) => match ixN ts.length k with
        | some j => some (ρ, q2.set n (some (.lst (ts.set j u))))
        | none => none
      | _ => none
    | _ => none
  | _ => none
noncomputable def gSubD (fo fi : Sm) : Tg := fun u ρ q => match fo ρ q with
  | .ok (.obj n) q1 => match fi ρ q1 with
    | .ok i q2 => match cell q2 n with
      | some (.dct kvs) => match keyT i with
        | some _ => if kvs.length < sizeLine then some (ρ, q2.set n (some (.dct (dput kvs i u)))) else none
        | none => none
      | _ => none
    | _ => none
  | _ => none
def fMin3 : FS := fun ts q => match ts with
  | [.int i, .int j, .int k] => .ok (.int (min (min i j) k)) q
  | _ => .stuck
section
variable {L : Lx} {X : Cx} {a o i : Expr} {f fo fi : Sm} {pos tpos : Pos}
theorem se_neg (ha : SE L X a f) : SE L X (.UnaryOp .USub a pos) (sNeg f) :=
  ⟨fun W tk => PE.imp (pe_un un_neg (ha.pe W tk)) fun σ H Q ⟨ν, ρ, q, s, en, p⟩ => rdE_of s en (postE_iff.mp p) fun t v q' ν' H' ft s' en' r p' => by
    cases t with
    | int b =>
      cases r
      exact ⟨b, rfl, (p'.now s') _ (.int _)⟩
    | _ => exact p'.elim⟩
theorem nx_min3 : NoX fMin3 := by
  intro ts q c fs q' h
  unfold fMin3 at h
  repeat' split at h
  all_goals cases h
theorem b_min3 (hc : X.calm = true) : CallR X (.builtin "min") (BIx X.K L fMin3) := CallR.imp (call_min3Nu hc) fun xs H Q ⟨ν, q, ts, s, r, p⟩ => by
  unfold fMin3 at p
  split at p
  · rename_i i j k
    cases r with
    | cons rx r => cases r with
      | cons ry r => cases r with
        | cons rz r =>
          cases r
          cases rx; cases ry; cases rz
          refine ⟨_, _, _, .int (min (min i j) k), rfl, ?_, post_at p s (.int _)⟩
          unfold nuMin3 nuMin2
          have e1 : nuLt (.int j) (.int i) = some (decide (j < i)) := rfl
          rw [e1]
          have e2 : (if decide (j < i) = true then V.int j else V.int i) = V.int (min i j) := by
            by_cases h : j < i
            · rw [if_pos (decide_eq_true h)]; congr 1; omega
            · rw [if_neg (by simpa using h)]; congr 1; omega
          simp only [Option.map_some, Option.bind_some, e2]
          have e3 : nuLt (.int k) (.int (min i j)) = some (decide (k < min i j)) := rfl
          rw [e3]
          simp only [Option.map_some]
          congr 1
          by_cases h : k < min i j
          · rw [if_pos (decide_eq_true h)]; congr 1; omega
          · rw [if_neg (by simpa using h)]; congr 1; omega
  · exact p.elim
theorem se_min3 {e : Expr} {es : List Expr} {fa : Sa} {p pos : Pos} (hc : X.calm = true) (hg : Gl X "min") (hm : X.mg "min" = none) (ha : SA L X (e :: es) fa) (he : starEach (e :: es) X.env = (false, eval e X.env) :: starEach es X.env := by rfl) (hpl : (backTo pos (starEach es X.env)).any (·.1) = false := by rfl) : SE L X (.Call (.Name "min" p) (e :: es) [] pos) (sCall fMin3 fa) := se_callB (b_min3 hc) nx_min3 hg hm (by first | rfl | decide +kernel) ha (he := he) (hpl := hpl)
end
/-! #### applied -/
section
variable {f fo fi : Sm} {ρ : TEnv} {q q1 q2 : Store} {i j k : Int} {n : Nat} {s : Ss} {r : RS} {u v : T}
theorem e_Neg (h : f ρ q = .ok (.int i) q1) : sNeg f ρ q = .ok (.int (-i)) q1 := by unfold sNeg; rw [h, bind_ok]
theorem f_min3 : fMin3 [.int i, .int j, .int k] q = .ok (.int (min (min i j) k)) q := rfl
end
section
variable {κ ν : Type} [DecidableEq κ] {ek : κ → T} {ev : ν → T} [hk : KeyE ek] {kvs : List (κ × ν)} {k : κ}
def adrop (kvs : List (κ × ν)) (k : κ) : List (κ × ν) := kvs.filter fun p => decide (p.1 ≠ k)
end
end SP

namespace SPE
open PySem
open AutoSeq1 (wpAny_loadPart')
/-! ### enumerate(t), t a tuple: at the model's level -/
section
variable {prog : Program} {w : World} {A : Around} {E : Value → Shared → Prop} {s : Shared}
end
end SPE
namespace SP
open PySem PySem.Spec PyProof.Rows L2 SeqAt
/-- the tuple at a, each item in a new pair with its place -/
def ItET (K : PySem.W.Frag) (a : Addr) : It where
  go := fun i H => ∃ (l : List V) (y : V), SqT K H a l ∧ l[i]? = some y
  yld := fun i H v G => ∃ p o y, v = .ref p ∧ o.dict = none ∧ H p = none ∧ G = upd H p (.frz o (.tup [.int (i : Nat), y])) ∧ ∀ l, SqT K H a l → l[i]? = some y
  stop := fun i H => ∃ l : List V, SqT K H a l ∧ l.length ≤ i
def tiET (K : PySem.W.Frag) (ta : TA) : TI := fun σ H R => ta σ H fun vs H1 => ∃ a xs, vs = [.ref a] ∧ SqT K H1 a xs ∧ R (ItET K a) H1
def iEnumT (fa : Sa) : Si := fun ρ q => (fa ρ q).bind fun ts q' => match ts with
  | [.tup a] => .ok (a.zipIdx.map fun p => .tup [.int (p.2 : Nat), p.1]) q'
  | _ => .stuck
section
variable {L : Lx} {X : Cx} {e : Expr} {fa : Sa} {p pos tpos : Pos} {elts : List Expr} {kk : Nat}
end
theorem i_enumT {α : Type} {xs : List α} {en : α → T} {fa : Sa} {ρ : TEnv} {q q1 : Store} (hf : fa ρ q = .ok [.tup (xs.map en)] q1) : iEnumT fa ρ q = .ok (xs.zipIdx.map fun p => .tup [.int (p.2 : Nat), en p.1]) q1 := by
  unfold iEnumT
  rw [hf, bind_ok]
  simp only [List.zipIdx_map, List.map_map]; rfl
end SP

namespace SPE
open PySem PySem.W PySem.Calls PyProof.Rows
/-! ### sorted(t), t a tuple -/
section
variable {prog : Program} {w : World} {A : Around} {E : Value → Shared → Prop} {s : Shared} {β : Type} {R : Value → β → Prop} {enc : β → PyData} {vs : List Value} {bs : List β}
/-- the heap behind the items' gathering -/
def gath (h : Heap) (its : Array Value) : Heap := (h.push { cls := .type "list", data := .seq ([] : List Value).toArray }).update h.objs.size (Obj.mapSeq (· ++ its))
end
end SPE

namespace SP
open PySem PySem.Spec PyProof.Rows L2 SeqAt
/-! ### sorted(t) of a tuple; list * int, new; list(range(a, b)) -/
open Classical in
noncomputable def fSortS : FS := fun ts q => match ts with
  | [.tup us] => if DatOk us ∧ SrtOk us ∧ us.length ≤ sizeLine then .ok (.lst (sortT us)) q else .stuck
  | _ => .stuck
section
variable {L : Lx} {X : Cx} {a b e : Expr} {f g : Sm} {fa : Sa} {p p2 pos pos2 : Pos}
end
def nRep (f g : Sm) : Sm := fun ρ q => (f ρ q).bind fun t q1 => (g ρ q1).bind fun u q2 => match lstAt q2 t, u with
  | some xs, .int k => if -(2 ^ 63) ≤ k ∧ k < 2 ^ 63 ∧ xs.length * k.toNat ≤ sizeLine then .ok (.lst (List.replicate k.toNat xs).flatten) q2 else .stuck
  | _, _ => .stuck
section
variable {L : Lx} {X : Cx} {a b e : Expr} {f g : Sm} {fa : Sa} {p p2 pos pos2 : Pos}
end
def nLstRg2 (f g : Sm) : Sm := fun ρ q => (f ρ q).bind fun t q1 => (g ρ q1).bind fun u q2 => match t, u with
  | .int i, .int j => if -(2 ^ 62) ≤ i ∧ i < 2 ^ 62 ∧ -(2 ^ 62) ≤ j ∧ j < 2 ^ 62 ∧ (j - i).toNat ≤ 2 ^ 24 then .ok (.lst ((List.range (j - i).toNat).map fun (k : Nat) => .int (i + (k : Nat)))) q2 else .stuck
  | _, _ => .stuck
section
variable {L : Lx} {X : Cx} {a b e : Expr} {f g : Sm} {fa : Sa} {p p2 pos pos2 : Pos}
end
/-! #### applied -/
section
variable {α : Type} {xs : List α} {F : α → T} {f g : Sm} {fa : Sa} {ρ : TEnv} {q q1 q2 : Store} {t : T} {us : List T} {i j k : Int}
theorem e_Rep (hf : f ρ q = .ok (.lst us) q1) (hg : g ρ q1 = .ok (.int k) q2) (h : 0 ≤ k ∧ k ≤ 1000000) (hz : us.length * k.toNat ≤ sizeLine) : nRep f g ρ q = .ok (.lst (List.replicate k.toNat us).flatten) q2 := by
  unfold nRep
  rw [hf, bind_ok, hg, bind_ok]
  simp only [lstAt]
  rw [if_pos ⟨by omega, by omega, hz⟩]
theorem e_Rg2 (hf : f ρ q = .ok (.int i) q1) (hg : g ρ q1 = .ok (.int j) q2) (hi : -1000000 ≤ i ∧ i ≤ 1000000) (hj : -1000000 ≤ j ∧ j ≤ 1000000) : nLstRg2 f g ρ q = .ok (.lst ((ri i j).map fun x => .int x)) q2 := by
  unfold nLstRg2
  rw [hf, bind_ok, hg, bind_ok]
  simp only []
  rw [if_pos ⟨by omega, by omega, by omega, by omega, by omega⟩]
  unfold ri
  rw [List.map_map]; rfl
theorem e_Rg1 (hf : fa ρ q = .ok [.int j] q1) (hj : -1000000 ≤ j ∧ j ≤ 1000000) : nLstRg1 fa ρ q = .ok (.lst ((ri 0 j).map fun x => .int x)) q1 := by
  unfold nLstRg1
  rw [hf, bind_ok]
  simp only []
  rw [if_pos ⟨by omega, by omega, by omega, by omega, by omega⟩]
  unfold ri
  rw [List.map_map, Int.sub_zero]; rfl
end
end SP

namespace SPE
open PySem PySem.Spec PyProof.Rows L2
open AutoSeq1 (wpAny_loadPart')
/-! ### t * 1, t a tuple: t itself -/
end SPE
namespace SP
open PySem PySem.Spec PyProof.Rows L2 SeqAt
/-- t * k, t a tuple, 1 ≤ k -/
def oMulT : Op2 := fun t u q => match t, u with
  | .tup xs, .int k => if k = 1 then .ok (.tup xs) q else if xs ≠ [] ∧ 2 ≤ k ∧ k ≤ 1000 ∧ xs.length ≤ 1000 then .ok (.tup (List.replicate k.toNat xs).flatten) q else .stuck
  | _, _ => .stuck
section
variable {L : Lx} {X : Cx} {a b : Expr} {f g : Sm} {pos : Pos}
end
theorem o_mulT {α : Type} {en : α → T} {x : α} {k : Int} {q : Store} (h : 1 ≤ k) (h2 : k ≤ 1000) : oMulT (.tup [en x]) (.int k) q = .ok (.tup ((List.replicate k.toNat x).map en)) q := by
  have e : (List.replicate k.toNat [en x]).flatten = (List.replicate k.toNat x).map en := by
    generalize k.toNat = n
    induction n with
    | zero => rfl
    | succ n ih => rw [List.replicate_succ, List.flatten_cons, ih, List.replicate_succ]; rfl
  unfold oMulT
  simp only []
  by_cases h1 : k = 1
  · subst h1; rfl
  · rw [if_neg h1, if_pos ⟨by simp, by omega, h2, by simp⟩, e]
end SP

namespace SP
open PySem PySem.Spec PyProof.Rows L2 SeqAt
/-! ### xs.index(x), xs a list or a tuple -/
theorem TD.at_ {X : Cx} {pins : List (Addr × Obj)} {σ : L2.St} {H : Hp} {s : Shared} {p : Addr} (I : Inv X pins σ H s) (h : TD X.K H p) : ∃ o, s.heap.get? p = some o ∧ o.dict = none := by
  rcases h with ⟨o, xs, h, d⟩ | ⟨o, h, d⟩
  · exact ⟨o, (I.hok p _ h).1, d⟩
  · exact ⟨o, I.kIn p o h, d⟩
/-- the receiver a list, or a tuple -/
def tBMU (K : PySem.W.Frag) (r rT : V → List V → Hp → VK → Prop) (to : TE) (t : TA) : TE := fun σ H Q => to σ H fun x H1 =>
  (tyV K "list" x H1 ∧ t σ H1 fun xs H2 => r x xs H2 Q) ∨ ((∃ p ys, x = .ref p ∧ SqT K H1 p ys ∧ TD K H1 p) ∧ t σ H1 fun xs H2 => rT x xs H2 Q)
section
variable {X : Cx} {o e : Expr} {es : List Expr} {to : TE} {t : TA} {name : Str} {apos cpos : Pos} {id idT : String} {r rT : V → List V → Hp → VK → Prop}
end
def strB : T → Bool
  | .str _ => true
  | _ => false
def mIndexT : FS := fun ts q => match ts with
  | [.tup us, .str z] => if us.all strB = true then match us.findIdx? (fun x => eqT x (.str z)) with
      | some j => .ok (.int (j : Nat)) q
      | none => .stuck
    else .stuck
  | _ => .stuck
/-- xs.index(x) -/
def sIdx (fo : Sm) (fa : Sa) : Sm := fun ρ q => (fo ρ q).bind fun t q1 => match t with
  | .tup us => (fa ρ q1).bind fun ts q2 => mIndexT (.tup us :: ts) q2
  | t => match lstAt q1 t with
    | some _ => (fa ρ q1).bind fun ts q2 => mIndex (t :: ts) q2
    | none => .stuck
section
variable {L : Lx} {X : Cx} {o e : Expr} {fo : Sm} {fa : Sa} {apos cpos : Pos}
end
section
variable {α : Type} {fo : Sm} {fa : Sa} {ρ : TEnv} {q q1 q2 : Store} {t : T} {ts : List T}
end
end SP

namespace SP
open PySem PySem.Spec L2
/-! ### forgetting, folds, the walk of statements -/
/-- from here on the slots' values are not told -/
def xFgt (is : List Nat) : Ss := fun ρ q => .nx (wipeT ρ is) q
theorem EnvOk.wipeF {K : PySem.W.Frag} {L : Lx} {ν : Nu} {H : Hp} {ρ : TEnv} {σ : L2.St} (e : EnvOk K L ν H ρ σ) : ∀ vs, EnvOk K L ν H (wipeT ρ vs) σ
  | [] => e
  | v :: vs => by
    have h := EnvOk.wipeF e vs
    refine ⟨by unfold wipeT; rw [List.length_set]; exact h.len, fun i t g => ?_⟩
    unfold wipeT at g
    rw [List.getElem?_set] at g
    split at g
    · split at g <;> cases g
    · exact h.at_ i t g
section
variable {X : Cx} {L : Lx}
theorem sss_fgt {st : List Stmt} {f : Ss} (is : List Nat) (h : SSs L X st f) : SSs L X st (xSeq (xFgt is) f) := by
  refine ⟨fun W tk hp => PSs.imp (h.ps W tk hp) fun D σ H ⟨ν, ρ, q, s, en, p⟩ => ?_⟩
  unfold xSeq xFgt at p
  rw [then_nx] at p
  exact ⟨ν, _, q, s, en.wipeF is, p⟩
end
section
variable {f g h fo fi' fv : Sm} {t u v w t1 t2 : T} {ρ ρ1 ρ2 ρ3 : TEnv} {q q0 q1 q2 q3 : Store} {o : Op2} {fa : Sa} {F : FS} {c d : St'} {s s1 s2 s3 : Ss} {i n : Nat} {ts us ys : List T} {b b1 b2 : Bool} {fi : Si} {tg : Tg} {tt : St'} {te : Sm} {vs : List Nat} {r : RS} {e : Str} {es : List (Str × T)}
theorem s_fgt {is : List Nat} (hs : s (wipeT ρ is) q = r) : xSeq (xFgt is) s ρ q = r := hs
theorem s_asc (h : xSeq s1 (xSeq s2 s3) ρ q = r) : xSeq (xSeq s1 s2) s3 ρ q = r := by
  rw [ap_Seq, ap_Seq] at *
  cases e : s1 ρ q <;> rw [e] at h <;> exact h
theorem s_skip (h : s ρ q = r) : xSeq xNil s ρ q = r := h
/-- some slots anew -/
def upd (ρ : TEnv) (l : List (Nat × T)) : TEnv := l.foldl (fun ρ p => ρ.set p.1 (some p.2)) ρ
end
end SP

namespace SP
open PySem PySem.Spec L2
/-! ### checks, draws with names -/
section
variable {f g h fo fi' fv : Sm} {t u v w t1 t2 : T} {ρ ρ1 ρ2 ρ3 : TEnv} {q q0 q1 q2 q3 : Store} {o : Op2} {fa : Sa} {F : FS} {c d : St'} {s s1 s2 s3 : Ss} {i n : Nat} {ts us ys : List T} {b b1 b2 : Bool} {fi : Si} {tg : Tg} {tt : St'} {te : Sm} {vs : List Nat} {r : RS} {e : Str} {es : List (Str × T)}
end
/-- what a draw gives -/
theorem roll_all (m : Int) (d : Dc) (h : 0 < m) : ∃ v d', dv m d = v ∧ dn m d = d' ∧ 0 ≤ v ∧ v < m := ⟨_, _, rfl, rfl, dv_ge h d, dv_lt h d⟩
end SP

namespace SP
open PySem PySem.Spec L2
/-! ### the order of tuples, item by item; folds and sums -/
section
variable {α : Type} [Inhabited α] {F : α → T} {l m : List α}
end
end SP

namespace SP
open PySem PySem.Spec L2
/-! ### ranges by steps -/
/-- from i by steps of c up to j -/
def stL (i j c : Int) : List Int := (List.range ((max 0 (j - i + c - 1)) / c).toNat).map fun (k : Nat) => i + (k : Int) * c
section
variable {ρ : TEnv} {q q1 : Store} {fa : Sa}
end
end SP

namespace SP
open PySem PySem.Spec L2
/-! ### the walk towards what is asked of the end -/
def Go (r : RS) (Q : RS → Prop) : Prop := Q r
section
variable {f g h fo fi' fv : Sm} {t u v w t1 t2 : T} {ρ ρ1 ρ2 ρ3 : TEnv} {q q0 q1 q2 q3 : Store} {o : Op2} {fa : Sa} {F : FS} {c d : St'} {s s1 s2 s3 : Ss} {i n : Nat} {ts us ys : List T} {b b1 b2 : Bool} {fi : Si} {tg : Tg} {tt : St'} {te : Sm} {vs : List Nat} {r r2 : RS} {e : Str} {es : List (Str × T)} {Q : RS → Prop}
theorem g_of (h : r = r2) (hq : Go r2 Q) : Go r Q := by subst h; exact hq
theorem g_set (hf : f ρ q = .ok t q1) (hs : Go (s (ρ.set i (some t)) q1) Q) : Go (xSeq (xSet i f) s ρ q) Q := g_of (s_set hf rfl) hs
theorem g_expr (hf : f ρ q = .ok t q1) (hs : Go (s ρ q1) Q) : Go (xSeq (xExpr f) s ρ q) Q := g_of (s_expr hf rfl) hs
theorem g_raise {e : Str} (ha : fa ρ q = .ok ts q1) (hl : ts.length ≤ sizeLine) (hq : Q (.exc e [] ρ q1)) : Go (xSeq (xRaise e fa) s ρ q) Q := g_of (s_raise ha hl) hq
theorem g_asg (hf : f ρ q = .ok t q1) (hg : tg t ρ q1 = some (ρ2, q2)) (hs : Go (s ρ2 q2) Q) : Go (xSeq (xAsg tg f) s ρ q) Q := g_of (s_asg hf hg rfl) hs
theorem g_par {is : List Nat} (ha : fa ρ q = .ok ts q1) (hl : ts.length = is.length) (hs : Go (s ((is.zip ts).foldl (fun ρ p => ρ.set p.1 (some p.2)) ρ) q1) Q) : Go (xSeq (xPar is fa) s ρ q) Q := g_of (s_par ha hl rfl) hs
theorem g_aug (h0 : ρ[i]? = some (some u)) (hf : f ρ q = .ok v q1) (ho : o u v q1 = .ok w q2) (hs : Go (s (ρ.set i (some w)) q2) Q) : Go (xSeq (xAug o i f) s ρ q) Q := g_of (s_aug h0 hf ho rfl) hs
theorem g_fgt {is : List Nat} (hs : Go (s (wipeT ρ is) q) Q) : Go (xSeq (xFgt is) s ρ q) Q := hs
theorem g_asc (h : Go (xSeq s1 (xSeq s2 s3) ρ q) Q) : Go (xSeq (xSeq s1 s2) s3 ρ q) Q := g_of (s_asc rfl) h
theorem g_skip (h : Go (s ρ q) Q) : Go (xSeq xNil s ρ q) Q := h
end
end SP

namespace SP
open PySem PySem.Spec PyProof.Rows L2 SeqAt
/-! ### dictionary displays -/
section
variable {L : Lx} {X : Cx}
inductive SPs (L : Lx) (X : Cx) : List (Option Expr) → List Expr → List (Sm × Sm) → Prop
  | nil : SPs L X [] [] []
  | cons {k v : Expr} {ks : List (Option Expr)} {vs : List Expr} {fk fv : Sm} {fs : List (Sm × Sm)} (hk : SE L X k fk) (hv : SE L X v fv) (hr : SPs L X ks vs fs) : SPs L X (some k :: ks) (v :: vs) ((fk, fv) :: fs)
abbrev noW : WX := fun _ _ _ _ => False
def trsOf (K : PySem.W.Frag) (L : Lx) (fs : List (Sm × Sm)) : List (TE × TE) := fs.map fun p => (rdE K L noW p.1, rdE K L noW p.2)
/-- the pairs of a display -/
def prs : List (Sm × Sm) → TEnv → Store → R (List (T × T))
  | [], _, q => .ok [] q
  | (fk, fv) :: fs, ρ, q => (fk ρ q).bind fun k q1 => (fv ρ q1).bind fun v q2 => (prs fs ρ q2).bind fun ps q3 => .ok ((k, v) :: ps) q3
def nDisp (fs : List (Sm × Sm)) : Sm := fun ρ q => match prs fs ρ q with
  | .ok ps q' => if (ps.all fun p => (keyT p.1).isSome) = true ∧ ps.length ≤ 15 then .ok (.dct (mergeT ps)) q' else .stuck
  | _ => .stuck
inductive RepPs (K : PySem.W.Frag) (L : Lx) (ν : Nu) (H : Hp) : List (T × T) → List (V × V) → Prop
  | nil : RepPs K L ν H [] []
  | cons {k v : T} {x y : V} {ps : List (T × T)} {vs : List (V × V)} (hk : Rep K L ν H k x) (hv : Rep K L ν H v y) (r : RepPs K L ν H ps vs) : RepPs K L ν H ((k, v) :: ps) ((x, y) :: vs)
end
end SP

namespace SP
open PySem PySem.Spec PyProof.Rows L2 SeqAt
/-! ### sorted(ints, reverse=True) -/
def dsc (a b : Int) : Bool := decide (b ≤ a)
def sortRv (ns : List Int) : List Int := ns.mergeSort dsc
def nSortRv (f : Sm) : Sm := fun ρ q => (f ρ q).bind fun t q1 => match lstAt q1 t with
  | some us => match intsT us with
    | some ns => .ok (.lst ((sortRv ns).map .int)) q1
    | none => .stuck
  | none => .stuck
section
variable {L : Lx} {X : Cx} {e : Expr} {f : Sm} {p pos kp kpos : Pos} {j : _}
end
end SP

namespace SP
open PySem PySem.Spec PyProof.Rows L2 SeqAt
/-! ### xs[k] += n, d[k] += n -/
section
variable {L : Lx} {X : Cx} {o i e : Expr} {fo fi fe : Sm} {pos tpos : Pos}
def xAugL (op : Int → Int → Int) (fo fi fe : Sm) : Ss := fun ρ q => (fo ρ q).to ρ fun t q1 => (fi ρ q1).to ρ fun i q2 => match t, i with
  | .obj n, .int k => match cell q2 n with
    | some (.lst ts) => if 0 ≤ k then match ts[k.toNat]? with
      | some (.int a) => (fe ρ q2).to ρ fun u q3 => match u with
        | .int b => match cell q3 n with
          | some (.lst ts3) => if k.toNat < ts3.length then .nx ρ (q3.set n (some (.lst (ts3.set k.toNat (.int (op a b)))))) else .stuck
          | _ => .stuck
        | _ => .stuck
      | _ => .stuck
      else .stuck
    | _ => .stuck
  | _, _ => .stuck
def xAugD (op : Int → Int → Int) (fo fi fe : Sm) : Ss := fun ρ q => (fo ρ q).to ρ fun t q1 => (fi ρ q1).to ρ fun i q2 => match t with
  | .obj n => match cell q2 n with
    | some (.dct kvs) => match keyT i with
      | some _ => match dval kvs i with
        | some (.int a) => (fe ρ q2).to ρ fun u q3 => match u with
          | .int b => match cell q3 n with
            | some (.dct kvs3) => if kvs3.length < sizeLine then .nx ρ (q3.set n (some (.dct (dput kvs3 i (.int (op a b)))))) else .stuck
            | _ => .stuck
          | _ => .stuck
        | _ => .stuck
      | none => .stuck
    | _ => .stuck
  | _ => .stuck
end
section
variable {fo fi fe : Sm} {ρ : TEnv} {q q1 q2 q3 : Store} {s : Ss} {n : Nat} {k a b : Int} {ts ts3 : List T} {Q : RS → Prop} {g : Int → Int → Int} {r : RS}
end
end SP

namespace SPI
open PySem PySem.Spec PyProof.Rows L2 SeqAt SP
/-! ### list(d.items()), the tuples' objects told -/
def putF (ob : Addr → Obj) : Hp → List Addr → List (Key × V) → Hp
  | H, a :: as, p :: kvs => putF ob (L2.upd H a (.frz (ob a) (.tup [kV p.1, p.2]))) as kvs
  | H, _, _ => H
section
variable {ob : Addr → Obj}
end
def rItemsF : V → Hp → VK → Prop := fun x H Q => ∃ (d : Addr) (kvs : List (Key × V)), x = .ref d ∧ Rd H d (.dK kvs) ∧
  ∀ (H' : Hp) (p : Addr) (ts : List Addr), (∀ b o, H b = some o → H' b = some o) → (∀ b, H' b = none → H b = none) → H p = none → (∀ t ∈ ts, H t = none) → p ∉ ts → H' p = some (.lst (ts.map V.ref)) → Paired (fun (t : Addr) (q : Key × V) => ∃ o, H' t = some (.frz o (.tup [kV q.1, q.2])) ∧ o.dict = none) ts kvs → Q (.ref p) H'
section
variable {X : Cx} {e : Expr} {te : TE} {p apos cpos pos : Pos}
end
end SPI

namespace SP
open PySem PySem.Spec PyProof.Rows L2 SeqAt
/-! ### list(d.items()), d.pop(k), d.get(k), d.get(k, x) -/
section
variable {L : Lx} {X : Cx} {o e g : Expr} {fo fi fe : Sm} {p pos apos cpos : Pos}
def nItems (fo : Sm) : Sm := fun ρ q => (fo ρ q).bind fun t q1 => match dctAt q1 t with
  | some kvs => .ok (.lst (kvs.map fun p => .tup [p.1, p.2])) q1
  | none => .stuck
/-- d.pop(k) -/
def sDPop (fo fi : Sm) : Sm := fun ρ q => (fo ρ q).bind fun t q1 => match t with
  | .obj n => match cell q1 n with
    | some (.dct _) => (fi ρ q1).bind fun v q2 => match keyT v, cell q2 n with
      | some _, some (.dct kvs) => match dval kvs v with
        | some w => .ok w (q2.set n (some (.dct (ddrop kvs v))))
        | none => .stuck
      | _, _ => .stuck
    | _ => .stuck
  | _ => .stuck
/-- d.get(k, x) -/
def sGet2 (fo fi fe : Sm) : Sm := fun ρ q => (fo ρ q).bind fun t q1 => match dctAt q1 t with
  | some _ => (fi ρ q1).bind fun v q2 => (fe ρ q2).bind fun z q3 => match keyT v, dctAt q3 t with
    | some _, some kvs => .ok ((dval kvs v).getD z) q3
    | _, _ => .stuck
  | none => .stuck
end
end SP

namespace SP
open PySem PySem.Spec PyProof.Rows L2 SeqAt
/-! ### an expression that only reads: all mutable things told whole -/
def Hlk (H : Hp) (ds : List Addr) (od : Addr → Obj) : Hp := fun b => if b ∈ ds then (H b).map (fun u => .frz (od b) u) else H b
def Hul (H' H : Hp) (ds : List Addr) : Hp := fun b => if b ∈ ds then H b else H' b
section
variable {X : Cx} {pins : List (Addr × Obj)} {σ : L2.St} {H H' : Hp} {s : Shared}
theorem lock_all : ∀ {ds : List Addr}, Inv X pins σ H s → (∀ d ∈ ds, ∃ u, H d = some u ∧ Mut (some u)) → ∃ od, Inv X pins σ (Hlk H ds od) s
  | [], I, _ => by
    refine ⟨fun _ => { cls := .none, data := .fields #[] }, ?_⟩
    have : Hlk H [] (fun _ => { cls := .none, data := .fields #[] }) = H := funext fun b => by unfold Hlk; simp
    rw [this]; exact I
  | d :: ds, I, h => by
    obtain ⟨od, I1⟩ := lock_all (ds := ds) I fun b m => h b (List.mem_cons_of_mem _ m)
    by_cases hd : d ∈ ds
    · refine ⟨od, ?_⟩
      have : Hlk H (d :: ds) od = Hlk H ds od := funext fun b => by
        unfold Hlk
        by_cases hb : b ∈ ds
        · rw [if_pos hb, if_pos (List.mem_cons_of_mem _ hb)]
        · rw [if_neg hb, if_neg]
          intro m
          rcases List.mem_cons.mp m with m | m
          · subst m; exact hb hd
          · exact hb m
      rw [this]; exact I1
    · obtain ⟨u, hu, mu⟩ := h d (List.mem_cons_self ..)
      obtain ⟨o, I2⟩ := I1.lock (d := d) (u := u) (by unfold Hlk; rw [if_neg hd]; exact hu) mu
      refine ⟨fun b => if b = d then o else od b, ?_⟩
      have : Hlk H (d :: ds) (fun b => if b = d then o else od b) = L2.upd (Hlk H ds od) d (.frz o u) := funext fun b => by
        by_cases hb : b = d
        · subst hb
          rw [upd_same]
          unfold Hlk
          rw [if_pos (List.mem_cons_self ..), hu]
          simp
        · rw [upd_ne hb]
          unfold Hlk
          by_cases hb2 : b ∈ ds
          · rw [if_pos hb2, if_pos (List.mem_cons_of_mem _ hb2)]
            simp [hb]
          · rw [if_neg hb2, if_neg (fun m => (List.mem_cons.mp m).elim hb hb2)]
      rw [this]; exact I2
theorem unlock_all : ∀ {ds : List Addr}, Inv X pins σ H' s → (∀ d ∈ ds, ∃ o u, H d = some u ∧ H' d = some (.frz o u) ∧ ∀ o' u', X.H_0 d ≠ some (.frz o' u')) → Inv X pins σ (Hul H' H ds) s
  | [], I, _ => by
    have : Hul H' H [] = H' := funext fun b => by unfold Hul; simp
    rw [this]; exact I
  | d :: ds, I, h => by
    have I1 := unlock_all (ds := ds) I fun b m => h b (List.mem_cons_of_mem _ m)
    by_cases hd : d ∈ ds
    · have : Hul H' H (d :: ds) = Hul H' H ds := funext fun b => by
        unfold Hul
        by_cases hb : b ∈ ds
        · rw [if_pos hb, if_pos (List.mem_cons_of_mem _ hb)]
        · rw [if_neg hb, if_neg]
          intro m
          rcases List.mem_cons.mp m with m | m
          · subst m; exact hb hd
          · exact hb m
      rw [this]; exact I1
    · obtain ⟨o, u, hu, hu', hn⟩ := h d (List.mem_cons_self ..)
      have I2 := I1.unlock (d := d) (od := o) (u := u) (by unfold Hul; rw [if_neg hd]; exact hu') hn
      have : Hul H' H (d :: ds) = L2.upd (Hul H' H ds) d u := funext fun b => by
        by_cases hb : b = d
        · subst hb
          rw [upd_same]
          unfold Hul
          rw [if_pos (List.mem_cons_self ..), hu]
        · rw [upd_ne hb]
          unfold Hul
          by_cases hb2 : b ∈ ds
          · rw [if_pos hb2, if_pos (List.mem_cons_of_mem _ hb2)]
          · rw [if_neg hb2, if_neg (fun m => (List.mem_cons.mp m).elim hb hb2)]
      rw [this]; exact I2
theorem pe_locks {e : Expr} {t : TE} (h : PE X e t) : PE X e (fun σ H Q => ∃ ds : List Addr, (∀ d ∈ ds, ∃ u, H d = some u ∧ Mut (some u)) ∧ ∀ od, t σ (Hlk H ds od) fun v H' => (∀ d ∈ ds, H' d = Hlk H ds od d) ∧ Q v (Hul H' H ds)) := by
  refine ⟨fun pins s σ H Q I hw => ?_⟩
  obtain ⟨ds, hd, hw⟩ := hw
  obtain ⟨od, I1⟩ := lock_all I hd
  refine thn (h.run pins s σ _ _ I1 (hw od)) fun v s1 ⟨x, H1, I2, r, e2, q⟩ => ?_
  refine ⟨x, _, unlock_all I2 (fun d m => ?_), r, q⟩
  obtain ⟨u, hu, mu⟩ := hd d m
  refine ⟨od d, u, hu, ?_, I.nofrz hu mu⟩
  rw [e2 d m]
  unfold Hlk
  rw [if_pos m, hu]; rfl
end
def isD : Option HO → Bool
  | some (.dK _) => true
  | _ => false
mutual
def flB : T → Bool
  | .non => true
  | .bl _ => true
  | .int _ => true
  | .str _ => true
  | .tup ts => flsB ts
  | _ => false
def flsB : List T → Bool
  | [] => true
  | t :: ts => flB t && flsB ts
end
/-- the environment, all told -/
def cloE (ρ : TEnv) (q : Store) : TEnv := ρ.map fun o => o.bind fun t => clo q 0 9 t
def sFz (f : Sm) : Sm := fun ρ q => match f (cloE ρ q) [] with
  | .ok t _ => if flB t = true then .ok t q else .stuck
  | _ => .stuck
section
variable {K : PySem.W.Frag} {L : Lx} {X : Cx} {ν ν' : Nu} {q q' : Store} {H H' : Hp} {od : Addr → Obj}
def dsOf (ν : Nu) (H : Hp) : List Addr := (ν.l.filter fun p => p.1 && isD (H p.2)).map (·.2)
theorem mem_ds {a : Addr} : a ∈ dsOf ν H ↔ (true, a) ∈ ν.l ∧ isD (H a) = true := by
  unfold dsOf
  rw [List.mem_map]
  constructor
  · rintro ⟨⟨b, x⟩, m, rfl⟩
    rw [List.mem_filter, Bool.and_eq_true] at m
    obtain ⟨m1, m2, m3⟩ := m
    simp only at m2
    subst m2
    exact ⟨m1, m3⟩
  · rintro ⟨h1, h2⟩
    exact ⟨(true, a), List.mem_filter.mpr ⟨h1, by simp [h2]⟩, rfl⟩
theorem lk_off {a : Addr} {ds : List Addr} (h : a ∉ ds) : Hlk H ds od a = H a := by unfold Hlk; rw [if_neg h]
theorem ul_off {a : Addr} {ds : List Addr} (h : a ∉ ds) : Hul H' H ds a = H' a := by unfold Hul; rw [if_neg h]
theorem ul_on {a : Addr} {ds : List Addr} (h : a ∈ ds) : Hul H' H ds a = H a := by unfold Hul; rw [if_pos h]
theorem isD_some {o : Option HO} (h : isD o = true) : ∃ kvs, o = some (.dK kvs) := by
  unfold isD at h
  split at h
  · exact ⟨_, rfl⟩
  · cases h
theorem not_ds {a : Addr} {o : HO} (h : H a = some o) (hn : ∀ kvs, o ≠ .dK kvs) : a ∉ dsOf ν H := fun m => by
  obtain ⟨kvs, e⟩ := isD_some (mem_ds.mp m).2
  rw [h] at e
  cases e
  exact hn _ rfl
theorem Tr.lk (ν : Nu) (H : Hp) (ν1 : Nu) (od : Addr → Obj) : Tr ν1 H ν1 (Hlk H (dsOf ν H) od) where
  keep := fun a o e _ _ nd => by rw [lk_off (not_ds e nd)]; exact e
  keepD := fun a kvs e _ => by
    rcases e with e | ⟨o, e⟩
    · by_cases m : a ∈ dsOf ν H
      · refine .inr ⟨od a, ?_⟩
        unfold Hlk
        rw [if_pos m, e]; rfl
      · exact .inl (by rw [lk_off m]; exact e)
    · exact .inr ⟨o, by rw [lk_off (not_ds e nofun)]; exact e⟩
  none := fun a e => by
    unfold Hlk at e
    split at e
    · cases h : H a with
      | none => rfl
      | some u => rw [h] at e; cases e
    · exact e
  nu := fun _ b _ h => ⟨b, h⟩
  old := fun _ h _ => h
theorem tabs_lk (s : SimQ K L ν q H) : NdefX.TabsN L.tabs (Hlk H (dsOf ν H) od) := fun p hp => by
  obtain ⟨ps, h1, h2, h3⟩ := s.tabs p hp
  refine ⟨ps, by rw [lk_off (not_ds h1 nofun)]; exact h1, h2, fun pos cv e => ?_⟩
  obtain ⟨c, e1, e2⟩ := h3 pos cv e
  exact ⟨c, e1, by rw [lk_off (not_ds e2 nofun)]; exact e2⟩
theorem fz0 {a : Addr} (h : a ∉ ν.hid) : Fz (ν.cut 0) a := ⟨fun m => by simp [Nu.cut] at m, h⟩
theorem sim0 (s : SimQ K L ν q H) : SimQ K L (ν.cut 0) [] (Hlk H (dsOf ν H) od) where
  len := by simp [Nu.cut]
  cells := fun n c e => by simp at e
  dead := fun n a e => by simp [Nu.cut] at e
  inj := fun i j a e _ => by simp [Nu.cut] at e
  tabs := tabs_lk s
  hidOk := fun a m => by
    have h := s.hidOk a m
    refine ⟨fun e => h.1 ((Tr.lk ν H ν od).none a e), fun m => by simp [Nu.cut] at m⟩
theorem en0 {ρ : TEnv} {σ : L2.St} (s : SimQ K L ν q H) (en : EnvOk K L ν H ρ σ) : EnvOk K L (ν.cut 0) (Hlk H (dsOf ν H) od) (cloE ρ q) σ := by
  refine ⟨by unfold cloE; rw [List.length_map]; exact en.len, fun i t e => ?_⟩
  unfold cloE at e
  rw [List.getElem?_map] at e
  cases h : ρ[i]? with
  | none => rw [h] at e; cases e
  | some o =>
    rw [h] at e
    cases o with
    | none => cases e
    | some t0 =>
      obtain ⟨v, e1, r⟩ := en.at_ i t0 h
      have e : some (clo q 0 9 t0) = some (some t) := e
      exact ⟨v, e1, (clo_t (objClo_all s 9) r t (Option.some.inj e)).tr (Tr.lk ν H _ od)⟩
theorem ds_hid (s : SimQ K L ν q H) {a : Addr} (m : a ∈ dsOf ν H) : a ∉ ν.hid := fun h => (s.hidOk a h).2 (mem_ds.mp m).1
theorem fut_ul (s : SimQ K L ν q H) (f : Fut (ν.cut 0) (Hlk H (dsOf ν H) od) ν' H') : Fut ν H ν (Hul H' H (dsOf ν H)) where
  keep := fun a o e n t nd => by
    have hd := not_ds (ν := ν) e nd
    rw [ul_off hd]
    exact f.keep a o (by rw [lk_off hd]; exact e) (fz0 n.2) t nd
  keepD := fun a kvs e n => by
    have hd : a ∉ dsOf ν H := fun m => n.1 (mem_ds.mp m).1
    have := f.keepD a kvs (by
      rcases e with e | ⟨o, e⟩
      · exact .inl (by rw [lk_off hd]; exact e)
      · exact .inr ⟨o, by rw [lk_off hd]; exact e⟩) (fz0 n.2)
    rcases this with e | ⟨o, e⟩
    · exact .inl (by rw [ul_off hd]; exact e)
    · exact .inr ⟨o, by rw [ul_off hd]; exact e⟩
  none := fun a e => by
    by_cases m : a ∈ dsOf ν H
    · rw [ul_on m] at e; exact e
    · rw [ul_off m] at e
      have := f.none a e
      rwa [lk_off m] at this
  nu := fun _ b _ h => ⟨b, h⟩
  old := fun _ h _ => h
  hid := rfl
  keepH := fun a m o e t => by
    have hd : a ∉ dsOf ν H := fun z => ds_hid s z m
    rw [ul_off hd]
    exact f.keepH a m o (by rw [lk_off hd]; exact e) t
theorem cell_ul (s : SimQ K L ν q H) (f : Fut (ν.cut 0) (Hlk H (dsOf ν H) od) ν' H') {a : Addr} {o : HO} {c : T} (ha : (true, a) ∈ ν.l) (h : H a = some o) (hc : CellRep K L ν H c o) : Hul H' H (dsOf ν H) a = some o := by
  by_cases m : a ∈ dsOf ν H
  · rw [ul_on m]; exact h
  · rw [ul_off m]
    refine f.keep a o (by rw [lk_off m]; exact h) (fz0 fun z => (s.hidOk a z).2 ha) (fun ps z => ?_) (fun kvs z => ?_)
    · subst z; cases hc
    · subst z
      exact m (mem_ds.mpr ⟨ha, by rw [h]; rfl⟩)
theorem sim_ul (s : SimQ K L ν q H) (f : Fut (ν.cut 0) (Hlk H (dsOf ν H) od) ν' H') (s' : SimQ K L ν' q' H') : SimQ K L ν q (Hul H' H (dsOf ν H)) where
  len := s.len
  cells := fun n c e => by
    obtain ⟨a, o, h1, h2, h3⟩ := s.cells n c e
    exact ⟨a, o, h1, cell_ul s f (List.mem_of_getElem? h1) h2 h3, h3.fut (fut_ul s f)⟩
  dead := s.dead
  inj := s.inj
  tabs := fun p hp => by
    obtain ⟨ps0, g1, g2, g3⟩ := s.tabs p hp
    obtain ⟨ps, h1, h2, h3⟩ := s'.tabs p hp
    have hd0 := not_ds (ν := ν) g1 nofun
    refine ⟨ps, by rw [ul_off hd0]; exact h1, h2, fun pos cv e => ?_⟩
    obtain ⟨c, e1, e2⟩ := h3 pos cv e
    refine ⟨c, e1, ?_⟩
    by_cases m : c ∈ dsOf ν H
    · exfalso
      obtain ⟨kvs, ek⟩ := isD_some (mem_ds.mp m).2
      have := f.keep c (.frz (od c) (.dK kvs)) (by unfold Hlk; rw [if_pos m, ek]; rfl) (fz0 (ds_hid s m)) nofun nofun
      rw [e2] at this
      cases this
    · rw [ul_off m]; exact e2
  hidOk := fun a m => ⟨fun e => (s.hidOk a m).1 ((fut_ul s f).none a e), (s.hidOk a m).2⟩
mutual
theorem rep_ul (s : SimQ K L ν q H) (f : Fut (ν.cut 0) (Hlk H (dsOf ν H) od) ν' H') : ∀ {t : T} {v : V}, Rep K L ν' H' t v → flB t = true → Rep K L ν (Hul H' H (dsOf ν H)) t v
  | .non, _, r, _ => by cases r; exact .non
  | .bl _, _, r, _ => by cases r; exact .bl _
  | .int _, _, r, _ => by cases r; exact .int _
  | .str _, _, r, _ => by cases r; exact .str _
  | .tup ts, _, r, h => by
    have h : flsB ts = true := by unfold flB at h; exact h
    cases r with
    | @tup a o xs _ n h1 d rs =>
      have hm : a ∉ dsOf ν H := fun m => by
        obtain ⟨kvs, ek⟩ := isD_some (mem_ds.mp m).2
        have := f.keep a (.frz (od a) (.dK kvs)) (by unfold Hlk; rw [if_pos m, ek]; rfl) (fz0 (ds_hid s m)) nofun nofun
        rw [h1] at this
        cases this
      refine .tup ⟨fun m => ?_, fun m => n.2 (by rw [f.hid]; exact m)⟩ (by rw [ul_off hm]; exact h1) d (reps_ul s f rs h)
      obtain ⟨i, hi, e⟩ := List.getElem_of_mem m
      have e1 : ν.l[i]? = some (true, a) := by rw [List.getElem?_eq_getElem hi, e]
      obtain ⟨c, hc⟩ := s.dead i a e1
      obtain ⟨b, u, g1, g2, g3⟩ := s.cells i c hc
      rw [e1] at g1
      cases g1
      have := cell_ul s f m g2 g3
      rw [ul_off hm, h1] at this
      cases this
      cases g3
    | tupK h1 rs => exact .tupK h1 (reps_ul s f rs h)
  | .lst _, _, _, h => by cases h
  | .dct _, _, _, h => by cases h
  | .dcu _, _, _, h => by cases h
  | .ins _ _, _, _, h => by cases h
  | .obj _, _, _, h => by cases h
  | .fz _, _, _, h => by cases h
theorem reps_ul (s : SimQ K L ν q H) (f : Fut (ν.cut 0) (Hlk H (dsOf ν H) od) ν' H') : ∀ {t : List T} {v : List V}, Reps K L ν' H' t v → flsB t = true → Reps K L ν (Hul H' H (dsOf ν H)) t v
  | [], _, .nil, _ => .nil
  | t :: ts, _, .cons r rs, h => by
    unfold flsB at h
    rw [Bool.and_eq_true] at h
    exact .cons (rep_ul s f r h.1) (reps_ul s f rs h.2)
end
theorem SE.fz {e : Expr} {f : Sm} (h : SE L X e f) : SE L X e (sFz f) := by
  refine ⟨fun W tk => PE.imp (pe_locks (h.pe _ takes0)) fun σ H Q ⟨ν, ρ, q, s, en, p⟩ => ?_⟩
  refine ⟨dsOf ν H, fun d m => ?_, fun od => ?_⟩
  · obtain ⟨kvs, ek⟩ := isD_some (mem_ds.mp m).2
    exact ⟨_, ek, trivial⟩
  unfold sFz at p
  refine ⟨ν.cut 0, cloE ρ q, [], sim0 s, en0 s en, ?_⟩
  split at p
  case h_2 => exact p.elim
  rename_i t q' hf
  split at p
  case isFalse => exact p.elim
  rename_i hfl
  rw [hf]
  intro ν' H' v f' s' r'
  refine ⟨fun d m => ?_, p ν (Hul H' H (dsOf ν H)) v (fut_ul s f') (sim_ul s f' s') (rep_ul s f' r' hfl)⟩
  obtain ⟨kvs, ek⟩ := isD_some (mem_ds.mp m).2
  have e : Hlk H (dsOf ν H) od d = some (.frz (od d) (.dK kvs)) := by unfold Hlk; rw [if_pos m, ek]; rfl
  rw [e]
  exact f'.keep d _ e (fz0 (ds_hid s m)) nofun nofun
end
section
variable {f : Sm} {ρ ρ' : TEnv} {q q' : Store} {t : T}
end
end SP

namespace SP
open PySem PySem.Spec L2
/-! ### displays, items, pop, get: the rules -/
section
variable {κ ν : Type} [DecidableEq κ] {ek : κ → T} {ev : ν → T} [hk : KeyE ek] {kvs : List (κ × ν)} {k : κ} {v : ν} {ρ : TEnv} {q q1 q2 q3 : Store} {n : Nat} {fo fi fe fk fv : Sm} {fs : List (Sm × Sm)} {t u z : T} {ps : List (T × T)}
end
end SP

namespace SP
open PySem PySem.Spec PyProof.Rows L2 SeqAt
/-! ### a new list of flat things, all mutable things told -/
def sFzN (f : Sm) : Sm := fun ρ q => match f (cloE ρ q) [] with
  | .ok (.lst ts) _ => if flsB ts = true then .ok (.lst ts) q else .stuck
  | _ => .stuck
section
variable {K : PySem.W.Frag} {L : Lx} {X : Cx} {ν ν' : Nu} {q q' : Store} {H H' : Hp} {od : Addr → Obj}
mutual
theorem rep_ulN (s : SimQ K L ν q H) (f : Fut (ν.cut 0) (Hlk H (dsOf ν H) od) ν' H') {p : Addr} : ∀ {t : T} {v : V}, Rep K L (ν'.hide p) H' t v → flB t = true → Rep K L (ν.hide p) (Hul H' H (dsOf ν H)) t v
  | .non, _, r, _ => by cases r; exact .non
  | .bl _, _, r, _ => by cases r; exact .bl _
  | .int _, _, r, _ => by cases r; exact .int _
  | .str _, _, r, _ => by cases r; exact .str _
  | .tup ts, _, r, h => by
    have h : flsB ts = true := by unfold flB at h; exact h
    cases r with
    | @tup a o xs _ n h1 d rs =>
      have hm : a ∉ dsOf ν H := fun m => by
        obtain ⟨kvs, ek⟩ := isD_some (mem_ds.mp m).2
        have := f.keep a (.frz (od a) (.dK kvs)) (by unfold Hlk; rw [if_pos m, ek]; rfl) (fz0 (ds_hid s m)) nofun nofun
        rw [h1] at this
        cases this
      refine .tup ⟨fun m => ?_, fun m => n.2 ((List.mem_cons.mp m).elim (fun z => by rw [z]; exact List.mem_cons_self ..) fun z => List.mem_cons_of_mem _ (by rw [f.hid]; exact z))⟩ (by rw [ul_off hm]; exact h1) d (reps_ulN s f rs h)
      have m : (true, a) ∈ ν.l := m
      obtain ⟨i, hi, e⟩ := List.getElem_of_mem m
      have e1 : ν.l[i]? = some (true, a) := by rw [List.getElem?_eq_getElem hi, e]
      obtain ⟨c, hc⟩ := s.dead i a e1
      obtain ⟨b, u, g1, g2, g3⟩ := s.cells i c hc
      rw [e1] at g1
      cases g1
      have := cell_ul s f m g2 g3
      rw [ul_off hm, h1] at this
      cases this
      cases g3
    | tupK h1 rs => exact .tupK h1 (reps_ulN s f rs h)
  | .lst _, _, _, h => by cases h
  | .dct _, _, _, h => by cases h
  | .dcu _, _, _, h => by cases h
  | .ins _ _, _, _, h => by cases h
  | .obj _, _, _, h => by cases h
  | .fz _, _, _, h => by cases h
theorem reps_ulN (s : SimQ K L ν q H) (f : Fut (ν.cut 0) (Hlk H (dsOf ν H) od) ν' H') {p : Addr} : ∀ {t : List T} {v : List V}, Reps K L (ν'.hide p) H' t v → flsB t = true → Reps K L (ν.hide p) (Hul H' H (dsOf ν H)) t v
  | [], _, .nil, _ => .nil
  | t :: ts, _, .cons r rs, h => by
    unfold flsB at h
    rw [Bool.and_eq_true] at h
    exact .cons (rep_ulN s f r h.1) (reps_ulN s f rs h.2)
end
theorem tr_hid {p : Addr} (s : SimQ K L ν q H) (f : Fut (ν.cut 0) (Hlk H (dsOf ν H) od) ν' H') (hp : H p = none) : Tr ν H (ν.hide p) (Hul H' H (dsOf ν H)) where
  keep := (fut_ul s f).keep
  keepD := (fut_ul s f).keepD
  none := (fut_ul s f).none
  nu := fun _ b _ h => ⟨b, h⟩
  old := fun a n e => ⟨n.1, fun m => (List.mem_cons.mp m).elim (fun z => e (by rw [z]; exact hp)) n.2⟩
theorem sim_hid {p : Addr} {o : HO} (s : SimQ K L ν q H) (f : Fut (ν.cut 0) (Hlk H (dsOf ν H) od) ν' H') (s' : SimQ K L ν' q' H') (hp : H p = none) (hp' : Hul H' H (dsOf ν H) p = some o) : SimQ K L (ν.hide p) q (Hul H' H (dsOf ν H)) where
  len := s.len
  cells := fun n c e => by
    obtain ⟨a, o, h1, h2, h3⟩ := s.cells n c e
    exact ⟨a, o, h1, cell_ul s f (List.mem_of_getElem? h1) h2 h3, h3.tr (tr_hid s f hp)⟩
  dead := s.dead
  inj := s.inj
  tabs := (sim_ul s f s').tabs
  hidOk := fun a m => by
    rcases List.mem_cons.mp m with m | m
    · subst m
      exact ⟨by rw [hp']; nofun, (s.notIn_none hp).1⟩
    · exact ⟨fun e => (s.hidOk a m).1 ((fut_ul s f).none a e), (s.hidOk a m).2⟩
theorem SN.fz {e : Expr} {f : Sm} (h : SN L X e f) : SN L X e (sFzN f) := by
  refine ⟨fun W tk => PE.imp (pe_locks (h.pe _ takes0)) fun σ H Q ⟨ν, ρ, q, s, en, p⟩ => ?_⟩
  refine ⟨dsOf ν H, fun d m => ?_, fun od => ?_⟩
  · obtain ⟨kvs, ek⟩ := isD_some (mem_ds.mp m).2
    exact ⟨_, ek, trivial⟩
  unfold sFzN at p
  refine ⟨ν.cut 0, cloE ρ q, [], sim0 s, en0 s en, ?_⟩
  split at p
  case h_2 => exact p.elim
  rename_i ts q' hf
  split at p
  case isFalse => exact p.elim
  rename_i hfl
  rw [hf]
  intro ν' H' b o f' s' h0 hb r'
  have hb0 : H b = none := (Tr.lk ν H ν od).none b h0
  have hbd : b ∉ dsOf ν H := fun m => by
    obtain ⟨kvs, ek⟩ := isD_some (mem_ds.mp m).2
    rw [hb0] at ek; cases ek
  have hb' : Hul H' H (dsOf ν H) b = some o := by rw [ul_off hbd]; exact hb
  refine ⟨fun d m => ?_, p ν (Hul H' H (dsOf ν H)) b o (fut_ul s f') (sim_hid s f' s'.unhide hb0 hb') hb0 hb' ?_⟩
  · obtain ⟨kvs, ek⟩ := isD_some (mem_ds.mp m).2
    have e : Hlk H (dsOf ν H) od d = some (.frz (od d) (.dK kvs)) := by unfold Hlk; rw [if_pos m, ek]; rfl
    rw [e]
    exact f'.keep d _ e (fz0 (ds_hid s m)) nofun nofun
  · cases r' with
    | lst rs => exact .lst (reps_ulN s f' rs hfl)
end
section
variable {f : Sm} {ρ ρ' : TEnv} {q q' : Store} {ts : List T}
end
end SP

namespace SP
open PySem PySem.Spec PyProof.Rows L2 SeqAt
/-! ### a test, and name = [..], all mutable things told -/
section
variable {X : Cx}
theorem pt_locks {e : Expr} {t : TT} (h : PT X e t) : PT X e (fun σ H Q => ∃ ds : List Addr, (∀ d ∈ ds, ∃ u, H d = some u ∧ Mut (some u)) ∧ ∀ od, t σ (Hlk H ds od) fun v H' => (∀ d ∈ ds, H' d = Hlk H ds od d) ∧ Q v (Hul H' H ds)) := by
  refine ⟨fun pins s σ H Q I hw => ?_⟩
  obtain ⟨ds, hd, hw⟩ := hw
  obtain ⟨od, I1⟩ := lock_all I hd
  refine thn (h.run pins s σ _ _ I1 (hw od)) fun v s1 ⟨H1, I2, e2, q⟩ => ?_
  refine ⟨_, unlock_all I2 (fun d m => ?_), q⟩
  obtain ⟨u, hu, mu⟩ := hd d m
  refine ⟨od d, u, hu, ?_, I.nofrz hu mu⟩
  rw [e2 d m]
  unfold Hlk
  rw [if_pos m, hu]; rfl
end
section
variable {L : Lx} {X : Cx}
def tFz (c : St') : St' := fun ρ q => match c (cloE ρ q) [] with
  | .ok b _ => .ok b q
  | _ => .stuck
theorem ST.fz {e : Expr} {c : St'} (h : ST L X e c) : ST L X e (tFz c) := by
  refine ⟨fun W tk => PT.imp (pt_locks (h.pt _ takes0)) fun σ H Q ⟨ν, ρ, q, s, en, p⟩ => ?_⟩
  refine ⟨dsOf ν H, fun d m => ?_, fun od => ?_⟩
  · obtain ⟨kvs, ek⟩ := isD_some (mem_ds.mp m).2
    exact ⟨_, ek, trivial⟩
  unfold tFz at p
  refine ⟨ν.cut 0, cloE ρ q, [], sim0 s, en0 s en, ?_⟩
  split at p
  case h_2 => exact p.elim
  rename_i b q' hf
  rw [hf]
  intro ν' H' f' s'
  refine ⟨fun d m => ?_, p ν (Hul H' H (dsOf ν H)) (fut_ul s f') (sim_ul s f' s')⟩
  obtain ⟨kvs, ek⟩ := isD_some (mem_ds.mp m).2
  have e : Hlk H (dsOf ν H) od d = some (.frz (od d) (.dK kvs)) := by unfold Hlk; rw [if_pos m, ek]; rfl
  rw [e]
  exact f'.keep d _ e (fz0 (ds_hid s m)) nofun nofun
variable {elt tg iter : Expr} {ifs : List Expr} {scope : Scope} {own : List (Str × Nat)} {pos : Pos} {fi : Si} {g : Tg} {tt : St'} {te : Sm}
end
end SP

namespace SP
open PySem PySem.Spec L2
/-! ### making, a sorted dict that is mutable, closing -/
section
variable {fo fv : Sm} {t u : T} {ρ : TEnv} {q q1 : Store} {s : Ss} {i : Nat} {r : RS} {Q : RS → Prop}
theorem s_fldL {ic : Str → Bool} {f' cn : Str} {fs : List (Str × T)} (hv : fv ρ (q ++ [some (.ins cn fs)]) = .ok u (q ++ [some (.ins cn fs)])) (h0 : ρ[i]? = some (some (.obj q.length))) (hic : ic cn = true) (hl : fs.length < 1000) (hs : s ρ (q ++ [some (.ins cn (putT f' u fs))]) = r) : xSeq (xFld ic f' (sVar i) fv) s ρ (q ++ [some (.ins cn fs)]) = r := by
  refine s_fld (n := q.length) hv (e_V h0) cell_last ⟨hic, hl⟩ ?_
  rw [set_last]; exact hs
end
end SP

namespace SP
open PySem PySem.Spec L2
/-! ### closing an environment, by rules -/
section
variable {t u c : T} {ρ ρ' : TEnv} {q : Store} {n f : Nat} {ts us : List T} {kvs : List (T × T)} {fs gs : List (Str × T)} {k cn : Str}
theorem ce_nil : cloE [] q = [] := rfl
theorem ce_none (r : cloE ρ q = ρ') : cloE (none :: ρ) q = none :: ρ' := by
  unfold cloE at *
  rw [List.map_cons, r]; rfl
theorem ce_some (h : clo q 0 9 t = some u) (r : cloE ρ q = ρ') : cloE (some t :: ρ) q = some u :: ρ' := by
  unfold cloE at *
  rw [List.map_cons, r]
  show (clo q 0 9 t) :: ρ' = _
  rw [h]
theorem clo_pure (h : clB 0 t = true) : clo q 0 f t = some t := clo_id t f h
theorem cf_nil : cloF q 0 f [] = some [] := by unfold cloF; rfl
theorem cf_cons (h : clo q 0 f t = some u) (r : cloF q 0 f fs = some gs) : cloF q 0 f ((k, t) :: fs) = some ((k, u) :: gs) := by
  unfold cloF
  rw [h, r]
end
end SP

namespace SP
open PySem PySem.Spec L2
/-! ### plain lemmas of use to more than one law (first made for k05) -/
local macro_rules | `(tactic| array_get_dec) => `(tactic| first
  | (with_reducible apply SP.walk_D)
  | exact (rfl : (_ : Option (SP.TEnv × SP.Store)) = _)
  | exact (rfl : (_ : Bool) = _)
  | exact (rfl : (_ : Option SP.T) = _)
  | exact (rfl : (_ : Option (List SP.T)) = _)
  | exact (rfl : (_ : Option (Str × List (Str × SP.T))) = _)
  | exact (rfl : (_ : Option Bool) = _)
  | (with_reducible apply SP.c_Val)
  | (with_reducible apply SP.e_If)
  | (with_reducible apply Exists.intro)
  | (with_reducible apply And.intro)
  | (with_reducible exact SP.dt_nil)
  | (with_reducible refine SP.dt_cons ?_ ?_)
  | (with_reducible refine SP.dt_map ?_)
  | (with_reducible refine SP.dt_app ?_ ?_)
  | (with_reducible apply SP.Dt.int)
  | (with_reducible apply SP.Dt.str)
  | (with_reducible apply SP.Dt.bl)
  | (with_reducible apply SP.Dt.non)
  | (with_reducible apply SP.Dt.tup)
  | (with_reducible apply SP.Dt.lst)
  | (with_reducible apply SP.cl_int)
  | (with_reducible apply SP.cl_str)
  | (with_reducible apply SP.cl_bl)
  | (with_reducible apply SP.cl_non)
  | (with_reducible apply SP.cl_nil)
  | (with_reducible apply SP.cl_cons)
  | (with_reducible apply SP.cl_map)
  | (with_reducible apply SP.cl_app)
  | (with_reducible apply SP.cl_tup)
  | (with_reducible apply SP.cl_lst)
  | (with_reducible apply SP.cl_eD)
  | (with_reducible apply SP.DatE.int)
  | (with_reducible apply SP.DatE.str)
  | (with_reducible apply SP.DatE.bl)
  | (with_reducible apply SP.DatsE.nil)
  | (with_reducible apply SP.DatsE.cons)
  | (with_reducible apply SP.DatsE.map)
  | (with_reducible apply SP.DatE.tup)
  | (with_reducible apply SP.ce_nil)
  | (with_reducible apply SP.ce_none)
  | (with_reducible apply SP.ce_some)
  | (with_reducible apply SP.cf_nil)
  | (with_reducible apply SP.cf_cons)
  | (apply SP.cl_ins)
  | (apply SP.clf_cons)
  | exact SP.clf_nil
  | with_reducible assumption
  | ((apply SP.small_sz); (try simp only [List.length_map, List.length_cons, List.length_nil, List.length_append, List.length_take, List.length_drop, SP.ri_len, SP.mapS_len]) <;> omega)
  | (with_reducible apply SP.clo_pure)
  | (intro _)
  | omega
  | ((simp only [List.length_map, List.length_cons, List.length_nil]) <;> omega)
  | (with_reducible apply_assumption)
  | exact (rfl : (_ : Int) = _)
  | exact (rfl : (_ : SP.Dc) = _))
local macro_rules | `(tactic| array_get_dec) => `(tactic| first
  | (with_reducible apply SP.op_add)
  | (with_reducible apply SP.op_sub)
  | (with_reducible apply SP.o_mulI)
  | (with_reducible apply SP.o_divI)
  | (with_reducible apply SP.o_modI)
  | (with_reducible apply SP.op_lt)
  | (with_reducible apply SP.op_gt)
  | (with_reducible apply SP.op_ge)
  | (with_reducible apply SP.op_le)
  | (with_reducible apply SP.o_ltS)
  | (with_reducible apply SP.o_eqI)
  | (with_reducible apply SP.o_neI)
  | (with_reducible apply SP.o_eqS)
  | (with_reducible apply SP.o_neS)
  | (with_reducible apply SP.o_isN)
  | (with_reducible apply SP.o_isNot)
  | (with_reducible apply SP.o_mulT)
  | (with_reducible apply SP.o_addS)
  | (with_reducible apply SP.o_addT)
  | (with_reducible apply SP.o_addL)
  | (with_reducible apply SP.o_inLS)
  | (with_reducible apply SP.o_ninLS)
  | (with_reducible apply SP.o_inTS)
  | (with_reducible apply SP.o_ninTS)
  | (with_reducible apply SP.o_inLI)
  | (with_reducible apply SP.o_ninLI)
  | (with_reducible apply SP.o_inTI)
  | (with_reducible apply SP.o_ninTI)
  | (with_reducible apply SP.o_inD)
  | (with_reducible apply SP.o_ninD)
  | (with_reducible apply SP.o_ixTm)
  | (with_reducible apply SP.o_ixLm)
  | (with_reducible apply SP.o_ixD)
  | exact SP.o_ixT rfl
  | exact SP.o_ixL rfl
  | (with_reducible apply SP.f_abs)
  | (with_reducible apply SP.f_max2)
  | (with_reducible apply SP.f_min2)
  | (with_reducible apply SP.f_int)
  | (with_reducible apply SP.f_intB)
  | (with_reducible apply SP.f_lenM)
  | (with_reducible apply SP.f_lenMT)
  | (with_reducible apply SP.f_lenL)
  | (with_reducible apply SP.f_lenT)
  | (with_reducible apply SP.f_lenE)
  | (with_reducible apply SP.f_sumL)
  | (with_reducible apply SP.f_sumT)
  | (with_reducible apply SP.f_tup)
  | (with_reducible apply SP.f_tupT)
  | (with_reducible apply SP.f_lst)
  | (with_reducible apply SP.f_lstT)
  | (with_reducible apply SP.f_lstE)
  | (with_reducible apply SP.f_dictF)
  | (with_reducible apply SP.f_min3)
  | (with_reducible apply SP.f_strS)
  | (with_reducible apply SP.f_str)
  | (with_reducible apply SP.f_minI)
  | (with_reducible apply SP.f_maxI)
  | (with_reducible apply SP.f_minTI)
  | (with_reducible apply SP.f_maxTI)
  | (with_reducible apply SP.f_sortD)
  | (with_reducible apply SP.p_no)
  | (with_reducible apply SP.p_some)
  | (with_reducible apply SP.cut_toM)
  | (with_reducible apply SP.cut_fromM)
  | (with_reducible apply SP.cut_midM)
  | (with_reducible apply SP.cut_to)
  | (with_reducible apply SP.cut_from)
  | (with_reducible apply SP.i_enumT)
  | (with_reducible apply SP.i_enumL)
  | (apply SP.f_cutT)
  | (apply SP.f_cutL)
  | (apply SP.f_cutF)
  | (apply SP.f_tup)
  | (apply SP.f_tupT)
  | (apply SP.f_lst)
  | (apply SP.f_lstT)
  | (apply SP.f_lenT)
  | (apply SP.f_lenL))
local macro_rules | `(tactic| array_get_dec) => `(tactic| first
  | ((with_reducible apply SP.e_V); exact rfl)
  | (with_reducible apply SP.e_C)
  | (with_reducible apply SP.a_nil)
  | (with_reducible apply SP.a_cons)
  | (with_reducible apply SP.e_Op)
  | (with_reducible apply SP.e_Call)
  | (with_reducible apply SP.e_Tup)
  | (with_reducible apply SP.e_Lst)
  | (with_reducible apply SP.e_nLst)
  | (with_reducible apply SP.e_nDct)
  | (with_reducible apply SP.e_froz)
  | (with_reducible apply SP.e_thaw)
  | (with_reducible apply SP.c_Bl)
  | (with_reducible apply SP.c_An)
  | (with_reducible apply SP.c_Or)
  | (with_reducible apply SP.c_Nt)
  | (with_reducible apply SP.e_lc)
  | (with_reducible apply SP.e_any)
  | (with_reducible apply SP.e_all)
  | (with_reducible apply SP.e_sumG)
  | (with_reducible apply SP.e_lcf)
  | (with_reducible apply SP.e_anyF)
  | (with_reducible apply SP.e_allF)
  | (with_reducible apply SP.e_sumGF)
  | (with_reducible apply SP.i_seq)
  | (with_reducible apply SP.i_range1)
  | (with_reducible apply SP.i_range2)
  | (with_reducible apply SP.e_Chain)
  | (with_reducible apply SP.e_Fld)
  | (with_reducible apply SP.e_Meth)
  | (with_reducible apply SP.e_Make)
  | (with_reducible apply SP.e_Sl)
  | (with_reducible apply SP.e_Neg)
  | (with_reducible apply SP.e_Rep)
  | (with_reducible apply SP.e_Rg2)
  | (with_reducible apply SP.e_Rg1)
  | (with_reducible apply SP.e_Not)
  | (with_reducible apply SP.e_And)
  | (with_reducible apply SP.e_Or))
local macro_rules | `(tactic| sizeOf_list_dec) => `(tactic| repeat' array_get_dec)
local macro_rules | `(tactic| clean_wf) => `(tactic| simp only [env0, SP.upd, SP.wipeT, List.map_cons, List.map_nil, List.length_cons, List.length_nil, List.replicate, List.replicate_zero, Nat.sub_self, Nat.zero_add, List.cons_append, List.nil_append, ap_set0, ap_sets, List.zip_cons_cons, List.zip_nil_right, List.zip_nil_left, List.foldl_cons, List.foldl_nil])
local macro_rules | `(tactic| bv_omega) => `(tactic| first | rfl | assumption | omega | (simp; done) | (simp; omega) | (simp [*]; done) | (simp [*]; omega) | (simp_all; done) | (simp_all; omega))
local macro_rules | `(tactic| array_mem_dec) => `(tactic| repeat (first
  | ((with_reducible apply SP.g_fgt); (try clean_wf))
  | ((with_reducible apply SP.g_set); (· (sizeOf_list_dec; done)); (try clean_wf))
  | ((with_reducible apply SP.g_par); (· (sizeOf_list_dec; done)); (· exact rfl); (try clean_wf))
  | ((with_reducible apply SP.g_asg); (· (sizeOf_list_dec; done)); (· exact rfl); (try clean_wf))
  | ((with_reducible apply SP.g_expr); · (sizeOf_list_dec; done))
  | ((with_reducible apply SP.g_aug); (· exact rfl); (· (sizeOf_list_dec; done)); (· exact rfl); (try clean_wf))
  | (with_reducible apply SP.g_asc)
  | (with_reducible apply SP.g_skip)
  | ((with_reducible apply SP.g_raise); (· (sizeOf_list_dec; done)); (· (sizeOf_list_dec; done)); (· exact rfl))
  | ((with_reducible apply SP.s_fldL); (· (sizeOf_list_dec; done)); (· exact rfl); (· exact rfl); (· exact Nat.le_of_ble_eq_true rfl))
  | ((with_reducible apply SP.s_fgt); (try clean_wf))
  | ((with_reducible apply SP.s_set); (· (sizeOf_list_dec; done)); (try clean_wf))
  | ((with_reducible apply SP.s_par); (· (sizeOf_list_dec; done)); (· exact rfl); (try clean_wf))
  | ((with_reducible apply SP.s_asg); (· (sizeOf_list_dec; done)); (· exact rfl); (try clean_wf))
  | ((with_reducible apply SP.s_expr); · (sizeOf_list_dec; done))
  | ((with_reducible apply SP.s_aug); (· exact rfl); (· (sizeOf_list_dec; done)); (· exact rfl); (try clean_wf))
  | (with_reducible apply SP.s_asc)
  | (with_reducible apply SP.s_skip)
  | ((with_reducible apply SP.s_ret); · (sizeOf_list_dec; done))
  | ((with_reducible apply SP.s_raise) <;> (sizeOf_list_dec; done))))
section
variable {κ ν : Type} [DecidableEq κ] {ek : κ → T} {ev : ν → T} [hk : KeyE ek] {kvs : List (κ × ν)} {k : κ} {v : ν} {q : Store} {n : Nat}
end
def oe : Option Str → T
  | none => .non
  | some s => .str s
def pos (ns : List Str) (nm : Str) : Nat := ns.findIdx fun x => decide (x = nm)
end SP

namespace SP
open PySem PySem.Spec PyProof.Rows L2 SeqAt
/-! ### list comprehensions: two clauses -/
open Classical in
noncomputable def lcT2 (g : Tg) (tt : St') (fi1 : Si) (g1 : Tg) (tt1 : St') (te : Sm) (vs1 : List Nat) (ρ : TEnv) : List T → Store → List T → R (List T)
  | [], q, acc => .ok acc q
  | t :: ts, q, acc => match g t ρ q with
    | none => .stuck
    | some (ρ1, q1) => match tt ρ1 q1 with
      | .ok b q2 => if b = true then (match fi1 ρ1 q2 with
          | .ok us q3 => if acc.length + us.length ≤ sizeLine then (lcT g1 tt1 te (wipeT ρ1 vs1) us q3 acc).bind fun acc2 q4 => lcT2 g tt fi1 g1 tt1 te vs1 ρ ts q4 acc2 else .stuck
          | _ => .stuck) else lcT2 g tt fi1 g1 tt1 te vs1 ρ ts q2 acc
      | _ => .stuck
noncomputable def nLc2 (fi : Si) (g : Tg) (tt : St') (fi1 : Si) (g1 : Tg) (tt1 : St') (te : Sm) (vs vs1 : List Nat) : Sm := fun ρ q => (fi ρ q).bind fun ts q1 => (lcT2 g tt fi1 g1 tt1 te vs1 (wipeT ρ vs) ts q1 []).bind fun ys q2 => .ok (.lst ys) q2
section
variable {L : Lx} {X : Cx} {elt tg iter tg1 iter1 : Expr} {ifs ifs1 : List Expr} {scope : Scope} {own : List (Str × Nat)} {pos : Pos} {fi fi1 : Si} {g g1 : Tg} {tt tt1 : St'} {te : Sm} {vs1 : List Nat}
end
end SP

namespace SP
open PySem PySem.Spec PyProof.Rows L2 SeqAt
/-! ### methods of texts, with arguments -/
def sSM (F : FS) (fo : Sm) (fa : Sa) : Sm := fun ρ q => (fo ρ q).bind fun t q1 => match t with
  | .str a => (fa ρ q1).bind fun ts q2 => F (.str a :: ts) q2
  | _ => .stuck
/-- a text's place in a text -/
def mIndexS : FS := fun ts q => match ts with
  | [.str a, .str b] => match Txt.index0 a b with
    | some k => .ok (.int (k : Nat)) q
    | none => .stuck
  | _ => .stuck
section
variable {L : Lx} {X : Cx} {o e : Expr} {es : List Expr} {fo : Sm} {fa : Sa} {apos cpos : Pos} {name : Str} {id : String} {F : FS}
end
end SP

namespace RT
open PySem PySem.Spec PyProof.Rows
/-! ### tuple(reversed(a tuple)), at the library's level -/
section
variable {prog : Program} {w : World} {A : Around} {E : Value → Shared → Prop} {s : Shared}
end
end RT

namespace MF
open PySem PySem.Spec PyProof.Rows
/-! ### min of four ints -/
section
variable {prog : Program} {w : World} {A : Around} {E : Value → Shared → Prop} {s : Shared}
end
end MF
namespace SP
open PySem PySem.Spec PyProof.Rows L2 SeqAt
def fMin4 : FS := fun ts q => match ts with
  | [.int i, .int j, .int k, .int l] => .ok (.int (min (min (min i j) k) l)) q
  | _ => .stuck
section
variable {L : Lx} {X : Cx} {a e : Expr} {es : List Expr} {fa : Sa} {p p2 pos pos2 : Pos} {f fo : Sm} {o e2 : Expr} {apos cpos : Pos}
/-! ### xs.insert(i, y) -/
/-! ### list(a text) -/
def signs (z : Str) : List Str := z.cps.toList.map fun c => ⟨#[c]⟩
open Classical in
noncomputable def fLstS : FS := fun ts q => match ts with
  | [.str z] => if z.cps.size ≤ sizeLine then .ok (.lst ((signs z).map T.str)) q else .stuck
  | ts => fLst ts q
theorem strs_reps {K : PySem.W.Frag} {ν : Nu} {H : Hp} : ∀ l : List Str, Reps K L ν H (l.map T.str) (l.map V.str)
  | [] => .nil
  | i :: l => .cons (.str _) (strs_reps l)
/-! ### tuple(range(n)) -/
open Classical in
noncomputable def sTupRg (f : Sm) : Sm := fun ρ q => (f ρ q).bind fun t q' => match t with
  | .int n => if RgOk 0 n then .ok (.tup ((List.range n.toNat).map fun (i : Nat) => .int (0 + (i : Nat)))) q' else .stuck
  | _ => .stuck
def tTupRgF (te : L2.St → Hp → (Int → Int → Hp → Prop) → Prop) : TE := fun σ H Q => te σ H fun a b H1 => RgOk a b ∧ SPF.NwT H1 (rgV a b) Q
end
/-! ### the constructs applied -/
section
variable {f fo fi : Sm} {fa : Sa} {ρ : TEnv} {q q1 q2 q3 : Store} {i j k l : Int} {n : Nat} {us : List T} {u t : T}
end
/-! ### sorted(d), keys ints; sorted(a tuple or list of ints, reverse=True) -/
noncomputable def fSortDI : FS := fun ts q => match ts with
  | [.dct kvs] => match intsT (kvs.map (·.1)) with
    | some ks => if ks.length < 64 then .ok (.lst (sortT (kvs.map (·.1)))) q else .stuck
    | none => .stuck
  | _ => .stuck
section
variable {L : Lx} {X : Cx} {e : Expr} {fa : Sa} {f : Sm} {p pos kp kpos : Pos} {j : _}
end
end SP
namespace SPE
open PySem PySem.Spec PyProof.Rows
section
variable {prog : Program} {w : World} {A : Around} {E : Value → Shared → Prop} {s : Shared}
end
end SPE
namespace SP
open PySem PySem.Spec PyProof.Rows L2 SeqAt
def rSortT (K : PySem.W.Frag) : List V → List V → Hp → VK → Prop := fun vs zs H Q => ∃ (a : Addr) (ns : List Int), vs = [V.ref a] ∧ zs = [.bl true] ∧ SqT K H a (ns.map V.int) ∧ ns.length ≤ sizeLine ∧
  ∀ (ns' : List Int) (p : Addr), ns'.Perm ns → ns'.Pairwise (· ≥ ·) → H p = none → Q (.ref p) (L2.upd H p (.lst (ns'.map V.int)))
section
variable {L : Lx} {X : Cx} {e : Expr} {fa : Sa} {f : Sm} {p pos kp kpos : Pos} {j : _}
open Classical in
noncomputable def nSortRvS (f : Sm) : Sm := fun ρ q => (f ρ q).bind fun t q1 => match t with
  | .tup us => match intsT us with
    | some ns => if ns.length ≤ sizeLine then .ok (.lst ((sortRv ns).map .int)) q1 else .stuck
    | none => .stuck
  | _ => .stuck
end
end SP

namespace SP
open PySem PySem.Spec PyProof.Rows L2 SeqAt
/-! ### xs.count(x), xs.remove(x), xs.reverse(), xs += ys -/
open Classical in
noncomputable def mCount : FS := fun ts q => match ts with
  | [t, u] => match lstAt q t with
    | some us => if Dt 50 u ∧ ∀ w ∈ us, Dt 50 w then .ok (.int (us.countP fun w => eqT w u : Nat)) q else .stuck
    | none => .stuck
  | _ => .stuck
open Classical in
noncomputable def mRemove : FS := fun ts q => match ts with
  | [.obj n, u] => match cell q n with
    | some (.lst us) => if Dt 50 u ∧ ∀ w ∈ us, Dt 50 w then match us.findIdx? fun w => eqT w u with
        | some j => .ok .non (q.set n (some (.lst (us.eraseIdx j))))
        | none => .stuck
      else .stuck
    | _ => .stuck
  | _ => .stuck
section
variable {L : Lx} {X : Cx}
/-! xs += ys -/
open Classical in
noncomputable def oExt : Op2 := fun t u q => match t with
  | .obj n => match cell q n, lstAt q u with
    | some (.lst us), some ws => if us.length + ws.length ≤ sizeLine then .ok (.obj n) (q.set n (some (.lst (us ++ ws)))) else .stuck
    | _, _ => .stuck
  | _ => .stuck
end
section
variable {L : Lx} {X : Cx} {o e : Expr} {fo : Sm} {fa : Sa} {apos cpos : Pos}
end
/-! #### applied -/
section
variable {q : Store} {n : Nat} {us ws : List T} {t u : T}
end
end SP

namespace SP
open PySem PySem.Spec PyProof.Rows L2 SeqAt LamX
/-! ### sorted(xs, key=lambda x: ..) -/
/-- a thing of ours that is not tracked is let go -/
theorem Inv.drop {X : Cx} {pins : List (Addr × Obj)} {σ : L2.St} {H : Hp} {s : Shared} {a : Addr} (I : Inv X pins σ H s) (hn : H a = none) (h0 : X.s_0.heap.get? a = none) (hL : a ≠ X.env.locals) (hC : ∀ x c, X.env.cells.lookup x = some c → c ≠ a) (hp : ∀ p ∈ X.pn ++ pins, p.1 ≠ a) :
    ∃ G : Heap, (∀ b o, G.get? b = some o → s.heap.get? b = some o) ∧ (∀ b o, b ≠ a → s.heap.get? b = some o → G.get? b = some o) ∧ G.get? a = none ∧ Inv X pins σ H { s with heap := G } := by
  obtain ⟨G, g1, g2⟩ := restrict s.heap fun b => decide (b ≠ a)
  have gk : ∀ b o, b ≠ a → s.heap.get? b = some o → G.get? b = some o := fun b o hb e => by
    rw [g1 b (decide_eq_true hb)]
    exact e
  have ga : G.get? a = none := g2 a (decide_eq_false fun z => z rfl)
  have gs : ∀ b o, G.get? b = some o → s.heap.get? b = some o := fun b o e => by
    by_cases hb : b = a
    · rw [hb, ga] at e
      cases e
    · rw [← g1 b (decide_eq_true hb)]
      exact e
  have ne0 : ∀ b o, X.s_0.heap.get? b = some o → b ≠ a := fun b o e z => by
    rw [z, h0] at e
    cases e
  have neH : ∀ b u, H b = some u → b ≠ a := fun b u e z => by
    rw [z, hn] at e
    cases e
  have cellK : ∀ x c, X.env.cells.lookup x = some c → ∀ v, s.heap.IsCell c v → G.IsCell c v := fun x c e v ⟨o, ho, hd⟩ => ⟨o, gk c o (hC x c e) ho, hd⟩
  refine ⟨G, gs, gk, ga, ⟨I.ok, I.os, I.bare, ⟨fun b o e n hb hq => gk b o (ne0 b o e) (I.base.keep b o e n hb hq), fun b o e n hb hq => ?_, fun b o e n hq => I.base.free b o e n hq, fun b o e hq => ?_, I.base.tups, I.base.frzs, I.base.tbls⟩, ?_, fun x c e => ?_, I.free, I.freeC, fun p hq => ?_, fun b u e => ?_, I.len⟩⟩
  · obtain ⟨sl, q⟩ := I.base.slot b o e n hb hq
    exact ⟨sl, gk b _ (ne0 b o e) q⟩
  · obtain ⟨o', q⟩ := I.base.there b o e hq
    exact ⟨o', gk b o' (ne0 b o e) q⟩
  · obtain ⟨m, ⟨o, es, ep, ho, r⟩, hl⟩ := I.loc
    refine ⟨m, ⟨o, es, ep, gk _ _ hL.symm ho, r⟩, fun i x v e1 e2 e3 => ?_⟩
    obtain ⟨u, r', l⟩ := hl i x v e1 e2 e3
    refine ⟨u, r', ?_⟩
    rcases l with l | ⟨k, c, ec, z⟩
    · exact .inl l
    · exact .inr ⟨k, c, ec, cellK x c ec _ z⟩
  · obtain ⟨v, z⟩ := I.cell x c e
    exact ⟨v, cellK x c e v z⟩
  · obtain ⟨e, n, ne, nf, d⟩ := I.pin p hq
    exact ⟨gk _ _ (hp p hq) e, n, ne, nf, d⟩
  · refine (I.hok b u e).stay (fun c v hc q => gk c v ?_ q) (fun _ q => q) fun _ _ q => q
    rcases hc with z | z
    · rw [z]; exact neH b u e
    · exact neH c _ z
noncomputable def sortKT (ts ks : List T) : List T := ((ts.zip ks).mergeSort (PySem.W.dataLe false fun p : T × T => encT p.2)).map (·.1)
section
variable {L : Lx} {X : Cx} {pins : List (Addr × Obj)} {σ : L2.St} {f c' : Addr} {pm ctv : Value} {params : Arguments} {body : Expr} {scope : Scope} {x : Str} {i k : Nat} {fb : Sm} {B : Around}
end
end SP

namespace SP
open PySem PySem.Spec PyProof.Rows L2 SeqAt LamX
section
variable {L : Lx} {X : Cx} {pins : List (Addr × Obj)} {σ : L2.St} {f c' : Addr} {pm ctv : Value} {params : Arguments} {body : Expr} {scope : Scope} {x : Str} {i k : Nat} {fb : Sm}
end
open Classical in
noncomputable def nSortK (i : Nat) (fa : Sa) (fb : Sm) : Sm := fun ρ q => (fa ρ q).bind fun l q1 => match l with
  | [t] => match lstAt q1 t with
    | some ts => match keyRun i fb ρ ts q1 with
      | .ok ks q2 => if DatOk ks ∧ SrtOk ks ∧ ts.length ≤ sizeLine then .ok (.lst (sortKT ts ks)) q2 else .stuck
      | _ => .stuck
    | _ => .stuck
  | _ => .stuck
section
variable {L : Lx} {X : Cx} {e : Expr} {params : Arguments} {body : Expr} {scope : Scope} {x : Str} {i k : Nat} {fa : Sa} {fb : Sm} {p lpos pos kpos : Pos}
end
/-! #### applied -/
def sortKE {α : Type} (K : α → T) (xs : List α) : List α := xs.mergeSort fun a b => leD (K a) (K b)
end SP

namespace SP
open PySem PySem.Spec PyProof.Rows L2 SeqAt
/-! ### (a, b) = a list; `<` of tuples; constants -/
def gTpL (gs : List Tg) : Tg := fun t ρ q => match t with
  | .lst ts => gTs gs ts ρ q
  | _ => none
section
variable {L : Lx} {X : Cx} {pos : Pos}
end
open Classical in
/-- t < u -/
noncomputable def oLtA : Op2 := fun t u q => match t, u with
  | .tup a, .tup b => if DatOk [.tup a, .tup b] then .ok (.bl (ltD (.tup a) (.tup b))) q else .stuck
  | t, u => oLt t u q
theorem se_konE {L : Lx} {X : Cx} {t : Txt} {K : PySem.W.Frag} {mg : Str → Option Value} {base : Heap} (E : Ev t K mg base) {x : Str} {v : T} {pos : Pos} (hx : (x, v) ∈ t.kons) (hgx : t.glos.contains x = true) (hg : Gl X x) (hK : X.K = K := by rfl) (hm : X.mg = mg := by rfl) (hdb : (x == ("__debug__" : Str)) = false := by decide) : SE L X (.Name x pos) (sC v) := by
  subst hK hm
  exact se_kon hg (E.glo x hgx) (E.kn _ hx) hdb
section
variable {f g : Sm} {L : Lx} {X : Cx} {a b : Expr} {pos : Pos}
end
end SP

namespace SP
open PySem PySem.Spec PyProof.Rows L2 SeqAt
/-! ### o.f += e -/
section
variable {L : Lx} {X : Cx} {ic : Str → Bool} {o e : Expr} {f : Str} {fo fv : Sm} {pos tpos : Pos}
end
end SP

namespace SPV
open PySem PySem.Spec PyProof.Rows L2 SeqAt SP
/-! ### f(d.values()) -/
/-- what f(view) does, the view's dict told -/
def ValR (X : Cx) (f : Value) (r : List (Key × V) → Hp → VK → Prop) : Prop := ∀ (pins : List (Addr × Obj)) (s : Shared) (σ : L2.St) (H : Hp) (v d : Addr) (kvs : List (Key × V)) (vs : List (Key × Value)) (ep : Nat) (Q : VK),
  Inv X pins σ H s → kvs.length ≤ sizeLine → KV kvs vs → s.heap.IsValuesView v d → s.heap.DictAt (mixKind X.prog X.w) d vs ep → r kvs H Q → wpAny (model X.prog X.w) X.A (call f [.ref v]) (EP X pins σ Q) X.xe s
def tVals (r : List (Key × V) → Hp → VK → Prop) (te : TE) : TE := fun σ H Q => te σ H fun x H1 => ∃ (d : Addr) (kvs : List (Key × V)), x = .ref d ∧ Rd H1 d (.dK kvs) ∧ r kvs H1 Q
section
variable {X : Cx} {e : Expr} {te : TE} {p apos cpos pos : Pos} {r : List (Key × V) → Hp → VK → Prop} {x : Str}
/-- list(d.values()) -/
def rValL : List (Key × V) → Hp → VK → Prop := fun kvs H Q => ∀ l, H l = none → Q (.ref l) (L2.upd H l (.lst (kvs.map (·.2))))
end
end SPV

namespace SPV
open PySem PySem.Spec PyProof.Rows L2 SeqAt SP
/-! ### x in d.values() -/
section
variable {prog : Program} {w : World} {A : Around} {I : Addr} {fp wr : List Addr} {n : Nat} {P : Nat → Value → Prop} {St : Nat → Heap → Prop} {s0 : Shared} {x : Value} {R : Result → Shared → Prop}
end
section
variable {prog : Program} {w : World} {A : Around} {E : Value → Shared → Prop} {s : Shared} {r d : Addr} {n : Nat} {P : Nat → Value → Prop} {OK : Heap → Prop} {x : Value} {Q : Bool → Shared → Prop}
end
end SPV

namespace SPV
open PySem PySem.Spec PyProof.Rows L2 SeqAt SP
def rInV (X : Cx) (x : V) : List (Key × V) → Hp → VK → Prop := fun kvs H Q => ∃ b : Bool,
  (∀ (its : List Value) (v : Value), Vals (kvs.map (·.2)) its → RelV x v → (∃ pins σ' s', Inv X pins σ' H s') → ∃ e : Value → Bool, (∀ pins σ' s', Inv X pins σ' H s' → ∀ z ∈ its, EqAt X.A.in1 s' z v (e z)) ∧ its.any e = b) ∧ Q (.bl b) H
def tInVal (X : Cx) (ta te : TE) : TT := fun σ H Q => ta σ H fun x H1 => tVals (rInV X x) te σ H1 fun z H2 => ∃ b, z = .bl b ∧ Q b H2
section
variable {X : Cx} {a e : Expr} {ta te : TE} {p apos cpos pos : Pos}
end
end SPV

namespace SP
open PySem PySem.Spec PyProof.Rows L2 SeqAt
/-! ### list(d.values()), x in d.values() -/
section
variable {L : Lx} {X : Cx} {o e g : Expr} {fo fi fe : Sm} {p pos apos cpos : Pos}
def nVals (fo : Sm) : Sm := fun ρ q => (fo ρ q).bind fun t q1 => match dctAt q1 t with
  | some kvs => .ok (.lst (kvs.map (·.2))) q1
  | none => .stuck
open Classical in
noncomputable def tInV (f fo : Sm) : St' := fun ρ q => (f ρ q).bind fun t q1 => (fo ρ q1).bind fun d q2 => match dctAt q2 d with
  | some kvs => if Dt 50 t ∧ ∀ u ∈ kvs.map (·.2), Dt 50 u then .ok (inT t (kvs.map (·.2))) q2 else .stuck
  | none => .stuck
end
end SP

namespace SP
open PySem PySem.Spec PyProof.Rows L2 SeqAt
/-! ### [.. for .. in .. if .. for .. in .. if ..] -/
section
variable {L : Lx} {X : Cx} {elt tg iter tg1 iter1 : Expr} {ifs ifs1 : List Expr} {scope : Scope} {own : List (Str × Nat)} {pos : Pos} {fi fi1 : Si} {g g1 : Tg} {tt tt1 : St'} {te : Sm} {vs1 : List Nat}
end
section
variable {α β : Type} {xs : List α} {en : α → T} {fi fi1 : Si} {tg tg1 : Tg} {tt tt1 : St'} {te : Sm} {vs vs1 : List Nat} {ρ : TEnv} {q q1 : Store}
end
end SP

namespace SPV
open PySem PySem.Spec PyProof.Rows L2 SeqAt SP
/-! ### f(d.items()) -/
def ItemR (X : Cx) (f : Value) (r : List (Key × V) → Hp → VK → Prop) : Prop := ∀ (pins : List (Addr × Obj)) (s : Shared) (σ : L2.St) (H : Hp) (v d : Addr) (kvs : List (Key × V)) (vs : List (Key × Value)) (ep : Nat) (Q : VK),
  Inv X pins σ H s → kvs.length ≤ sizeLine → KV kvs vs → ItemsView s.heap v d → s.heap.DictAt (mixKind X.prog X.w) d vs ep → r kvs H Q → wpAny (model X.prog X.w) X.A (call f [.ref v]) (EP X pins σ Q) X.xe s
section
variable {X : Cx} {e : Expr} {te : TE} {p apos cpos pos : Pos} {r : List (Key × V) → Hp → VK → Prop} {x : Str}
/-- dict(d.items()) -/
def rItemD : List (Key × V) → Hp → VK → Prop := fun kvs H Q => ∀ l, H l = none → Q (.ref l) (L2.upd H l (.dK (mergeK [] kvs)))
end
end SPV
namespace SP
open PySem PySem.Spec PyProof.Rows L2 SeqAt
section
variable {L : Lx} {X : Cx} {o : Expr} {fo : Sm} {p pos apos cpos : Pos}
def nDItems (fo : Sm) : Sm := fun ρ q => (fo ρ q).bind fun t q1 => match dctAt q1 t with
  | some kvs => .ok (.dct (mergeT kvs)) q1
  | none => .stuck
end
end SP

namespace HN2
open PySem PySem.Spec PyProof.Rows PySem.SeqAt
/-! ### an instance and a text are unlike -/
section
variable {M : Model} {prog : Program} {w : World} {A : Around} {E : Value → Shared → Prop} {s : Shared} {K : PySem.W.Frag} {x C dx : Addr} {od : Option Obj} {y : Str} {t : Tok}
end
end HN2
namespace HN2
open PySem PySem.Spec PyProof.Rows PySem.SeqAt
section
variable {A : Around} {s : Shared} {K : PySem.W.Frag} {x C dx : Addr} {od : Option Obj} {y : Str} {t : Tok}
end
end HN2
namespace SP
open PySem PySem.Spec PyProof.Rows L2 SeqAt
section
variable {L : Lx} {X : Cx} {ec : Str → Bool} {a b : Expr} {f g : Sm} {pos : Pos}
/-- what an instance that may be compared with a text must be -/
def EqOk (X : Cx) (L : Lx) (ec : Str → Bool) : Prop := ∀ c C, L.cl c = some C → ec c = true → eqB X.K C = true
noncomputable def oEqI (ec : Str → Bool) : Op2 := fun t u q => match insAt q t, u with
  | some cf, .str _ => if ec cf.1 = true then .ok (.bl false) q else .stuck
  | _, u => oEq t u q
end
end SP
namespace SP
open PySem PySem.Spec PyProof.Rows L2 SeqAt
/-- texts all -/
def allS : List T → Bool
  | [] => true
  | .str _ :: r => allS r
  | _ => false
noncomputable def oInI (ec : Str → Bool) (neg : Bool) : Op2 := fun t tl q => match insAt q t, tl with
  | some cf, .lst us => if ec cf.1 = true ∧ allS us = true then .ok (.bl neg) q else .stuck
  | _, tl => oInA neg t tl q
section
variable {L : Lx} {X : Cx} {ec : Str → Bool} {a b : Expr} {f g : Sm} {pos : Pos}
end
section
variable {α : Type} {q : Store} {ec : Str → Bool} {t : T} {c : Str} {fs : List (Str × T)} {x : Str} {xs : List α} {h : α → Str}
end
end SP

namespace SP
open PySem PySem.Spec PyProof.Rows L2 SeqAt
/-! ### S88-S95 applied -/
section
variable {κ ν : Type} [DecidableEq κ] {ek : κ → T} {ev : ν → T} {kvs : List (κ × ν)} {fo f fe : Sm} {ρ : TEnv} {q q1 q2 : Store} {t u v : T} {n : Nat} {s : Ss} {r : RS} {Q : RS → Prop}
end
end SP

namespace ZG
open PySem PySem.Spec
/-! ### a zip over any two rows that are handed out one by one -/
/-- a row xs handed out by the iterator I over the object l -/
structure Nx (prog : Program) (w : World) (A : Around) (I l : Addr) (St : Nat → Heap → Prop) (xs : Array Value) : Prop where
  frame : ∀ k h h', St k h → (∀ b, b = I ∨ b = l → ∀ o, h.get? b = some o → h'.get? b = some o) → St k h'
  there : ∀ k h, St k h → (∃ o, h.get? I = some o) ∧ ∃ o, h.get? l = some o
  item : ∀ k (s : Shared) x (E : Value → Shared → Prop) (Q : Value → Shared → Prop), St k s.heap → xs[k]? = some x → (∀ h', St (k + 1) h' → Heap.SameBut I s.heap h' → Q x { s with heap := h' }) → wpAny (model prog w) A (Builtin.SmallTypes.nextOf (.ref I)) Q E s
  done : ∀ k (s : Shared) (E : Value → Shared → Prop) (Q : Value → Shared → Prop), St k s.heap → xs[k]? = none → (∀ h' e, Heap.ExtBut I s.heap h' → (∃ o, h'.get? e = some o ∧ o.cls = .type "StopIteration") → E (.ref e) { s with heap := h' }) → wpAny (model prog w) A (Builtin.SmallTypes.nextOf (.ref I)) Q E s
section
variable {prog : Program} {w : World} {A : Around} {I l : Addr} {xs : Array Value}
end
section
variable {prog : Program} {w : World} {A : Around} {E : Value → Shared → Prop} {s : Shared} {z TI TO T i1 i2 l1 l2 : Addr} {k : Nat} {xs ys : Array Value} {x y a b : Value} {S1 S2 : Nat → Heap → Prop}
theorem next_item {Q : Value → Shared → Prop} (D : ZipApart z TI TO i1 i2 l1 l2) (N1 : Nx prog w A i1 l1 S1 xs) (N2 : Nx prog w A i2 l2 S2 ys)
    (hz : IsZip s.heap z TI TO .none) (hTI : IsPair s.heap TI (.ref i1) (.ref i2)) (hTO : IsPair s.heap TO a b) (h1 : S1 k s.heap) (h2 : S2 k s.heap) (hx : xs[k]? = some x) (hy : ys[k]? = some y)
    (hQ : ∀ h', IsZip h' z TI TO (rawInt s.heap.objs.size) → IsPair h' s.heap.objs.size x y → S1 (k + 1) h' → S2 (k + 1) h' → (∀ c o, c ≠ z → c ≠ TO → c ≠ i1 → c ≠ i2 → s.heap.get? c = some o → h'.get? c = some o) → Q (.ref s.heap.objs.size) { s with heap := h' }) :
    wpAny (model prog w) A (Builtin.«zip.__next__» ⟨[.ref z], []⟩) (fun fin s' => ∃ v, fin = .done (.ret v) ∧ Q v s') E s := by
  show wpAny _ _ (field (.ref z) 2 >>= _) _ _ _
  refine wpAny_bind (wpAny_field hz rfl (x := .bool false) rfl ?_)
  show wpAny _ _ (field (.ref z) 3 >>= _) _ _ _
  refine wpAny_bind (wpAny_field hz rfl (x := .ref TI) rfl ?_)
  refine wpAny_bind (wpAny_seqItems hTI rfl ?_)
  show wpAny _ _ (Builtin.SmallTypes.ownedTupleIsFree (.ref z) >>= _) _ _ _
  refine wpAny_bind ?_
  unfold Builtin.SmallTypes.ownedTupleIsFree
  refine wpAny_bind (wpAny_field hz rfl (x := .none) rfl (wpAny_pure ?_))
  simp only [if_true]
  refine wpAny_bind (wpAny_rule ?_)
  refine wpAny_bind (wpAny_field hz rfl (x := .ref TO) rfl ?_)
  refine wpAny_bind (wpAny_setField_rec hz (by simp) fun ha za ca => ?_)
  replace za : IsZip ha z TI TO .ellipsis := za
  refine wpAny_bind ?_
  simp only [List.zipIdx_cons, List.zipIdx_nil, List.forIn_cons, List.forIn_nil]
  refine wpAny_bind (wpAny_bind (wpAny_onRaise ?_))
  show wpAny _ _ (Builtin.SmallTypes.nextOf (.ref i1) >>= _) _ _ _
  have s1a : S1 k ha := N1.frame k _ _ h1 fun c hc o e => ca.extBut _ _ (by rcases hc with rfl | rfl; exact D.i1z; exact D.l1z) e
  refine wpAny_bind (N1.item k _ x _ _ s1a hx fun hb s1b cb => wpAny_pure ?_)
  have TOb : IsPair hb TO a b := cb.extBut _ _ D.TOi1 (ca.extBut _ _ D.TOz hTO)
  refine wpAny_bind (wpAny_seqItems TOb rfl ?_)
  refine wpAny_bind (wpAny_updateSeq_pair TOb fun hc TOc cc => ?_)
  replace TOc : IsPair hc TO x b := TOc
  refine wpAny_bind (wpAny_letGo (wpAny_pure ?_))
  refine wpAny_bind (wpAny_bind (wpAny_onRaise ?_))
  show wpAny _ _ (Builtin.SmallTypes.nextOf (.ref i2) >>= _) _ _ _
  have s2c : S2 k hc := N2.frame k _ _ h2 fun c hm o e => cc.extBut _ _ (by rcases hm with rfl | rfl; exact D.TOi2.symm; exact D.l2TO) (cb.extBut _ _ (by rcases hm with rfl | rfl; exact D.i12.symm; exact D.l2i1) (ca.extBut _ _ (by rcases hm with rfl | rfl; exact D.i2z; exact D.l2z) e))
  refine wpAny_bind (N2.item k _ y _ _ s2c hy fun hd s2d cd => wpAny_pure ?_)
  have TOd : IsPair hd TO x b := cd.extBut _ _ D.TOi2 TOc
  refine wpAny_bind (wpAny_seqItems TOd rfl ?_)
  refine wpAny_bind (wpAny_updateSeq_pair TOd fun he TOe ce => ?_)
  replace TOe : IsPair he TO x y := TOe
  refine wpAny_bind (wpAny_letGo (wpAny_pure (wpAny_pure ?_)))
  refine wpAny_bind (wpAny_seqItems TOe rfl ?_)
  refine wpAny_bind (wpAny_newTuple ?_)
  have hsz : he.objs.size = s.heap.objs.size := by rw [ce.1, cd.1, cc.1, cb.1, ca.1]
  have ze : IsZip he z TI TO .ellipsis := ce.extBut _ _ D.TOz.symm (cd.extBut _ _ D.i2z.symm (cc.extBut _ _ D.TOz.symm (cb.extBut _ _ D.i1z.symm za)))
  have hke : ∀ c o, c ≠ z → c ≠ TO → c ≠ i1 → c ≠ i2 → s.heap.get? c = some o → he.get? c = some o := fun c o c1 c2 c3 c4 e =>
    ce.extBut _ _ c2 (cd.extBut _ _ c4 (cc.extBut _ _ c2 (cb.extBut _ _ c3 (ca.extBut _ _ c1 e))))
  have s1e : S1 (k + 1) he := N1.frame _ _ _ s1b fun c hm o e => ce.extBut _ _ (by rcases hm with rfl | rfl; exact D.TOi1.symm; exact D.l1TO) (cd.extBut _ _ (by rcases hm with rfl | rfl; exact D.i12; exact D.l1i2) (cc.extBut _ _ (by rcases hm with rfl | rfl; exact D.TOi1.symm; exact D.l1TO) e))
  have s2e : S2 (k + 1) he := N2.frame _ _ _ s2d fun c hm o e => ce.extBut _ _ (by rcases hm with rfl | rfl; exact D.TOi2.symm; exact D.l2TO) e
  have zlt : z < he.objs.size := Heap.lt_size ze
  show wpAny _ _ (Builtin.SmallTypes.ownedTupleHandOut (.ref z) (.ref he.objs.size) >>= _) _ _ _
  refine wpAny_bind ?_
  unfold Builtin.SmallTypes.ownedTupleHandOut
  have zf : IsZip (he.push { cls := .type "tuple", data := .seq #[x, y] }) z TI TO .ellipsis := Heap.get?_push_of_some _ ze
  refine wpAny_bind (wpAny_setField_rec zf (by simp) fun hg zg cg => ?_)
  replace zg : IsZip hg z TI TO (rawInt he.objs.size) := zg
  refine wpAny_setField_rec zg (by simp) fun hh zh ch => ?_
  replace zh : IsZip hh z TI TO (rawInt he.objs.size) := zh
  have up : ∀ c o, c ≠ z → he.get? c = some o → hh.get? c = some o := fun c o c1 e => ch.extBut _ _ c1 (cg.extBut _ _ c1 (Heap.get?_push_of_some _ e))
  have pr : IsPair hh he.objs.size x y := ch.extBut _ _ (Nat.ne_of_gt zlt) (cg.extBut _ _ (Nat.ne_of_gt zlt) (Heap.get?_push_size _ rfl))
  rw [hsz] at zh pr
  refine wpAny_pure ⟨_, rfl, ?_⟩
  show Q (.ref he.objs.size) _
  rw [hsz]
  exact hQ hh zh pr (N1.frame _ _ _ s1e fun c hm o e => up _ o (by rcases hm with rfl | rfl; exact D.i1z; exact D.l1z) e) (N2.frame _ _ _ s2e fun c hm o e => up _ o (by rcases hm with rfl | rfl; exact D.i2z; exact D.l2z) e) fun c o c1 c2 c3 c4 e => up c o c1 (hke c o c1 c2 c3 c4 e)
theorem next_held {f : Bool} {oT : Obj} {Q : Value → Shared → Prop} (D : ZipApart z TI TO i1 i2 l1 l2) (N1 : Nx prog w A i1 l1 S1 xs) (N2 : Nx prog w A i2 l2 S2 ys)
    (hz : IsZipHeld s.heap z TI TO T f) (hT : s.heap.get? T = some oT) (hTI : IsPair s.heap TI (.ref i1) (.ref i2)) (h1 : S1 k s.heap) (h2 : S2 k s.heap) (hx : xs[k]? = some x) (hy : ys[k]? = some y)
    (hQ : ∀ h', IsZipHeld h' z TI TO T true → IsPair h' s.heap.objs.size x y → S1 (k + 1) h' → S2 (k + 1) h' → (∀ c o, c ≠ z → c ≠ i1 → c ≠ i2 → s.heap.get? c = some o → h'.get? c = some o) → Q (.ref s.heap.objs.size) { s with heap := h' }) :
    wpAny (model prog w) A (Builtin.«zip.__next__» ⟨[.ref z], []⟩) (fun fin s' => ∃ v, fin = .done (.ret v) ∧ Q v s') E s := by
  show wpAny _ _ (field (.ref z) 2 >>= _) _ _ _
  refine wpAny_bind (wpAny_field hz rfl (x := .bool false) rfl ?_)
  show wpAny _ _ (field (.ref z) 3 >>= _) _ _ _
  refine wpAny_bind (wpAny_field hz rfl (x := .ref TI) rfl ?_)
  refine wpAny_bind (wpAny_seqItems hTI rfl ?_)
  show wpAny _ _ (Builtin.SmallTypes.ownedTupleIsFree (.ref z) >>= _) _ _ _
  refine wpAny_bind (wpAny_tupleHeld_zip hz hT fun ha za ca => ?_)
  simp only [Bool.false_eq_true, if_false]
  refine wpAny_bind ?_
  rw [← Array.forIn_toList]
  simp only [List.forIn_cons, List.forIn_nil]
  refine wpAny_bind (wpAny_bind (wpAny_holding ?_))
  show wpAny _ _ (Builtin.SmallTypes.nextOf (.ref i1) >>= _) _ _ _
  have s1a : S1 k ha := N1.frame k _ _ h1 fun c hc o e => ca.extBut _ _ (by rcases hc with rfl | rfl; exact D.i1z; exact D.l1z) e
  refine wpAny_bind (N1.item k { s with heap := ha } x _ _ s1a hx fun hb s1b cb => wpAny_pure ?_)
  refine wpAny_pure ?_
  refine wpAny_bind (wpAny_bind (wpAny_holding ?_))
  show wpAny _ _ (Builtin.SmallTypes.nextOf (.ref i2) >>= _) _ _ _
  have s2b : S2 k hb := N2.frame k _ _ h2 fun c hm o e => cb.extBut _ _ (by rcases hm with rfl | rfl; exact D.i12.symm; exact D.l2i1) (ca.extBut _ _ (by rcases hm with rfl | rfl; exact D.i2z; exact D.l2z) e)
  refine wpAny_bind (N2.item k { s with heap := hb } y _ _ s2b hy fun hc s2c cc => wpAny_pure ?_)
  refine wpAny_pure (wpAny_pure ?_)
  show wpAny _ _ (newTuple [x, y] >>= _) _ _ _
  refine wpAny_bind (wpAny_newTuple ?_)
  have hsz : hc.objs.size = s.heap.objs.size := by rw [cc.1, cb.1, ca.1]
  have zc : IsZipHeld hc z TI TO T true := cc.extBut _ _ D.i2z.symm (cb.extBut _ _ D.i1z.symm za)
  have hk : ∀ c o, c ≠ z → c ≠ i1 → c ≠ i2 → s.heap.get? c = some o → hc.get? c = some o := fun c o c1 c2 c3 e => cc.extBut _ _ c3 (cb.extBut _ _ c2 (ca.extBut _ _ c1 e))
  have s1c : S1 (k + 1) hc := N1.frame _ _ _ s1b fun c hm o e => cc.extBut _ _ (by rcases hm with rfl | rfl; exact D.i12; exact D.l1i2) e
  refine wpAny_pure ⟨_, rfl, ?_⟩
  show Q (.ref hc.objs.size) _
  have hp : IsPair (hc.push { cls := .type "tuple", data := .seq #[x, y] }) hc.objs.size x y := Heap.get?_push_size _ rfl
  rw [hsz] at hp ⊢
  exact hQ _ (Heap.get?_push_of_some _ zc) hp (N1.frame _ _ _ s1c fun c _ o e => Heap.get?_push_of_some _ e) (N2.frame _ _ _ s2c fun c _ o e => Heap.get?_push_of_some _ e) fun c o c1 c2 c3 e => Heap.get?_push_of_some _ (hk c o c1 c2 c3 e)
theorem next_end {Q : Fin → Shared → Prop} (D : ZipApart z TI TO i1 i2 l1 l2) (N1 : Nx prog w A i1 l1 S1 xs) (N2 : Nx prog w A i2 l2 S2 ys)
    (hz : IsZip s.heap z TI TO .none) (hTI : IsPair s.heap TI (.ref i1) (.ref i2)) (hTO : IsPair s.heap TO a b) (h1 : S1 k s.heap) (h2 : S2 k s.heap) (hend : xs[k]? = none ∨ ys[k]? = none)
    (hE : ∀ h' e, (∀ c o, c ≠ z → c ≠ TO → c ≠ i1 → c ≠ i2 → s.heap.get? c = some o → h'.get? c = some o) → (∃ o, h'.get? e = some o ∧ o.cls = .type "StopIteration") → E (.ref e) { s with heap := h' }) :
    wpAny (model prog w) A (Builtin.«zip.__next__» ⟨[.ref z], []⟩) Q E s := by
  show wpAny _ _ (field (.ref z) 2 >>= _) _ _ _
  refine wpAny_bind (wpAny_field hz rfl (x := .bool false) rfl ?_)
  show wpAny _ _ (field (.ref z) 3 >>= _) _ _ _
  refine wpAny_bind (wpAny_field hz rfl (x := .ref TI) rfl ?_)
  refine wpAny_bind (wpAny_seqItems hTI rfl ?_)
  show wpAny _ _ (Builtin.SmallTypes.ownedTupleIsFree (.ref z) >>= _) _ _ _
  refine wpAny_bind ?_
  unfold Builtin.SmallTypes.ownedTupleIsFree
  refine wpAny_bind (wpAny_field hz rfl (x := .none) rfl (wpAny_pure ?_))
  simp only [if_true]
  refine wpAny_bind (wpAny_rule ?_)
  refine wpAny_bind (wpAny_field hz rfl (x := .ref TO) rfl ?_)
  refine wpAny_bind (wpAny_setField_rec hz (by simp) fun ha za ca => ?_)
  replace za : IsZip ha z TI TO .ellipsis := za
  refine wpAny_bind ?_
  simp only [List.zipIdx_cons, List.zipIdx_nil, List.forIn_cons, List.forIn_nil]
  refine wpAny_bind (wpAny_bind (wpAny_onRaise ?_))
  show wpAny _ _ (Builtin.SmallTypes.nextOf (.ref i1) >>= _) _ _ _
  have s1a : S1 k ha := N1.frame k _ _ h1 fun c hc o e => ca.extBut _ _ (by rcases hc with rfl | rfl; exact D.i1z; exact D.l1z) e
  cases hx : xs[k]? with
  | none =>
    refine wpAny_bind (N1.done k _ _ _ s1a hx fun hb e cb he => ?_)
    obtain ⟨oe, hoe, hce⟩ := he
    have zb : IsZip hb z TI TO .ellipsis := cb _ _ D.i1z.symm za
    have hez : e ≠ z := fun x => by subst x; rw [zb] at hoe; cases hoe; simp at hce
    refine wpAny_setField_rec zb (by simp) fun hc _ cc => hE hc e (fun c o c1 _ c3 _ x => cc.extBut _ _ c1 (cb _ _ c3 (ca.extBut _ _ c1 x))) ⟨oe, cc.extBut _ _ hez hoe, hce⟩
  | some x =>
    have hy : ys[k]? = none := by rcases hend with h | h; rw [hx] at h; cases h; exact h
    refine wpAny_bind (N1.item k _ x _ _ s1a hx fun hb s1b cb => wpAny_pure ?_)
    have TOb : IsPair hb TO a b := cb.extBut _ _ D.TOi1 (ca.extBut _ _ D.TOz hTO)
    refine wpAny_bind (wpAny_seqItems TOb rfl ?_)
    refine wpAny_bind (wpAny_updateSeq_pair TOb fun hc TOc cc => ?_)
    refine wpAny_bind (wpAny_letGo (wpAny_pure ?_))
    refine wpAny_bind (wpAny_bind (wpAny_onRaise ?_))
    show wpAny _ _ (Builtin.SmallTypes.nextOf (.ref i2) >>= _) _ _ _
    have s2c : S2 k hc := N2.frame k _ _ h2 fun c hm o e => cc.extBut _ _ (by rcases hm with rfl | rfl; exact D.TOi2.symm; exact D.l2TO) (cb.extBut _ _ (by rcases hm with rfl | rfl; exact D.i12.symm; exact D.l2i1) (ca.extBut _ _ (by rcases hm with rfl | rfl; exact D.i2z; exact D.l2z) e))
    refine wpAny_bind (N2.done k _ _ _ s2c hy fun hd e cd he => ?_)
    obtain ⟨oe, hoe, hce⟩ := he
    have zd : IsZip hd z TI TO .ellipsis := cd _ _ D.i2z.symm (cc.extBut _ _ D.TOz.symm (cb.extBut _ _ D.i1z.symm za))
    have hez : e ≠ z := fun x => by subst x; rw [zd] at hoe; cases hoe; simp at hce
    refine wpAny_setField_rec zd (by simp) fun hf _ cf => hE hf e (fun c o c1 c2 c3 c4 x => cf.extBut _ _ c1 (cd _ _ c4 (cc.extBut _ _ c2 (cb.extBut _ _ c3 (ca.extBut _ _ c1 x))))) ⟨oe, cf.extBut _ _ hez hoe, hce⟩
theorem held_end {f : Bool} {oT : Obj} {Q : Fin → Shared → Prop} (D : ZipApart z TI TO i1 i2 l1 l2) (N1 : Nx prog w A i1 l1 S1 xs) (N2 : Nx prog w A i2 l2 S2 ys)
    (hz : IsZipHeld s.heap z TI TO T f) (hT : s.heap.get? T = some oT) (hTI : IsPair s.heap TI (.ref i1) (.ref i2)) (h1 : S1 k s.heap) (h2 : S2 k s.heap) (hend : xs[k]? = none ∨ ys[k]? = none)
    (hE : ∀ h' e, (∀ c o, c ≠ z → c ≠ i1 → c ≠ i2 → s.heap.get? c = some o → h'.get? c = some o) → (∃ o, h'.get? e = some o ∧ o.cls = .type "StopIteration") → E (.ref e) { s with heap := h' }) :
    wpAny (model prog w) A (Builtin.«zip.__next__» ⟨[.ref z], []⟩) Q E s := by
  show wpAny _ _ (field (.ref z) 2 >>= _) _ _ _
  refine wpAny_bind (wpAny_field hz rfl (x := .bool false) rfl ?_)
  show wpAny _ _ (field (.ref z) 3 >>= _) _ _ _
  refine wpAny_bind (wpAny_field hz rfl (x := .ref TI) rfl ?_)
  refine wpAny_bind (wpAny_seqItems hTI rfl ?_)
  show wpAny _ _ (Builtin.SmallTypes.ownedTupleIsFree (.ref z) >>= _) _ _ _
  refine wpAny_bind (wpAny_tupleHeld_zip hz hT fun ha za ca => ?_)
  simp only [Bool.false_eq_true, if_false]
  refine wpAny_bind ?_
  rw [← Array.forIn_toList]
  simp only [List.forIn_cons, List.forIn_nil]
  refine wpAny_bind (wpAny_bind (wpAny_holding ?_))
  show wpAny _ _ (Builtin.SmallTypes.nextOf (.ref i1) >>= _) _ _ _
  have s1a : S1 k ha := N1.frame k _ _ h1 fun c hc o e => ca.extBut _ _ (by rcases hc with rfl | rfl; exact D.i1z; exact D.l1z) e
  cases hx : xs[k]? with
  | none =>
    refine wpAny_bind (N1.done k { s with heap := ha } _ _ s1a hx fun hb e cb he => ?_)
    exact hE hb e (fun c o c1 c2 _ x => cb _ _ c2 (ca.extBut _ _ c1 x)) he
  | some x =>
    have hy : ys[k]? = none := by rcases hend with h | h; rw [hx] at h; cases h; exact h
    refine wpAny_bind (N1.item k { s with heap := ha } x _ _ s1a hx fun hb s1b cb => wpAny_pure ?_)
    refine wpAny_pure ?_
    refine wpAny_bind (wpAny_bind (wpAny_holding ?_))
    show wpAny _ _ (Builtin.SmallTypes.nextOf (.ref i2) >>= _) _ _ _
    have s2b : S2 k hb := N2.frame k _ _ h2 fun c hm o e => cb.extBut _ _ (by rcases hm with rfl | rfl; exact D.i12.symm; exact D.l2i1) (ca.extBut _ _ (by rcases hm with rfl | rfl; exact D.i2z; exact D.l2z) e)
    refine wpAny_bind (N2.done k { s with heap := hb } _ _ s2b hy fun hc e cc he => ?_)
    exact hE hc e (fun c o c1 c2 c3 x => cc _ _ c3 (cb.extBut _ _ c2 (ca.extBut _ _ c1 x))) he
end
section
variable {prog : Program} {w : World} {A : Around} {E : Value → Shared → Prop} {s : Shared} {z TI TO T i1 i2 l1 l2 : Addr} {k : Nat} {xs ys : Array Value} {x y a b : Value} {S1 S2 : Nat → Heap → Prop}
theorem py_item {Q : Option Value → Shared → Prop} (D : ZipApart z TI TO i1 i2 l1 l2) (N1 : Nx prog w A.in1 i1 l1 S1 xs) (N2 : Nx prog w A.in1 i2 l2 S2 ys)
    (hz : IsZip s.heap z TI TO .none) (hTI : IsPair s.heap TI (.ref i1) (.ref i2)) (hTO : IsPair s.heap TO a b) (h1 : S1 k s.heap) (h2 : S2 k s.heap) (hx : xs[k]? = some x) (hy : ys[k]? = some y)
    (hQ : ∀ h', IsZip h' z TI TO (rawInt s.heap.objs.size) → IsPair h' s.heap.objs.size x y → S1 (k + 1) h' → S2 (k + 1) h' → (∀ c o, c ≠ z → c ≠ TO → c ≠ i1 → c ≠ i2 → s.heap.get? c = some o → h'.get? c = some o) → Q (some (.ref s.heap.objs.size)) { s with heap := h' }) :
    wpAny (model prog w) A (pyNext (.ref z)) Q E s := by
  have hT : s.TypeIs (.ref z) "zip" := ⟨_, hz, rfl⟩
  unfold pyNext
  exact wpAny_bind (wpAny_attempt (wpAny_callSpecial?_slot (name := Str.ofString "__next__") hT F.slot_zip_next
    (wpAny_call_entry F.slot_zip_next hT F.entry_zip_next (next_item D N1 N2 hz hTI hTO h1 h2 hx hy fun h' a1 a2 a3 a4 a5 => wpAny_pure (hQ h' a1 a2 a3 a4 a5)) (F.args_zip_next_1 _))))
theorem py_held {f : Bool} {oT : Obj} {Q : Option Value → Shared → Prop} (D : ZipApart z TI TO i1 i2 l1 l2) (N1 : Nx prog w A.in1 i1 l1 S1 xs) (N2 : Nx prog w A.in1 i2 l2 S2 ys)
    (hz : IsZipHeld s.heap z TI TO T f) (hT : s.heap.get? T = some oT) (hTI : IsPair s.heap TI (.ref i1) (.ref i2)) (h1 : S1 k s.heap) (h2 : S2 k s.heap) (hx : xs[k]? = some x) (hy : ys[k]? = some y)
    (hQ : ∀ h', IsZipHeld h' z TI TO T true → IsPair h' s.heap.objs.size x y → S1 (k + 1) h' → S2 (k + 1) h' → (∀ c o, c ≠ z → c ≠ i1 → c ≠ i2 → s.heap.get? c = some o → h'.get? c = some o) → Q (some (.ref s.heap.objs.size)) { s with heap := h' }) :
    wpAny (model prog w) A (pyNext (.ref z)) Q E s := by
  have hTy : s.TypeIs (.ref z) "zip" := ⟨_, hz, rfl⟩
  unfold pyNext
  exact wpAny_bind (wpAny_attempt (wpAny_callSpecial?_slot (name := Str.ofString "__next__") hTy F.slot_zip_next
    (wpAny_call_entry F.slot_zip_next hTy F.entry_zip_next (next_held D N1 N2 hz hT hTI h1 h2 hx hy fun h' a1 a2 a3 a4 a5 => wpAny_pure (hQ h' a1 a2 a3 a4 a5)) (F.args_zip_next_1 _))))
theorem py_end {Q : Option Value → Shared → Prop} (D : ZipApart z TI TO i1 i2 l1 l2) (N1 : Nx prog w A.in1 i1 l1 S1 xs) (N2 : Nx prog w A.in1 i2 l2 S2 ys)
    (hz : IsZip s.heap z TI TO .none) (hTI : IsPair s.heap TI (.ref i1) (.ref i2)) (hTO : IsPair s.heap TO a b) (h1 : S1 k s.heap) (h2 : S2 k s.heap) (hend : xs[k]? = none ∨ ys[k]? = none)
    (hQ : ∀ h', (∀ c o, c ≠ z → c ≠ TO → c ≠ i1 → c ≠ i2 → s.heap.get? c = some o → h'.get? c = some o) → Q none { s with heap := h' }) : wpAny (model prog w) A (pyNext (.ref z)) Q E s := by
  have hT : s.TypeIs (.ref z) "zip" := ⟨_, hz, rfl⟩
  unfold pyNext
  refine wpAny_bind (wpAny_attempt (wpAny_callSpecial?_slot (name := Str.ofString "__next__") hT F.slot_zip_next
    (wpAny_call_entry F.slot_zip_next hT F.entry_zip_next (next_end D N1 N2 hz hTI hTO h1 h2 hend fun h' e hk he => ?_) (F.args_zip_next_1 _))))
  obtain ⟨o, ho, hc⟩ := he
  refine wpAny_bind (wpAny_isInstance (T := "StopIteration") (b := true) ⟨o, ho, hc⟩ isSubtype_stop ?_)
  exact wpAny_pure (hQ _ hk)
theorem py_held_end {f : Bool} {oT : Obj} {Q : Option Value → Shared → Prop} (D : ZipApart z TI TO i1 i2 l1 l2) (N1 : Nx prog w A.in1 i1 l1 S1 xs) (N2 : Nx prog w A.in1 i2 l2 S2 ys)
    (hz : IsZipHeld s.heap z TI TO T f) (hT : s.heap.get? T = some oT) (hTI : IsPair s.heap TI (.ref i1) (.ref i2)) (h1 : S1 k s.heap) (h2 : S2 k s.heap) (hend : xs[k]? = none ∨ ys[k]? = none)
    (hQ : ∀ h', (∀ c o, c ≠ z → c ≠ i1 → c ≠ i2 → s.heap.get? c = some o → h'.get? c = some o) → Q none { s with heap := h' }) : wpAny (model prog w) A (pyNext (.ref z)) Q E s := by
  have hTy : s.TypeIs (.ref z) "zip" := ⟨_, hz, rfl⟩
  unfold pyNext
  refine wpAny_bind (wpAny_attempt (wpAny_callSpecial?_slot (name := Str.ofString "__next__") hTy F.slot_zip_next
    (wpAny_call_entry F.slot_zip_next hTy F.entry_zip_next (held_end D N1 N2 hz hT hTI h1 h2 hend fun h' e hk he => ?_) (F.args_zip_next_1 _))))
  obtain ⟨o, ho, hc⟩ := he
  refine wpAny_bind (wpAny_isInstance (T := "StopIteration") (b := true) ⟨o, ho, hc⟩ isSubtype_stop ?_)
  exact wpAny_pure (hQ _ hk)
end
section
variable {prog : Program} {w : World}
theorem pairs (z TI TO i1 i2 l1 l2 : Addr) (D : ZipApart z TI TO i1 i2 l1 l2) (xs ys : Array Value) (S1 S2 : Nat → Heap → Prop) (N1 : ∀ A : Around, A.handled = none → Nx prog w A i1 l1 S1 xs) (N2 : ∀ A : Around, A.handled = none → Nx prog w A i2 l2 S2 ys) :
    PairArg prog w "zip" z [z, TI, TO, i1, i2, l1, l2] [z, TO, i1, i2] (min xs.size ys.size) (fun i k v => xs[i]? = some k ∧ ys[i]? = some v)
      (fun h => IsZip h z TI TO .none ∧ IsPair h TI (.ref i1) (.ref i2) ∧ (∃ a b, IsPair h TO a b) ∧ S1 0 h ∧ S2 0 h) where
  type := fun s ok => ⟨_, ok.1, rfl⟩
  notDict := by decide
  keep := fun h h' ok hk => by
    obtain ⟨hz, hTI, ⟨a, b, hTO⟩, h1, h2⟩ := ok
    have n1 := N1 { handled := none } rfl
    have n2 := N2 { handled := none } rfl
    exact ⟨hk _ _ hz, hk _ _ hTI, ⟨a, b, hk _ _ hTO⟩, n1.frame _ _ _ h1 fun b _ o e => hk b o e, n2.frame _ _ _ h2 fun b _ o e => hk b o e⟩
  there := fun h ok b hb => by
    obtain ⟨hz, hTI, ⟨a, c, hTO⟩, h1, h2⟩ := ok
    obtain ⟨⟨o1, e1⟩, ⟨o3, e3⟩⟩ := (N1 { handled := none } rfl).there _ _ h1
    obtain ⟨⟨o2, e2⟩, ⟨o4, e4⟩⟩ := (N2 { handled := none } rfl).there _ _ h2
    simp only [List.mem_cons, List.not_mem_nil, or_false] at hb
    rcases hb with rfl | rfl | rfl | rfl | rfl | rfl | rfl
    all_goals first | exact ⟨_, hz⟩ | exact ⟨_, hTI⟩ | exact ⟨_, hTO⟩ | exact ⟨_, e1⟩ | exact ⟨_, e2⟩ | exact ⟨_, e3⟩ | exact ⟨_, e4⟩
  sub := fun b hb => by simp at hb ⊢; rcases hb with rfl | rfl | rfl | rfl <;> simp
  noKeys := fun A s Q E hA ok h => getAttrOr_miss_zip ok.1 rfl rfl rfl zip_no_keys (by decide +kernel) hA h
  iter := fun A s d Q E hA ok hd hdf h => by
    obtain ⟨hz, hTI, ⟨a, b, hTO⟩, h1, h2⟩ := ok
    simp only [List.mem_cons, List.not_mem_nil, or_false, not_or] at hdf
    obtain ⟨dz, dTI, dTO, di1, di2, dl1, dl2⟩ := hdf
    have n1 := N1 A.in1 hA
    have n2 := N2 A.in1 hA
    refine wpAny_pyIter_zip hz (h z [z, TO, i1, i2] (fun i h => IsPair h TI (.ref i1) (.ref i2) ∧ S1 i h ∧ S2 i h ∧
      ((IsZip h z TI TO .none ∧ ∃ a b, IsPair h TO a b) ∨ ∃ T f oT, IsZipHeld h z TI TO T f ∧ h.get? T = some oT ∧ T ≠ z ∧ T ≠ i1 ∧ T ≠ i2 ∧ T ≠ d)) s.heap s.toks ?_
      ⟨hTI, h1, h2, .inl ⟨hz, a, b, hTO⟩⟩ (fun _ _ e => e) fun b hb => .inl hb)
    have fr1 : ∀ {i h h'}, S1 i h → (∀ b o, b ≠ d → h.get? b = some o → h'.get? b = some o) → S1 i h' := fun st hk => n1.frame _ _ _ st fun b hb o e => hk b o (by rcases hb with rfl | rfl; exact Ne.symm di1; exact Ne.symm dl1) e
    have fr2 : ∀ {i h h'}, S2 i h → (∀ b o, b ≠ d → h.get? b = some o → h'.get? b = some o) → S2 i h' := fun st hk => n2.frame _ _ _ st fun b hb o e => hk b o (by rcases hb with rfl | rfl; exact Ne.symm di2; exact Ne.symm dl2) e
    exact {
      off := fun hm => by
        simp only [List.mem_cons, List.not_mem_nil, or_false] at hm
        rcases hm with e | e | e | e
        · exact dz e
        · exact dTO e
        · exact di1 e
        · exact di2 e
      frame := fun i h₁ h₂ st hk => by
        obtain ⟨hTI, h1, h2, hz⟩ := st
        refine ⟨hk _ _ (Ne.symm dTI) hTI, fr1 h1 hk, fr2 h2 hk, ?_⟩
        rcases hz with ⟨hz, a, b, hTO⟩ | ⟨T, f, oT, hz, hT, r1, r2, r3, r4⟩
        · exact .inl ⟨hk _ _ (Ne.symm dz) hz, a, b, hk _ _ (Ne.symm dTO) hTO⟩
        · exact .inr ⟨T, f, oT, hk _ _ (Ne.symm dz) hz, hk _ _ r4 hT, r1, r2, r3, r4⟩
      item := fun i s₁ Q₁ E₁ hi st hds hQ => by
        obtain ⟨hTI, h1, h2, hz⟩ := st
        have hix : i < xs.size := Nat.lt_of_lt_of_le hi (Nat.min_le_left ..)
        have hiy : i < ys.size := Nat.lt_of_lt_of_le hi (Nat.min_le_right ..)
        have ex := Array.getElem?_eq_getElem hix
        have ey := Array.getElem?_eq_getElem hiy
        obtain ⟨⟨o1, q1⟩, _⟩ := n1.there _ _ h1
        obtain ⟨⟨o2, q2⟩, _⟩ := n2.there _ _ h2
        rcases hz with ⟨hz, a, b, hTO⟩ | ⟨T, f, oT, hz, hT, r1, r2, r3, r4⟩
        · refine py_item D n1 n2 hz hTI hTO h1 h2 ex ey fun h' a1 a2 a3 a4 hk => ?_
          exact hQ s₁.heap.objs.size _ _ h' s₁.toks ⟨ex, ey⟩ (.inl ⟨_, a2, rfl, _, rfl⟩)
            ⟨hk _ _ D.TIz D.TITO D.TIi1 D.TIi2 hTI, a3, a4, .inr ⟨s₁.heap.objs.size, false, _, a1, a2, Nat.ne_of_gt (Heap.lt_size hz), Nat.ne_of_gt (Heap.lt_size q1), Nat.ne_of_gt (Heap.lt_size q2), Nat.ne_of_gt hds⟩⟩
            fun c o hc e => hk c o (fun x => hc (by simp [x])) (fun x => hc (by simp [x])) (fun x => hc (by simp [x])) (fun x => hc (by simp [x])) e
        · refine py_held D n1 n2 hz hT hTI h1 h2 ex ey fun h' a1 a2 a3 a4 hk => ?_
          exact hQ s₁.heap.objs.size _ _ h' s₁.toks ⟨ex, ey⟩ (.inl ⟨_, a2, rfl, _, rfl⟩)
            ⟨hk _ _ D.TIz D.TIi1 D.TIi2 hTI, a3, a4, .inr ⟨T, true, oT, a1, hk _ _ r1 r2 r3 hT, r1, r2, r3, r4⟩⟩
            fun c o hc e => hk c o (fun x => hc (by simp [x])) (fun x => hc (by simp [x])) (fun x => hc (by simp [x])) e
      done := fun s₁ Q₁ E₁ st hQ => by
        obtain ⟨hTI, h1, h2, hz⟩ := st
        have hend : xs[min xs.size ys.size]? = none ∨ ys[min xs.size ys.size]? = none := by
          rcases Nat.le_total xs.size ys.size with h | h
          · exact .inl (Array.getElem?_eq_none (by rw [Nat.min_eq_left h]; exact Nat.le_refl _))
          · exact .inr (Array.getElem?_eq_none (by rw [Nat.min_eq_right h]; exact Nat.le_refl _))
        rcases hz with ⟨hz, a, b, hTO⟩ | ⟨T, f, oT, hz, hT, r1, r2, r3, r4⟩
        · exact py_end D n1 n2 hz hTI hTO h1 h2 hend fun h' hk => hQ h' s₁.toks fun c o hc e => hk c o (fun x => hc (by simp [x])) (fun x => hc (by simp [x])) (fun x => hc (by simp [x])) (fun x => hc (by simp [x])) e
        · exact py_held_end D n1 n2 hz hT hTI h1 h2 hend fun h' hk => hQ h' s₁.toks fun c o hc e => hk c o (fun x => hc (by simp [x])) (fun x => hc (by simp [x])) (fun x => hc (by simp [x])) e }
end
end ZG

namespace SPV
open PySem PySem.Spec PyProof.Rows L2 SeqAt SP
/-! ### dict(zip(a list, a tuple)) -/
section
variable {X : Cx} {e e2 : Expr} {ta : TA} {p zp zpos pos : Pos}
def tDZip (X : Cx) (ta : TA) : TE := fun σ H Q => ta σ H fun vs H1 => ∃ (l1 l2 : Addr) (ks : List Key) (ys : List V), vs = [.ref l1, .ref l2] ∧ SqL X.K H1 l1 (ks.map kV) ∧ SqT X.K H1 l2 ys ∧ ∀ q, H1 q = none → Q (.ref q) (L2.upd H1 q (.dK (mergeK [] (ks.zip ys))))
end
end SPV
namespace SP
open PySem PySem.Spec PyProof.Rows L2 SeqAt
section
variable {L : Lx} {X : Cx} {e e2 : Expr} {fa : Sa} {p zp zpos pos : Pos}
/-- keys all -/
def keysT : List T → Bool
  | [] => true
  | t :: ts => (keyT t).isSome && keysT ts
def nDZip (fa : Sa) : Sm := fun ρ q => (fa ρ q).bind fun ts q1 => match ts with
  | [t, .tup ws] => match lstAt q1 t with
    | some us => if keysT us = true then .ok (.dct (mergeT (us.zip ws))) q1 else .stuck
    | none => .stuck
  | _ => .stuck
end
/-! #### applied -/
section
variable {κ ν α β : Type} [DecidableEq κ] {ek : κ → T} {ev : ν → T} {fa : Sa} {ρ : TEnv} {q q1 : Store} {t : T}
end
end SP

namespace SP
open PySem PySem.Spec PyProof.Rows L2 SeqAt
/-! ### == and != of dicts -/
def dEq (ks ls : List (T × T)) : Bool := (ks.length == ls.length) && ks.all fun p => match dval ls p.1 with
  | some v => eqT p.2 v
  | none => false
open Classical in
noncomputable def oEqD : Op2 := fun t u q => match dctAt q t, dctAt q u with
  | some ks, some ls => if (∀ p ∈ ks, Dt 40 p.2) ∧ (∀ p ∈ ls, Dt 40 p.2) then .ok (.bl (dEq ks ls)) q else .stuck
  | none, none => oEq t u q
  | _, _ => .stuck
open Classical in
noncomputable def oNeD : Op2 := fun t u q => match dctAt q t, dctAt q u with
  | some ks, some ls => if (∀ p ∈ ks, Dt 40 p.2) ∧ (∀ p ∈ ls, Dt 40 p.2) then .ok (.bl (!dEq ks ls)) q else .stuck
  | none, none => oNe t u q
  | _, _ => .stuck
section
variable {L : Lx} {X : Cx}
end
/-! the ready rules -/
section
variable {κ ν : Type} [DecidableEq κ] {ek : κ → T} {ev : ν → T} {q q1 q2 : Store} {t u : T}
end
end SP

namespace SPV
open PySem PySem.Spec PyProof.Rows L2 SeqAt SP
/-! ### sum(d.values()), min(d.values()), max(d.values()), ints -/
section
variable {X : Cx}
def rVInt (g : List Int → Option Int) : List (Key × V) → Hp → VK → Prop := fun kvs H Q => ∃ (ns : List Int) (m : Int), kvs.map (·.2) = ns.map V.int ∧ g ns = some m ∧ Q (.int m) H
end
end SPV
namespace SP
open PySem PySem.Spec PyProof.Rows L2 SeqAt
section
variable {L : Lx} {X : Cx} {o : Expr} {fo : Sm} {p pos apos cpos : Pos}
def sVInt (g : List Int → Option Int) (fo : Sm) : Sm := fun ρ q => (fo ρ q).bind fun t q1 => match dctAt q1 t with
  | some kvs => match intsT (kvs.map (·.2)) with
    | some ns => match g ns with
      | some m => .ok (.int m) q1
      | none => .stuck
    | none => .stuck
  | none => .stuck
abbrev gSumV : List Int → Option Int := fun ns => some ns.sum
abbrev gMinV : List Int → Option Int := fun ns => if ns = [] then none else some (minI ns)
abbrev gMaxV : List Int → Option Int := fun ns => if ns = [] then none else some (maxI ns)
end
section
variable {κ : Type} {kvs : List κ} {G : κ → T} {h : κ → Int} {q q1 : Store} {ρ : TEnv} {fo : Sm} {t : T}
end
end SP

namespace SPV
open PySem PySem.Spec PyProof.Rows L2 SeqAt SP
/-! ### tuple(d.items()), sorted(d.items()) -/
section
variable {X : Cx}
end
section
variable {prog : Program} {w : World} {A : Around} {E : Value → Shared → Prop} {s : Shared} {K : Type} [DecidableEq K] {knd : KeyKind prog w K} {r d : Addr} {kvs : List (K × Value)} {ep : Nat}
end
section
variable {X : Cx} {e : Expr} {te : TE} {p apos cpos pos : Pos} {r : List (Key × V) → Hp → VK → Prop} {x : Str}
end
end SPV

namespace SPE
open PySem PySem.W PySem.Calls PyProof.Rows
/-! ### sorted(d.items()) -/
section
variable {prog : Program} {w : World} {A : Around} {E : Value → Shared → Prop} {s : Shared} {K : Type} [DecidableEq K] {knd : KeyKind prog w K} {r d : Addr} {kvs : List (K × Value)} {ep : Nat}
end
end SPE
namespace SP
open PySem PySem.Spec PyProof.Rows L2 SeqAt
section
variable {L : Lx} {X : Cx} {o : Expr} {fo : Sm} {p pos apos cpos : Pos}
def rItemT : List (Key × V) → Hp → VK → Prop := fun kvs H Q => ∀ (H' : Hp) (as : List Addr) (a : Addr) (o : Obj), New H H' → (∀ t ∈ as, H t = none) → Paired (fun (t : Addr) (q : Key × V) => ∃ o, H' t = some (.frz o (.tup [kV q.1, q.2])) ∧ o.dict = none) as kvs → o.dict = none → H' a = none → Q (.ref a) (L2.upd H' a (.frz o (.tup (as.map V.ref))))
def sTItems (fo : Sm) : Sm := fun ρ q => (fo ρ q).bind fun t q1 => match dctAt q1 t with
  | some kvs => .ok (.tup (kvs.map fun p => .tup [p.1, p.2])) q1
  | none => .stuck
def prT (p : T × T) : T := .tup [p.1, p.2]
def rItemS (X : Cx) (L : Lx) (W : WX) : List (Key × V) → Hp → VK → Prop := fun kvs H Q => ∃ σ ν q ts, SimQ X.K L ν q H ∧ RepK X.K L ν H ts kvs ∧ DatOk (ts.map prT) ∧ PostN X.K L W σ ν H (.ok (.lst (sortT (ts.map prT))) q) Q
open Classical in
noncomputable def nSItems (fo : Sm) : Sm := fun ρ q => (fo ρ q).bind fun t q1 => match dctAt q1 t with
  | some kvs => if DatOk (kvs.map prT) then .ok (.lst (sortT (kvs.map prT))) q1 else .stuck
  | none => .stuck
end
section
variable {α : Type} {xs : List α} {G H : α → T} {q q1 : Store} {ρ : TEnv} {fo : Sm} {t : T}
end
end SP

namespace RT
open PySem PySem.Calls PyProof.Rows L2
/-! ### list(reversed(xs)), xs a list -/
section
variable {prog : Program} {w : World} {A : Around} {E : Value → Shared → Prop} {s : Shared}
end
end RT
namespace SPV
open PySem PySem.Spec PyProof.Rows L2 SeqAt RT
def tLstRev (K : PySem.W.Frag) (te : TE) : TE := fun σ H Q => te σ H fun v H1 => ∃ (a : Addr) (xs : List V), v = .ref a ∧ SqL K H1 a xs ∧ ∀ q, H1 q = none → Q (.ref q) (L2.upd H1 q (.lst xs.reverse))
section
variable {X : Cx}
end
end SPV
namespace SP
open PySem PySem.Spec PyProof.Rows L2 SeqAt
section
variable {L : Lx} {X : Cx} {e : Expr} {fe : Sm} {p p2 pos pos2 : Pos}
def nLRev (fe : Sm) : Sm := fun ρ q => (fe ρ q).bind fun t q1 => match lstAt q1 t with
  | some ts => .ok (.lst ts.reverse) q1
  | none => .stuck
end
end SP

namespace RT
open PySem PySem.Calls PyProof.Rows L2
/-! ### enumerate(reversed(t)), t a tuple -/
section
variable {prog : Program} {w : World} {A : Around} {E : Value → Shared → Prop} {s : Shared}
end
end RT

namespace SP
open PySem PySem.Spec PyProof.Rows L2 SeqAt RT
/-- the tuple at a from its end, each item in a new pair with its turn -/
def ItER (K : PySem.W.Frag) (a : Addr) (n : Nat) : It where
  go := fun i H => i < n ∧ ∃ (l : List V) (y : V), SqT K H a l ∧ l.length = n ∧ l[n - 1 - i]? = some y
  yld := fun i H v G => ∃ p o y, v = .ref p ∧ o.dict = none ∧ H p = none ∧ G = L2.upd H p (.frz o (.tup [.int (i : Nat), y])) ∧ ∀ l, SqT K H a l → l[n - 1 - i]? = some y
  stop := fun i H => n ≤ i
def tiER (K : PySem.W.Frag) (te : TE) : TI := fun σ H R => te σ H fun v H1 => ∃ a xs, v = .ref a ∧ SqT K H1 a xs ∧ R (ItER K a xs.length) H1
def iEnumRev (f : Sm) : Si := fun ρ q => (f ρ q).bind fun t q' => match t with
  | .tup a => .ok (a.reverse.zipIdx.map fun p => .tup [.int (p.2 : Nat), p.1]) q'
  | _ => .stuck
section
variable {L : Lx} {X : Cx} {e : Expr} {fe : Sm} {p p2 pos pos2 tpos : Pos} {elts : List Expr} {kk : Nat}
end
end SP

namespace SP
open PySem PySem.Spec PyProof.Rows L2 SeqAt
/-! ### t1 = t2 = e -/
def xAsg2 (g1 g2 : Tg) (f : Sm) : Ss := fun ρ q => (f ρ q).to ρ fun t q' => match g1 t ρ q' with
  | some (ρ1, q1) => match g2 t ρ1 q1 with
    | some (ρ2, q2) => .nx ρ2 q2
    | none => .stuck
  | none => .stuck
section
variable {L : Lx} {X : Cx} {e t1 t2 : Expr} {f : Sm} {g1 g2 : Tg} {pos : Pos}
end
section
variable {f : Sm} {g1 g2 : Tg} {s : Ss} {ρ ρ1 ρ2 : TEnv} {q q1 q2 q3 : Store} {t : T} {r : RS} {Q : RS → Prop}
end
end SP

namespace SP
open PySem PySem.Spec PyProof.Rows L2 SeqAt
/-! ### xs == [], xs != [], whatever xs holds -/
def oEqN : Op2 := fun t u q => match deref q t, u with
  | .lst ts, .lst [] => .ok (.bl ts.isEmpty) q
  | _, _ => .stuck
def oNeN : Op2 := fun t u q => match deref q t, u with
  | .lst ts, .lst [] => .ok (.bl (!ts.isEmpty)) q
  | _, _ => .stuck
theorem nx_oEqN : ∀ t u q c fs q', oEqN t u q ≠ .exc c fs q' := by
  intro t u q c fs q' h
  unfold oEqN at h
  split at h <;> cases h
section
variable {L : Lx} {X : Cx}
theorem rc_nil {pins : List (Addr × Obj)} {σ : L2.St} {H : Hp} {s : Shared} {ν : Nu} {A : Around} (hu : A.units < cLine) (I : Inv X pins σ H s) {ts : List T} {x y : V} {v w : Value} (rt : Vw X.K L ν H (.lst ts) x) (ru : Rep X.K L ν H (.lst []) y) (rv : RelV x v) (rw' : RelV y w) :
    RcAt A s v w ts.isEmpty ∧ RcNeAt A s v w (!ts.isEmpty) := by
  obtain ⟨a, xs, rfl, q1, r1⟩ := vw_lst rt
  obtain ⟨b, ys, rfl, q2, r2⟩ := lst_addr ru
  cases rv
  cases rw'
  obtain ⟨its, v1, p1, _⟩ := I.list (.inl (.inl q1))
  obtain ⟨jts, v2, p2, _⟩ := I.list (.inl (.inl q2))
  have l1 : ts.length = its.length := by rw [r1.length, v1.length]
  have l2 : jts.length = 0 := by rw [← v2.length, ← r2.length]; rfl
  cases ts with
  | nil =>
    have hz' : its.toArray.size = jts.toArray.size := by rw [List.size_toArray, List.size_toArray, l2, ← l1]; rfl
    have hz0 : its.toArray.size = 0 := by rw [List.size_toArray, ← l1]; rfl
    have he : ∀ j (g1 : j < its.toArray.size) (g2 : j < jts.toArray.size), EqAt A.in1 s its.toArray[j] jts.toArray[j] true := fun j g1 => by omega
    have r1 := RcAt.lists (e := fun _ => true) p1.isList p2.isList hz' hu he
    have r2 := RcNeAt.lists (e := fun _ => true) p1.isList p2.isList hz' hu he
    rw [hz0] at r1 r2
    exact ⟨r1, r2⟩
  | cons t r =>
    have hz' : (its.toArray.size != jts.toArray.size) = true := by
      rw [List.size_toArray, List.size_toArray, l2, ← l1]
      simp
    exact ⟨.lists_lengths p1.isList p2.isList hz' hu, .lists_lengths p1.isList p2.isList hz' hu⟩
theorem vw_lstD {K : PySem.W.Frag} {ν : Nu} {q : Store} {H : Hp} (sim : SimQ K L ν q H) {t : T} {v : V} (r : Rep K L ν H t v) {ts : List T} (h : deref q t = .lst ts) : Vw K L ν H (.lst ts) v := by
  cases t with
  | obj n =>
    unfold deref at h
    simp only at h
    cases e : cell q n with
    | none => rw [e] at h; cases h
    | some u =>
      rw [e] at h
      have h : u = .lst ts := h
      subst h
      obtain ⟨a, o, rfl, _, h2, h3⟩ := sim.at_ r e
      cases h3 with
      | lst r => exact .lst h2 r
  | lst us => cases h; exact .of r
  | _ => cases h
theorem os_eqN (hu : X.A.units + 64 < cLine) : OpS L X (compareOp .Eq) oEqN := by
  rintro pins s σ H x y v u Q I rx ry ⟨ν, q, t, w, sim, rt, rw', p⟩
  unfold oEqN at p
  split at p
  · rename_i t' q2 hq
    split at hq
    · rename_i ts hts
      cases hq
      have h := (rc_nil (A := X.A) (by omega) I (vw_lstD sim rt hts) rw' rx ry).1
      exact h X.prog X.w X.xe _ ⟨.bl _, H, I, rfl, p ν H _ (Fut.refl _ _) sim (.bl _)⟩
    · cases hq
  · exact p.elim
theorem st_eqN {a b : Expr} {f g : Sm} {pos : Pos} (hu : X.A.units + 64 < cLine) (ha : SE L X a f) (hb : SE L X b g) : ST L X (.Compare a [.Eq] [b] pos) (tBl (sOp oEqN f g)) := st_cmp (os_eqN hu) nx_oEqN ha hb (nomark _)
end
end SP

namespace SP
open PySem PySem.Spec PyProof.Rows L2 SeqAt
/-! ### xs.index(x), items of any data -/
open Classical in
noncomputable def mIndexA : FS := fun ts q => match ts with
  | [t, u] => match lstAt q t with
    | some us => if Dt 50 u ∧ ∀ w ∈ us, Dt 50 w then match us.findIdx? fun w => eqT w u with
        | some j => .ok (.int (j : Nat)) q
        | none => .stuck
      else .stuck
    | none => .stuck
  | _ => .stuck
section
variable {L : Lx} {X : Cx}
end
section
variable {L : Lx} {X : Cx} {o e : Expr} {fo : Sm} {fa : Sa} {apos cpos : Pos}
end
end SP

namespace SP
open PySem PySem.Spec PyProof.Rows L2 SeqAt
/-! ### a new list of lists and instances, all dicts told -/
def refT : T → Bool
  | .tup _ => true
  | .lst _ => true
  | .ins _ _ => true
  | _ => false
def hdR : List T → Bool
  | [] => false
  | t :: _ => refT t
mutual
def lkB : T → Bool
  | .non => true
  | .bl _ => true
  | .int _ => true
  | .str _ => true
  | .tup ts => lksB ts
  | .lst ts => hdR ts && lksB ts
  | .ins _ fs => lkfB fs
  | _ => false
def lksB : List T → Bool
  | [] => true
  | t :: ts => lkB t && lksB ts
def lkfB : List (Str × T) → Bool
  | [] => true
  | (_, t) :: fs => lkB t && lkfB fs
end
/-- a cell that no such thing can be -/
def celB : Option T → Bool
  | none => true
  | some (.lst []) => true
  | some (.lst (c :: _)) => flT c
  | some (.dct _) => true
  | some (.dcu _) => true
  | _ => false
def sLkN (f : Sm) : Sm := fun ρ q => match f (cloE ρ q) [] with
  | .ok (.lst ts) _ => if lksB ts = true ∧ q.all celB = true then .ok (.lst ts) q else .stuck
  | _ => .stuck
section
variable {K : PySem.W.Frag} {L : Lx} {X : Cx} {ν ν' : Nu} {q q' : Store} {H H' : Hp} {od : Addr → Obj}
theorem lk_ds (s : SimQ K L ν q H) (f : Fut (ν.cut 0) (Hlk H (dsOf ν H) od) ν' H') {a : Addr} {o : HO} (h1 : H' a = some o) (hn : ∀ o' kvs, o = .frz o' (.dK kvs) → False) : a ∉ dsOf ν H := fun m => by
  obtain ⟨kvs, ek⟩ := isD_some (mem_ds.mp m).2
  have := f.keep a (.frz (od a) (.dK kvs)) (by unfold Hlk; rw [if_pos m, ek]; rfl) (fz0 (ds_hid s m)) nofun nofun
  rw [h1] at this
  cases this
  exact hn _ _ rfl
theorem lk_cell (s : SimQ K L ν q H) (f : Fut (ν.cut 0) (Hlk H (dsOf ν H) od) ν' H') (hq : q.all celB = true) {a : Addr} {o : HO} (hm : a ∉ dsOf ν H) (h1 : H' a = some o) (m : (true, a) ∈ ν.l) : ∃ c, celB (some c) = true ∧ CellRep K L ν H c o := by
  obtain ⟨i, hi, e⟩ := List.getElem_of_mem m
  have e1 : ν.l[i]? = some (true, a) := by rw [List.getElem?_eq_getElem hi, e]
  obtain ⟨c, hc⟩ := s.dead i a e1
  obtain ⟨b, u, g1, g2, g3⟩ := s.cells i c hc
  rw [e1] at g1
  cases g1
  have := cell_ul s f m g2 g3
  rw [ul_off hm, h1] at this
  cases this
  exact ⟨c, List.all_eq_true.mp hq _ (List.mem_of_getElem? hc), g3⟩
theorem hid_in (f : Fut (ν.cut 0) (Hlk H (dsOf ν H) od) ν' H') {a p : Addr} (n : Fz (ν'.hide p) a) (h : (true, a) ∉ ν.l) : Fz (ν.hide p) a :=
  ⟨h, fun m => n.2 ((List.mem_cons.mp m).elim (fun z => by rw [z]; exact List.mem_cons_self ..) fun z => List.mem_cons_of_mem _ (by rw [f.hid]; exact z))⟩
theorem rep_ref {ν : Nu} {H : Hp} : ∀ {t : T} {v : V}, Rep K L ν H t v → refT t = true → ∃ a, v = .ref a
  | .tup _, _, r, _ => by cases r <;> exact ⟨_, rfl⟩
  | .lst _, _, r, _ => by cases r; exact ⟨_, rfl⟩
  | .ins _ _, _, r, _ => by cases r; exact ⟨_, rfl⟩
  | .non, _, _, h => by cases h
  | .bl _, _, _, h => by cases h
  | .int _, _, _, h => by cases h
  | .str _, _, _, h => by cases h
  | .dct _, _, _, h => by cases h
  | .dcu _, _, _, h => by cases h
  | .obj _, _, _, h => by cases h
  | .fz _, _, _, h => by cases h
theorem rep_flat {ν : Nu} {H : Hp} {a : Addr} : ∀ {t : T}, Rep K L ν H t (.ref a) → flT t = true → False
  | .int _, r, _ => by cases r
  | .str _, r, _ => by cases r
  | .tup _, _, h => by cases h
  | .lst _, _, h => by cases h
  | .ins _ _, _, h => by cases h
  | .non, _, h => by cases h
  | .bl _, _, h => by cases h
  | .dct _, _, h => by cases h
  | .dcu _, _, h => by cases h
  | .obj _, _, h => by cases h
  | .fz _, _, h => by cases h
theorem not_cell (s : SimQ K L ν q H) (f : Fut (ν.cut 0) (Hlk H (dsOf ν H) od) ν' H') (hq : q.all celB = true) {a : Addr} {xs : List V} {ν1 : Nu} {ts : List T} (hm : a ∉ dsOf ν H) (h1 : H' a = some (.lst xs)) (m : (true, a) ∈ ν.l) (rs : Reps K L ν1 H' ts xs) (hr : hdR ts = true) : False := by
  obtain ⟨c, hc, g3⟩ := lk_cell s f hq hm h1 m
  cases g3 with
  | lst r2 =>
    rename_i cs
    cases cs with
    | nil =>
      cases r2
      cases rs
      cases hr
    | cons c0 cs =>
      have hc : flT c0 = true := hc
      cases xs with
      | nil => cases r2
      | cons x xs =>
        cases r2 with
        | cons rc _ =>
          cases ts with
          | nil => cases rs
          | cons t0 ts =>
            cases rs with
            | cons ru _ =>
              obtain ⟨b, e⟩ := rep_ref ru hr
              subst e
              exact rep_flat rc hc
mutual
theorem rep_ulK (s : SimQ K L ν q H) (f : Fut (ν.cut 0) (Hlk H (dsOf ν H) od) ν' H') (hq : q.all celB = true) {p : Addr} : ∀ {t : T} {v : V}, Rep K L (ν'.hide p) H' t v → lkB t = true → Rep K L (ν.hide p) (Hul H' H (dsOf ν H)) t v
  | .non, _, r, _ => by cases r; exact .non
  | .bl _, _, r, _ => by cases r; exact .bl _
  | .int _, _, r, _ => by cases r; exact .int _
  | .str _, _, r, _ => by cases r; exact .str _
  | .tup ts, _, r, h => by
    have h : lksB ts = true := by unfold lkB at h; exact h
    cases r with
    | @tup a o xs _ n h1 d rs =>
      have hm : a ∉ dsOf ν H := lk_ds s f h1 (fun o' kvs z => by injection z with _ z; cases z)
      refine .tup (hid_in f n fun m => ?_) (by rw [ul_off hm]; exact h1) d (reps_ulK s f hq rs h)
      obtain ⟨c, _, g3⟩ := lk_cell s f hq hm h1 m
      cases g3
    | tupK h1 rs => exact .tupK h1 (reps_ulK s f hq rs h)
  | .lst ts, _, r, h => by
    have h : hdR ts = true ∧ lksB ts = true := by unfold lkB at h; rw [Bool.and_eq_true] at h; exact h
    cases r with
    | @lst a xs _ n h1 rs =>
      have hm : a ∉ dsOf ν H := lk_ds s f h1 (fun o' kvs z => by cases z)
      exact .lst (hid_in f n fun m => not_cell s f hq hm h1 m rs h.1) (by rw [ul_off hm]; exact h1) (reps_ulK s f hq rs h.2)
  | .ins _ fs, _, r, h => by
    have h : lkfB fs = true := by unfold lkB at h; exact h
    cases r with
    | @ins a C dx vs c _ n h1 hc rs =>
      have hm : a ∉ dsOf ν H := lk_ds s f h1 (fun o' kvs z => by cases z)
      refine .ins (hid_in f n fun m => ?_) (by rw [ul_off hm]; exact h1) hc (repf_ulK s f hq rs h)
      obtain ⟨c, hc, g3⟩ := lk_cell s f hq hm h1 m
      cases g3
      cases hc
  | .dct _, _, _, h => by cases h
  | .dcu _, _, _, h => by cases h
  | .obj _, _, _, h => by cases h
  | .fz _, _, _, h => by cases h
theorem reps_ulK (s : SimQ K L ν q H) (f : Fut (ν.cut 0) (Hlk H (dsOf ν H) od) ν' H') (hq : q.all celB = true) {p : Addr} : ∀ {t : List T} {v : List V}, Reps K L (ν'.hide p) H' t v → lksB t = true → Reps K L (ν.hide p) (Hul H' H (dsOf ν H)) t v
  | [], _, .nil, _ => .nil
  | t :: ts, _, .cons r rs, h => by
    unfold lksB at h
    rw [Bool.and_eq_true] at h
    exact .cons (rep_ulK s f hq r h.1) (reps_ulK s f hq rs h.2)
theorem repf_ulK (s : SimQ K L ν q H) (f : Fut (ν.cut 0) (Hlk H (dsOf ν H) od) ν' H') (hq : q.all celB = true) {p : Addr} : ∀ {t : List (Str × T)} {v : List (Str × V)}, RepF K L (ν'.hide p) H' t v → lkfB t = true → RepF K L (ν.hide p) (Hul H' H (dsOf ν H)) t v
  | [], _, .nil, _ => .nil
  | (x, t) :: ts, _, .cons r rs, h => by
    unfold lkfB at h
    rw [Bool.and_eq_true] at h
    exact .cons (rep_ulK s f hq r h.1) (repf_ulK s f hq rs h.2)
end
theorem SN.lk {e : Expr} {f : Sm} (h : SN L X e f) : SN L X e (sLkN f) := by
  refine ⟨fun W tk => PE.imp (pe_locks (h.pe _ takes0)) fun σ H Q ⟨ν, ρ, q, s, en, p⟩ => ?_⟩
  refine ⟨dsOf ν H, fun d m => ?_, fun od => ?_⟩
  · obtain ⟨kvs, ek⟩ := isD_some (mem_ds.mp m).2
    exact ⟨_, ek, trivial⟩
  unfold sLkN at p
  refine ⟨ν.cut 0, cloE ρ q, [], sim0 s, en0 s en, ?_⟩
  split at p
  case h_2 => exact p.elim
  rename_i ts q' hf
  split at p
  case isFalse => exact p.elim
  rename_i hfl
  rw [hf]
  intro ν' H' b o f' s' h0 hb r'
  have hb0 : H b = none := (Tr.lk ν H ν od).none b h0
  have hbd : b ∉ dsOf ν H := fun m => by
    obtain ⟨kvs, ek⟩ := isD_some (mem_ds.mp m).2
    rw [hb0] at ek; cases ek
  have hb' : Hul H' H (dsOf ν H) b = some o := by rw [ul_off hbd]; exact hb
  refine ⟨fun d m => ?_, p ν (Hul H' H (dsOf ν H)) b o (fut_ul s f') (sim_hid s f' s'.unhide hb0 hb') hb0 hb' ?_⟩
  · obtain ⟨kvs, ek⟩ := isD_some (mem_ds.mp m).2
    have e : Hlk H (dsOf ν H) od d = some (.frz (od d) (.dK kvs)) := by unfold Hlk; rw [if_pos m, ek]; rfl
    rw [e]
    exact f'.keep d _ e (fz0 (ds_hid s m)) nofun nofun
  · cases r' with
    | lst rs => exact .lst (reps_ulK s f' hfl.2 rs hfl.1)
end
section
variable {f : Sm} {ρ ρ' : TEnv} {q q' : Store} {ts : List T}
end
end SP

namespace SP
open PySem PySem.Spec PyProof.Rows L2 SeqAt
/-! ### list + list as a new mutable thing -/
def nCat (f g : Sm) : Sm := fun ρ q => (f ρ q).bind fun t q1 => (g ρ q1).bind fun u q2 => match lstAt q2 t, lstAt q2 u with
  | some xs, some ys => if xs.length + ys.length ≤ sizeLine then .ok (.lst (xs ++ ys)) q2 else .stuck
  | _, _ => .stuck
section
variable {L : Lx} {X : Cx} {a b : Expr} {f g : Sm} {pos : Pos}
end
section
variable {f g : Sm} {ρ : TEnv} {q q1 q2 : Store} {t u : T} {xs ys : List T}
end
end SP

namespace SP
open PySem PySem.Spec PyProof.Rows L2 SeqAt LamX
/-! ### xs[lo::k], k at least 1 -/
def pickL {α : Type} (xs : List α) (lo st : Option Int) : List α := (sliceRange (sliceBounds lo none st xs.length).1 (sliceBounds lo none st xs.length).2.1 (sliceBounds lo none st xs.length).2.2).filterMap (xs[·]?)
section
variable {L : Lx} {X : Cx}
/-- xs[lo::k] of a list -/
def tSl3 (te : TE) (tl ts : TO) : TE := fun σ H Q => te σ H fun x H1 => tl σ H1 fun l H2 => ts σ H2 fun st H3 => st ≠ some 0 ∧ rSlL3 x l st H3 Q
where rSlL3 (x : V) (lo st : Option Int) (H : Hp) (Q : VK) : Prop := ∃ a xs, x = .ref a ∧ Rd H a (.lst xs) ∧ ∀ p, H p = none → Q (.ref p) (L2.upd H p (.lst (pickL xs lo st)))
open Classical in
noncomputable def fCut3 (t : T) (lo st : Option Int) (q : Store) : R T := match st with
  | some k => if 0 < k then match lstAt q t with
    | some ts => .ok (.lst (pickL ts lo (some k))) q
    | none => .stuck
    else .stuck
  | none => .stuck
noncomputable def sSl3 (f : Sm) (fl fh : TEnv → Store → R (Option Int)) : Sm := fun ρ q => (f ρ q).bind fun t q1 => (fl ρ q1).bind fun lo q2 => (fh ρ q2).bind fun hi q3 => fCut3 t lo hi q3
end
end SP

namespace SP
open PySem PySem.Spec PyProof.Rows L2 SeqAt LamX
section
variable {L : Lx} {X : Cx} {pins : List (Addr × Obj)} {σ : L2.St} {f c' : Addr} {pm ctv : Value} {params : Arguments} {body : Expr} {scope : Scope} {x : Str} {i k : Nat} {fb : Sm}
end
open Classical in
noncomputable def nSortKD (i : Nat) (fa : Sa) (fb : Sm) : Sm := fun ρ q => (fa ρ q).bind fun l q1 => match l with
  | [.dct kvs] => match keyRun i fb ρ (kvs.map (·.1)) q1 with
    | .ok ks q2 => if DatOk ks ∧ SrtOk ks ∧ kvs.length ≤ sizeLine then .ok (.lst (sortKT (kvs.map (·.1)) ks)) q2 else .stuck
    | _ => .stuck
  | _ => .stuck
section
variable {L : Lx} {X : Cx} {e : Expr} {params : Arguments} {body : Expr} {scope : Scope} {x : Str} {i k : Nat} {fa : Sa} {fb : Sm} {p lpos pos kpos : Pos}
end
end SP

namespace SP
open PySem PySem.Spec PyProof.Rows L2 SeqAt LamX GenW
/-! ### generator expressions with two clauses: asked by any kind of state -/
structure GS {ι : Type} (X : Cx) (sg : ι → L2.St) (ex : ι → List (Addr × Obj)) (fx : ι → List Addr) (tn : ι → Heap → Prop) (pins : List (Addr × Obj)) (i : ι) (H : Hp) (s : Shared) : Prop where
  inv : Inv X (pins ++ ex i) (sg i) H s
  tn : tn i s.heap
  none : ∀ b ∈ fx i, H b = none
def GY {ι : Type} (X : Cx) (sg : ι → L2.St) (ex : ι → List (Addr × Obj)) (fx : ι → List Addr) (tn : ι → Heap → Prop) (Pp : List (Addr × Obj) → Prop) (W : Int → ι → Nat → Hp → Prop) (Yd : Int → ι → Nat → V → Hp → Prop) : Protocol := fun n s₀ v s kap =>
  ∃ i H x m pins, GS X sg ex fx tn pins i H s ∧ Pp pins ∧ RelV x v ∧ m ≤ n ∧ Yd (valP pins) i m x H ∧ Lk pins s₀ ∧ ∀ s'' H'' pins', GS X sg ex fx tn pins' i H'' s'' → Pp pins' → W (valP pins') i m H'' → kap (.send .none) s''
def GE (X : Cx) (σ : L2.St) (Pp : List (Addr × Obj) → Prop) (Fin : Int → Hp → Prop) (s₀ s : Shared) : Prop := ∃ H pins, Inv X pins σ H s ∧ Pp pins ∧ Fin (valP pins) H ∧ Lk pins s₀
section
variable {ι : Type} {X : Cx} {sg : ι → L2.St} {ex : ι → List (Addr × Obj)} {fx : ι → List Addr} {tn : ι → Heap → Prop} {σ : L2.St} {W : Int → ι → Nat → Hp → Prop} {Fin : Int → Hp → Prop} {Yd : Int → ι → Nat → V → Hp → Prop} {Pp : List (Addr × Obj) → Prop} {A : Around}
def GG (X : Cx) (sg : ι → L2.St) (ex : ι → List (Addr × Obj)) (fx : ι → List Addr) (tn : ι → Heap → Prop) (σ : L2.St) (W : Int → ι → Nat → Hp → Prop) (Fin : Int → Hp → Prop) (Yd : Int → ι → Nat → V → Hp → Prop) (Pp : List (Addr × Obj) → Prop) (A : Around) (n : Nat) (i : ι) (m : Nat) (gs : GenState) : Prop :=
  ∀ (s : Shared) (H : Hp) (pins : List (Addr × Obj)), GS X sg ex fx tn pins i H s → Pp pins → W (valP pins) i m H → gs.Goes (model X.prog X.w) A (fun _ s₀ r s₁ => r = .ok .next ∧ GE X σ Pp Fin s₀ s₁) (GY X sg ex fx tn Pp W Yd) n (.send .none) s
variable {B : Around} {a : Addr} {gn : Nat} {go : Obj} {R : Result → Shared → Prop}
end
end SP

namespace SP
open PySem PySem.Spec PyProof.Rows L2 SeqAt LamX GenW
/-! ### generator expressions with two clauses: the turns -/
structure In where
  i : Nat
  j : Nat
  m0 : Nat
  it1 : Addr
  fp1 : List Addr
  tn1 : Nat → Heap → Prop
  J1 : It
  σ2 : L2.St
  P7 : List (Addr × Obj)
  W1 : Int → Nat → Nat → Hp → Prop
inductive Ix where
  | out (i : Nat)
  | inn (d : In)
def sgX (σ : L2.St) (vs vs1 : List Nat) : Ix → L2.St
  | .out _ => wipe σ vs
  | .inn d => wipe d.σ2 vs1
def exX : Ix → List (Addr × Obj)
  | .out _ => []
  | .inn d => d.P7
def fxX (fp : List Addr) : Ix → List Addr
  | .out _ => fp
  | .inn d => d.fp1
def Wt (Z : Nat) (W : Int → Nat → Nat → Hp → Prop) : Int → Ix → Nat → Hp → Prop
  | v, .out i, m, H => ∃ m0, m0 * (Z + 1) ≤ m ∧ W v i m0 H
  | v, .inn d, m, H => ∃ k, (d.m0 - 1) * (Z + 1) + k ≤ m ∧ d.W1 v d.j k H
def Yt (Z : Nat) (W : Int → Nat → Nat → Hp → Prop) (Y1 : Int → V → Hp → (Int → Prop) → Prop) : Int → Ix → Nat → V → Hp → Prop
  | _, .out _, _, _, _ => False
  | v, .inn d, m, x, H => Y1 v x H fun v' => Wt Z W v' (.inn d) m H
/-- the inner clause's turns -/
def In1 (J1 : It) (g1 : TG) (tt1 : TT) (te : TE) (σ2 : L2.St) (vs1 : List Nat) (Y1 : Int → V → Hp → (Int → Prop) → Prop) (W1 : Int → Nat → Nat → Hp → Prop) (Nx : Int → Hp → Prop) : Prop :=
  ∀ v j k H, W1 v j k H → (J1.stop j H ∧ Nx v H) ∨ (J1.go j H ∧ ∀ x H', J1.yld j H x H' → g1 x (wipe σ2 vs1) H' fun σ3 H5 => wipe σ3 vs1 = wipe σ2 vs1 ∧ tt1 σ3 H5 fun b H6 =>
    if b = true then te σ3 H6 fun y H7 => ∃ k', k' < k ∧ Y1 v y H7 (fun v' => W1 v' (j + 1) k' H7) else ∃ k', k' < k ∧ W1 v (j + 1) k' H6)
/-- the outer clause's turns -/
def Out1 (Z : Nat) (J : It) (g : TG) (tt : TT) (wi1 : TI) (g1 : TG) (tt1 : TT) (te : TE) (σ : L2.St) (vs vs1 : List Nat) (Y1 : Int → V → Hp → (Int → Prop) → Prop) (W : Int → Nat → Nat → Hp → Prop) (Fin : Int → Hp → Prop) : Prop :=
  ∀ v i m H, W v i m H → (J.stop i H ∧ Fin v H) ∨ (J.go i H ∧ 0 < m ∧ ∀ x H', J.yld i H x H' → g x (wipe σ vs) H' fun σ2 H2 => wipe σ2 vs = wipe σ vs ∧ tt σ2 H2 fun b H3 =>
    if b = true then wi1 σ2 H3 fun J1 H4 => ∃ W1, (∃ k, k ≤ Z ∧ W1 v 0 k H4) ∧ In1 J1 g1 tt1 te σ2 vs1 Y1 W1 (fun v' H' => ∃ m', m' < m ∧ W v' (i + 1) m' H') else ∃ m', m' < m ∧ W v (i + 1) m' H3)
section
variable {X : Cx} {elt tg iter tg1 iter1 : Expr} {ifs ifs1 : List Expr} {scope : Scope} {pos : Pos} {g g1 : TG} {tt tt1 : TT} {te : TE} {wi1 : TI} {J : It} {fp : List Addr} {it : Addr} {tn : Nat → Heap → Prop} {σ : L2.St} {vs vs1 : List Nat} {Z : Nat}
  {W : Int → Nat → Nat → Hp → Prop} {Fin : Int → Hp → Prop} {Y1 : Int → V → Hp → (Int → Prop) → Prop} {Pp : List (Addr × Obj) → Prop} {A : Around}
/-- what is known of an inner state -/
structure DOk (X : Cx) (tg1 : Expr) (g1 : TG) (tt1 : TT) (te : TE) (σ : L2.St) (vs vs1 : List Nat) (Y1 : Int → V → Hp → (Int → Prop) → Prop) (W : Int → Nat → Nat → Hp → Prop) (fp : List Addr) (tn : Nat → Heap → Prop) (Pp : List (Addr × Obj) → Prop) (d : In) : Prop where
  turn : Turn X.prog X.w X.K tg1 d.J1 d.fp1 d.it1 d.tn1
  step : In1 d.J1 g1 tt1 te d.σ2 vs1 Y1 d.W1 (fun v' H' => ∃ m', m' < d.m0 ∧ W v' (d.i + 1) m' H')
  back : ∃ h7, tn (d.i + 1) h7 ∧ d.P7 = pinsAt fp h7
  len : (wipe σ vs).length = d.σ2.length
  kn : ∀ (j : Nat) v, (wipe σ vs)[j]? = some (some v) → (wipe d.σ2 vs1)[j]? = some (some v)
  stat : ∀ b ∈ d.fp1, b ≠ X.env.locals ∧ b ∉ X.fs ∧ (b ∈ X.ex ∨ X.s_0.heap.objs.size ≤ b) ∧ ∀ x c, X.env.cells.lookup x = some c → c ≠ b
  apart : ∀ pins, Pp pins → ∀ b ∈ d.fp1, ∀ p ∈ X.pn ++ (pins ++ d.P7), p.1 ≠ b
def tnX (X : Cx) (tg1 : Expr) (g1 : TG) (tt1 : TT) (te : TE) (σ : L2.St) (vs vs1 : List Nat) (Y1 : Int → V → Hp → (Int → Prop) → Prop) (W : Int → Nat → Nat → Hp → Prop) (fp : List Addr) (tn : Nat → Heap → Prop) (Pp : List (Addr × Obj) → Prop) : Ix → Heap → Prop
  | .out i, h => tn i h
  | .inn d, h => d.tn1 d.j h ∧ DOk X tg1 g1 tt1 te σ vs vs1 Y1 W fp tn Pp d
abbrev Gx2 (elt tg iter tg1 iter1 : Expr) (ifs ifs1 : List Expr) (scope : Scope) (pos : Pos) : Expr := .GeneratorExp elt [⟨tg, iter, ifs, 0⟩, ⟨tg1, iter1, ifs1, 0⟩] scope pos
end
end SP

namespace PySem
open Sem (wp)
section
variable {M : Model} {A : Around} {E : Value → Shared → Prop} {s : Shared}
end
end PySem
namespace SP
open PySem PySem.Spec PyProof.Rows L2 SeqAt LamX GenW
section
variable {X : Cx} {pins : List (Addr × Obj)} {σ : L2.St} {H : Hp} {s : Shared}
def GMade2 (X : Cx) (pins : List (Addr × Obj)) (σ : L2.St) (elt tg iter tg1 iter1 : Expr) (ifs ifs1 : List Expr) (scope : Scope) (pos : Pos) (T : List NdefX.NTab) (R : It → Hp → Prop) (u : Value) (s5 : Shared) : Prop :=
  ∃ (a it : Addr) (fp : List Addr) (tn : Nat → Heap → Prop) (J : It) (H1 H4 : Hp) (s4 : Shared) (code nm1 nm2 : Value) (h' : Heap) (tk : Nat) (m : Str → Option Value), u = .ref a ∧ Inv X pins σ H4 s4 ∧ ExtN H1 H4 ∧ (∀ b, H4 b = Option.none → H1 b = Option.none) ∧ NdefX.TabsN T H4 ∧ R J H1 ∧
    Turn X.prog X.w X.K tg J fp it tn ∧ tn 0 s4.heap ∧ (∀ b ∈ fp, FpOk X pins H4 b ∧ b < s4.heap.objs.size) ∧ h'.Ns s4.heap.objs.size m ∧ h'.objs.size = a ∧ a = s4.heap.objs.size + 1 ∧ (∀ b o, s4.heap.get? b = some o → h'.get? b = some o) ∧
    s5 = { s4 with gens := s4.gens.push (.fresh (.compStart (.GeneratorExp elt [⟨tg, iter, ifs, 0⟩, ⟨tg1, iter1, ifs1, 0⟩] scope pos) 0 (.ref it) .none (genCenv X scope s4.heap.objs.size code))), toks := tk,
                   heap := h'.push { cls := .type "generator", data := .fields #[.int s4.gens.size 0, nm1, nm2] } }
end
section
variable {X : Cx} {pins : List (Addr × Obj)} {σ : L2.St} {H : Hp} {s : Shared} {elt tg iter tg1 iter1 : Expr} {ifs ifs1 : List Expr} {scope : Scope} {own : List (Str × Nat)} {vs1 : List Nat} {pos : Pos} {T : List NdefX.NTab} {wi wi1 : TI} {g g1 : TG} {tt tt1 : TT} {te : TE} {Rr : It → Hp → Prop} {A : Around} {u : Value}
def Y1sum : Int → V → Hp → (Int → Prop) → Prop := fun v y _ C => ∃ k, y = .int k ∧ C (v + k)
def Y1tru (b0 : Bool) (Tr : Hp → Prop) : Int → V → Hp → (Int → Prop) → Prop := fun v y H C => ∃ k, y = .bl k ∧ (if k = b0 then Tr H else C v)
def tTruG2 (T : List NdefX.NTab) (b0 : Bool) (wi : TI) (g : TG) (tt : TT) (wi1 : TI) (g1 : TG) (tt1 : TT) (te : TE) (vs vs1 : List Nat) : TE := fun σ H Q => wi σ H fun J H1 => NdefX.TabsN T H1 ∧ ∀ H4, ExtN H1 H4 → (∀ b, H4 b = Option.none → H1 b = Option.none) → NdefX.TabsN T H4 →
  ∃ W : Int → Nat → Nat → Hp → Prop, (∃ m, W 0 0 m H4) ∧ Out1 sizeLine J g tt wi1 g1 tt1 te σ vs vs1 (Y1tru b0 fun H => Q (.bl b0) H) W (fun _ H => Q (.bl (!b0)) H)
def tSumG2 (T : List NdefX.NTab) (wi : TI) (g : TG) (tt : TT) (wi1 : TI) (g1 : TG) (tt1 : TT) (te : TE) (vs vs1 : List Nat) : TE := fun σ H Q => wi σ H fun J H1 => NdefX.TabsN T H1 ∧ ∀ H4, ExtN H1 H4 → (∀ b, H4 b = Option.none → H1 b = Option.none) → NdefX.TabsN T H4 →
  ∃ W : Int → Nat → Nat → Hp → Prop, (∃ m, W 0 0 m H4) ∧ Out1 sizeLine J g tt wi1 g1 tt1 te σ vs vs1 Y1sum W (fun v H => Q (.int v) H)
end
end SP

namespace SP
open PySem PySem.Spec PyProof.Rows L2 SeqAt LamX GenW
/-! ### any, all, sum over a generator expression with two clauses -/
def truI (b0 : Bool) (g : Tg) (tt : St') (te : Sm) (ρ : TEnv) (kont : Store → R T) : List T → Store → R T
  | [], q => kont q
  | t :: ts, q => match g t ρ q with
    | none => .stuck
    | some (ρ1, q1) => match tt ρ1 q1 with
      | .ok b q2 => if b = true then (match te ρ1 q2 with
          | .ok (.bl k) q3 => if k = b0 then .ok (.bl b0) q3 else truI b0 g tt te ρ kont ts q3
          | _ => .stuck) else truI b0 g tt te ρ kont ts q2
      | _ => .stuck
def sumI (g : Tg) (tt : St') (te : Sm) (ρ : TEnv) (kont : Store → Int → R T) : List T → Store → Int → R T
  | [], q, a => kont q a
  | t :: ts, q, a => match g t ρ q with
    | none => .stuck
    | some (ρ1, q1) => match tt ρ1 q1 with
      | .ok b q2 => if b = true then (match te ρ1 q2 with
          | .ok (.int k) q3 => sumI g tt te ρ kont ts q3 (a + k)
          | _ => .stuck) else sumI g tt te ρ kont ts q2 a
      | _ => .stuck
open Classical in
noncomputable def truG2 (b0 : Bool) (g : Tg) (tt : St') (fi1 : Si) (g1 : Tg) (tt1 : St') (te : Sm) (vs1 : List Nat) (ρ : TEnv) : List T → Store → R T
  | [], q => .ok (.bl (!b0)) q
  | t :: ts, q => match g t ρ q with
    | none => .stuck
    | some (ρ1, q1) => match tt ρ1 q1 with
      | .ok b q2 => if b = true then (match fi1 ρ1 q2 with
          | .ok us q3 => if us.length ≤ sizeLine then truI b0 g1 tt1 te (wipeT ρ1 vs1) (fun q4 => truG2 b0 g tt fi1 g1 tt1 te vs1 ρ ts q4) us q3 else .stuck
          | _ => .stuck) else truG2 b0 g tt fi1 g1 tt1 te vs1 ρ ts q2
      | _ => .stuck
open Classical in
noncomputable def sumG2 (g : Tg) (tt : St') (fi1 : Si) (g1 : Tg) (tt1 : St') (te : Sm) (vs1 : List Nat) (ρ : TEnv) : List T → Store → Int → R T
  | [], q, a => .ok (.int a) q
  | t :: ts, q, a => match g t ρ q with
    | none => .stuck
    | some (ρ1, q1) => match tt ρ1 q1 with
      | .ok b q2 => if b = true then (match fi1 ρ1 q2 with
          | .ok us q3 => if us.length ≤ sizeLine then sumI g1 tt1 te (wipeT ρ1 vs1) (fun q4 a' => sumG2 g tt fi1 g1 tt1 te vs1 ρ ts q4 a') us q3 a else .stuck
          | _ => .stuck) else sumG2 g tt fi1 g1 tt1 te vs1 ρ ts q2 a
      | _ => .stuck
noncomputable def sTruG2 (b0 : Bool) (fi : Si) (g : Tg) (tt : St') (fi1 : Si) (g1 : Tg) (tt1 : St') (te : Sm) (vs vs1 : List Nat) : Sm := fun ρ q => (fi ρ q).bind fun ts q1 => truG2 b0 g tt fi1 g1 tt1 te vs1 (wipeT ρ vs) ts q1
noncomputable def sSumG2 (fi : Si) (g : Tg) (tt : St') (fi1 : Si) (g1 : Tg) (tt1 : St') (te : Sm) (vs vs1 : List Nat) : Sm := fun ρ q => (fi ρ q).bind fun ts q1 => sumG2 g tt fi1 g1 tt1 te vs1 (wipeT ρ vs) ts q1 0
section
variable {L : Lx} {X : Cx} {fi fi1 : Si} {g g1 : Tg} {tt tt1 : St'} {te : Sm} {vs1 : List Nat}
variable {elt tg iter tg1 iter1 : Expr} {ifs ifs1 : List Expr} {scope : Scope} {own : List (Str × Nat)} {pos p cpos : Pos} {k : Nat}
end
end SP

namespace RT
open PySem PySem.Spec PyProof.Rows
section
variable {prog : Program} {w : World} {A : Around} {E : Value → Shared → Prop} {s : Shared}
end
end RT

namespace SP
open PySem PySem.Spec PyProof.Rows L2 SeqAt
/-! ### tuple(reversed(t)), t a tuple -/
def tTupRevT (K : PySem.W.Frag) (te : TE) : TE := fun σ H Q => te σ H fun v H1 => ∃ (a : Addr) (xs : List V), v = .ref a ∧ SqT K H1 a xs ∧ SPF.NwT H1 xs.reverse Q
section
variable {X : Cx}
end
def sTupRevT (f : Sm) : Sm := fun ρ q => (f ρ q).bind fun t q1 => match t with
  | .tup ts => .ok (.tup ts.reverse) q1
  | _ => .stuck
section
variable {L : Lx} {X : Cx}
end
/-! ### the plain rule of a sum over two clauses -/
section
variable {α β : Type} {en : α → T} {e2 : β → T} {ys : α → List β} {p : β → Bool} {k : β → Int} {fi fi1 : Si} {g g1 : Tg} {tt1 : St'} {te : Sm} {vs vs1 : List Nat} {ρ : TEnv} {q q1 : Store}
end
end SP

namespace SP
open PySem PySem.Spec PyProof.Rows L2 SeqAt
/-! ### dicts with tuple keys: the heap's side -/
def keysU : List T → Option (List Key)
  | [] => some []
  | t :: ts => match keyT t, keysU ts with
    | some k, some ks => some (k :: ks)
    | _, _ => none
def keyL : T → Option (List Key)
  | .tup ts => keysU ts
  | _ => none
theorem keyT_kT (k : Key) : keyT (kT k) = some k := by cases k <;> rfl
theorem keysU_map : ∀ ks : List Key, keysU (ks.map kT) = some ks
  | [] => rfl
  | k :: ks => by rw [List.map_cons]; unfold keysU; rw [keyT_kT, keysU_map ks]
theorem keyL_map (ks : List Key) : keyL (.tup (ks.map kT)) = some ks := keysU_map ks
/-- what stands at the key -/
def uval (kvs : List (T × T)) (k : List Key) : Option T := (kvs.find? fun p => decide (keyL p.1 = some k)).map (·.2)
def uput (kvs : List (T × T)) (k : List Key) (t v : T) : List (T × T) :=
  if (kvs.any fun p => decide (keyL p.1 = some k)) = true then kvs.map (fun p => if keyL p.1 = some k then (p.1, v) else p) else kvs ++ [(t, v)]
section
variable {L : Lx} {X : Cx} {pins : List (Addr × Obj)} {σ : L2.St} {H : Hp} {s : Shared} {ν : Nu}
theorem RepT.length {K : PySem.W.Frag} : ∀ {ts : List (T × T)} {xs : List (List Key × Addr × Value)}, RepT K L ν H ts xs → ts.length = xs.length
  | _, _, .nil => rfl
  | _, _, .cons _ _ _ r => by rw [List.length_cons, List.length_cons, RepT.length r]
theorem RepT.val {K : PySem.W.Frag} (k : List Key) : ∀ {ts : List (T × T)} {xs : List (List Key × Addr × Value)}, RepT K L ν H ts xs →
    (uval ts k = none ∧ atKey xs k = none) ∨ ∃ t v p, uval ts k = some t ∧ atKey xs k = some p ∧ Rep K L ν H t v ∧ RelV v p.2
  | _, _, .nil => .inl ⟨rfl, rfl⟩
  | _, _, .cons (k := k') (b := b) (w := w) (t := t) (v := v) (ts := ts) (vs := vs) hk h rv r => by
    by_cases e : k' = k
    · subst e
      refine .inr ⟨t, v, (b, w), ?_, ?_, h, rv⟩
      · unfold uval; rw [List.find?_cons_of_pos (by simp [keyL_map])]; rfl
      · simp [atKey]
    · have e1 : uval ((.tup (k'.map kT), t) :: ts) k = uval ts k := by
        unfold uval
        rw [List.find?_cons_of_neg (by simp [keyL_map]; exact e)]
      have e2 : atKey ((k', b, w) :: vs) k = atKey vs k := by
        simp [atKey, e]
      rw [e1, e2]
      exact RepT.val k r
end
end SP

namespace SPF
open PySem PySem.Spec PyProof.Rows L2
/-! ### dict(pairs), the keys tuples: the library's side (as HandS.Dict's for ints and texts) -/
def mergedH (acc : List (List Key × Addr × Value)) (rest : List (List Key × Addr × Value)) : List (List Key × Addr × Value) := rest.foldl (fun acc q => storedH acc q.1 q.2.1 q.2.2) acc
section
variable {prog : Program} {w : World} {A : Around} {E : Value → Shared → Prop}
end
section
variable {X : Cx}
end
end SPF

namespace SP
open PySem PySem.Spec PyProof.Rows L2 SeqAt
/-! ### dicts with tuple keys: made, read -/
def pairsU : List T → Option (List (List Key × T × T))
  | [] => some []
  | .tup [k, v] :: ts => match keyL k, pairsU ts with
    | some ks, some r => some ((ks, k, v) :: r)
    | _, _ => none
  | _ => none
def mergeU (more : List (List Key × T × T)) : List (T × T) := more.foldl (fun acc p => uput acc p.1 p.2.1 p.2.2) []
def fDictU : FS := fun ts q => match ts with
  | [t] => match lstAt q t with
    | some us => match pairsU us with
      | some kvs => .ok (.dcu (mergeU kvs)) q
      | none => .stuck
    | none => .stuck
  | _ => .stuck
def dcuAt (q : Store) : T → Option (List (T × T))
  | .dcu xs => some xs
  | .obj n => match cell q n with
    | some (.dcu xs) => some xs
    | _ => none
  | _ => none
def oIxU : Op2 := fun t u q => match dcuAt q t, keyL u with
  | some kvs, some k => match uval kvs k with
    | some v => .ok v q
    | none => .stuck
  | _, _ => .stuck
def oInU (neg : Bool) : Op2 := fun t u q => match dcuAt q u, keyL t with
  | some kvs, some k => .ok (.bl ((uval kvs k).isSome != neg)) q
  | _, _ => .stuck
def fLenU : FS := fun ts q => match ts with
  | [t] => match dcuAt q t with
    | some kvs => .ok (.int (kvs.length : Nat)) q
    | none => .stuck
  | _ => .stuck
section
variable {K : PySem.W.Frag} {L : Lx} {ν : Nu} {q : Store} {H : Hp}
theorem RepT.any (k : List Key) : ∀ {ts : List (T × T)} {xs : List (List Key × Addr × Value)}, RepT K L ν H ts xs → (ts.any fun p => decide (keyL p.1 = some k)) = (atKey xs k).isSome
  | _, _, .nil => rfl
  | _, _, .cons (k := k') (b := b) (w := w) (vs := vs) hk h rv r => by
    rw [List.any_cons, RepT.any k r]
    by_cases e : k' = k
    · subst e
      simp [atKey, keyL_map]
    · have e2 : atKey ((k', b, w) :: vs) k = atKey vs k := by simp [atKey, e]
      rw [e2]
      simp [keyL_map, e]
theorem RepT.snoc {k : List Key} {b : Addr} {w : Value} {t : T} {v : V} (hk : Rep K L ν H (.tup (k.map kT)) (.ref b)) (h : Rep K L ν H t v) (rv : RelV v w) : ∀ {ts : List (T × T)} {xs : List (List Key × Addr × Value)}, RepT K L ν H ts xs → RepT K L ν H (ts ++ [(.tup (k.map kT), t)]) (xs ++ [(k, b, w)])
  | _, _, .nil => .cons hk h rv .nil
  | _, _, .cons hk' h' rv' r => .cons hk' h' rv' (RepT.snoc hk h rv r)
theorem RepT.mapPut {k : List Key} {w : Value} {t : T} {v : V} (h : Rep K L ν H t v) (rv : RelV v w) : ∀ {ts : List (T × T)} {xs : List (List Key × Addr × Value)}, RepT K L ν H ts xs → RepT K L ν H (ts.map fun p => if keyL p.1 = some k then (p.1, t) else p) (xs.map (putAt k w))
  | _, _, .nil => .nil
  | _, _, .cons (k := k') hk' h' rv' r => by
    rw [List.map_cons, List.map_cons]
    by_cases e : k' = k
    · subst e
      simp only [putAt, keyL_map, if_true]
      exact .cons hk' h rv (RepT.mapPut h rv r)
    · have e1 : ¬ (keyL (.tup (k'.map kT)) = some k) := by rw [keyL_map]; simpa using e
      simp only [putAt, if_neg e1, if_neg e]
      exact .cons hk' h' rv' (RepT.mapPut h rv r)
theorem RepT.put {k : List Key} {b : Addr} {w : Value} {t : T} {v : V} (hk : Rep K L ν H (.tup (k.map kT)) (.ref b)) (h : Rep K L ν H t v) (rv : RelV v w) {ts : List (T × T)} {xs : List (List Key × Addr × Value)} (r : RepT K L ν H ts xs) : RepT K L ν H (uput ts k (.tup (k.map kT)) t) (storedH xs k b w) := by
  unfold uput storedH
  rw [RepT.any k r]
  split
  · exact RepT.mapPut h rv r
  · exact RepT.snoc hk h rv r
end
section
variable {L : Lx} {X : Cx} {a b e : Expr} {f g : Sm} {pos p : Pos} {fa : Sa}
end
end SP

namespace SP
open PySem PySem.Spec PyProof.Rows L2 SeqAt
/-! ### dicts with tuple keys: walked -/
/-- the entries of a dict object -/
def ObjU (o : Obj) (kvs : List (V × V)) : Prop := ∃ es ep, o.ExactDict ∧ o.data = .dict es ep ∧ es.size = kvs.length ∧ ∀ (i : Nat) (k v : V), kvs[i]? = some (k, v) → ∃ en : DictEntry, es[i]? = some en ∧ RelV k en.key ∧ RelV v en.val
def Itku (d b : Addr) (o : Obj) (kvs : List (V × V)) : It :=
  ⟨fun i H => H d = some (DX b o) ∧ i < kvs.length, fun i H x H' => H' = H ∧ ∃ k v, kvs[i]? = some (k, v) ∧ x = k, fun i H => H d = some (DX b o) ∧ kvs.length ≤ i⟩
def Itiu (d b : Addr) (o : Obj) (kvs : List (V × V)) : It :=
  ⟨fun i H => H d = some (DX b o) ∧ i < kvs.length, fun i H x H' => ∃ T ob k v, kvs[i]? = some (k, v) ∧ x = .ref T ∧ ob.dict = none ∧ H T = none ∧ H' = L2.upd H T (.frz ob (.tup [k, v])), fun i H => H d = some (DX b o) ∧ kvs.length ≤ i⟩
section
variable {P : Program} {w : World} {K : PySem.W.Frag} {tg : Expr} {d b : Addr} {o : Obj} {es : Array DictEntry} {ep : Nat} {kvs : List (V × V)}
end
def iKeysW (td : TE) : TI := fun σ H R => td σ H fun x H1 => ∃ d b o kvs, x = .ref d ∧ H1 d = some (DX b o) ∧ ObjU o kvs ∧ R (Itku d b o kvs) H1
def iItemsW (td : TE) : TI := fun σ H R => td σ H fun x H1 => ∃ d b o kvs, x = .ref d ∧ H1 d = some (DX b o) ∧ ObjU o kvs ∧ R (Itiu d b o kvs) H1
section
variable {X : Cx} {tg e : Expr} {td : TE} {apos cpos : Pos} {elts : List Expr} {kk : Nat} {tpos : Pos}
end
section
variable {K : PySem.W.Frag} {L : Lx} {ν : Nu} {H : Hp}
end
def iKeysU (f : Sm) : Si := fun ρ q => (f ρ q).bind fun t q' => match t with
  | .dcu kvs => .ok (kvs.map (·.1)) q'
  | _ => .stuck
def iItemsU (f : Sm) : Si := fun ρ q => (f ρ q).bind fun t q' => match t with
  | .dcu kvs => .ok (kvs.map fun p => .tup [p.1, p.2]) q'
  | _ => .stuck
section
variable {L : Lx} {X : Cx} {tg e : Expr} {f : Sm} {elts : List Expr} {kk : Nat} {tpos apos pos : Pos}
end
end SP

namespace SP
open PySem PySem.Spec PyProof.Rows L2 SeqAt
/-! ### t == (), t != () whatever t holds -/
def oEqNT : Op2 := fun t u q => match t, u with
  | .tup ts, .tup [] => .ok (.bl ts.isEmpty) q
  | _, _ => .stuck
def oNeNT : Op2 := fun t u q => match t, u with
  | .tup ts, .tup [] => .ok (.bl (!ts.isEmpty)) q
  | _, _ => .stuck
section
variable {L : Lx} {X : Cx}
end
/-! ### dicts with tuple keys: the plain rules -/
class KeyU {κ : Type} (ek : κ → T) where
  kf : κ → List Key
  key : ∀ k, keyL (ek k) = some (kf k)
  inj : ∀ a b, kf a = kf b → a = b
section
variable {κ ν α : Type} [DecidableEq κ] {ek : κ → T} {ev : ν → T} [hk : KeyU ek] {kvs : List (κ × ν)} {k : κ} {v : ν} {q q1 : Store} {ρ : TEnv} {f : Sm}
def eU (ek : κ → T) (ev : ν → T) (kvs : List (κ × ν)) : T := .dcu (kvs.map fun p => (ek p.1, ev p.2))
end
/-! ### try -/
section
variable {fb s : Ss} {hs : List ((Str → Bool) × Ss)} {ρ ρ1 ρ2 : TEnv} {q q1 q2 : Store} {c : Str} {fs : List (Str × T)} {Q : RS → Prop}
end
end SP

namespace MF
open PySem PySem.Spec PyProof.Rows
/-! ### min and max of two texts -/
def sItems (xs : Array (Str × Tok)) : Array Value := xs.map fun p => .str p.1 p.2
def sAt (xs : Array (Str × Tok)) (i : Nat) : Str := (xs[i]?.map (·.1)).getD ""
section
variable {prog : Program} {w : World} {A : Around} {E : Value → Shared → Prop} {s : Shared}
end
end MF
namespace SP
open PySem PySem.Spec PyProof.Rows L2 SeqAt
def fMin2S : FS := fun ts q => match ts with
  | [.str a, .str b] => .ok (.str (if strLt b a then b else a)) q
  | _ => .stuck
def fMax2S : FS := fun ts q => match ts with
  | [.str a, .str b] => .ok (.str (if strLt a b then b else a)) q
  | _ => .stuck
section
variable {L : Lx} {X : Cx} {a e : Expr} {es : List Expr} {fa : Sa} {p p2 pos pos2 : Pos} {f fo : Sm} {o e2 : Expr} {apos cpos : Pos}
end
section
variable {q : Store}
end
end SP

namespace SP
open PySem PySem.Spec PyProof.Rows L2 SeqAt
/-! ### dicts with tuple keys: new, written, read with a default -/
def nDctU : Sm := fun _ q => .ok (.dcu []) q
open Classical in
noncomputable def xSubU (fo fi fv : Sm) : Ss := fun ρ q => (fv ρ q).to ρ fun u q1 => (fo ρ q1).to ρ fun t q2 => (fi ρ q2).to ρ fun i q3 => match t with
  | .obj n => match cell q3 n with
    | some (.dcu kvs) => match keyL i with
      | some k => if kvs.length < sizeLine then .nx ρ (q3.set n (some (.dcu (uput kvs k i u)))) else .stuck
      | none => .stuck
    | _ => .stuck
  | _ => .stuck
def sGet2U (fo fi fe : Sm) : Sm := fun ρ q => (fo ρ q).bind fun t q1 => match dcuAt q1 t with
  | some _ => (fi ρ q1).bind fun v q2 => (fe ρ q2).bind fun z q3 => match keyL v, dcuAt q3 t with
    | some k, some kvs => .ok ((uval kvs k).getD z) q3
    | _, _ => .stuck
  | none => .stuck
section
variable {L : Lx} {X : Cx} {pins : List (Addr × Obj)} {σ : L2.St} {H : Hp} {s : Shared} {ν : Nu} {q : Store}
def KeysAt (X : Cx) (H : Hp) (xs : List (List Key × Addr × Value)) : Prop := ∀ x ∈ xs, SqT X.K H x.2.1 (x.1.map kV)
def sDPutU (X : Cx) (td ty tv : TE) : TS := fun D σ H => tv σ H fun v H1 => td σ H1 fun x H2 => ty σ H2 fun y H3 => ∃ a b o xs k kb, x = .ref a ∧ y = .ref kb ∧ H3 a = some (DX b o) ∧ TDx (X.prog, X.w) o xs ∧ KeysAt X H3 xs ∧ SqT X.K H3 kb (k.map kV) ∧ xs.length < sizeLine ∧
  ∀ o' w, RelV v w → TDx (X.prog, X.w) o' (storedH xs k kb w) → D.nx σ (L2.upd H3 a (DX a o'))
def tDGet2U (X : Cx) (td ty tx : TE) : TE := fun σ H Q => td σ H fun x H1 => ∃ a b0 o0 xs0, x = .ref a ∧ H1 a = some (DX b0 o0) ∧ TDx (X.prog, X.w) o0 xs0 ∧ KeysAt X H1 xs0 ∧ ty σ H1 fun y H2 => tx σ H2 fun z H3 => ∃ b o xs k kb, y = .ref kb ∧ H3 a = some (DX b o) ∧ TDx (X.prog, X.w) o xs ∧ KeysAt X H3 xs ∧ SqT X.K H3 kb (k.map kV) ∧
  ((atKey xs k = none ∧ Q z H3) ∨ ∃ p v, atKey xs k = some p ∧ RelV v p.2 ∧ Q v H3)
end
section
variable {κ β : Type} [DecidableEq κ] {ek : κ → T} {ev : β → T} [hk : KeyU ek] {kvs : List (κ × β)} {k : κ} {v : β} {q q1 q2 q3 : Store} {ρ : TEnv} {fo fi fe fv : Sm} {n : Nat} {t z : T} {s : Ss} {Q : RS → Prop} {r : RS}
end
end SP

namespace SP
open PySem PySem.Spec PyProof.Rows L2 SeqAt
/-! ### d.setdefault(k, x) -/
open Classical in
noncomputable def sSetD (fo fi fe : Sm) : Sm := fun ρ q => (fo ρ q).bind fun t q1 => match t with
  | .obj n => match cell q1 n with
    | some (.dct _) => (fi ρ q1).bind fun v q2 => (fe ρ q2).bind fun z q3 => match keyT v, cell q3 n with
      | some _, some (.dct kvs) => if kvs.length < sizeLine then match dval kvs v with
          | some w => .ok w q3
          | none => .ok z (q3.set n (some (.dct (dput kvs v z)))) else .stuck
      | _, _ => .stuck
    | _ => .stuck
  | _ => .stuck
section
variable {L : Lx} {X : Cx} {o e g : Expr} {fo fi fe : Sm} {apos cpos : Pos}
end
section
variable {κ β : Type} [DecidableEq κ] {ek : κ → T} {ev : β → T} [hk : KeyE ek] {kvs kvs2 : List (κ × β)} {k : κ} {w : β} {q q1 q2 q3 : Store} {ρ : TEnv} {fo fi fe : Sm} {n : Nat} {t z : T}
end
end SP

namespace SP
open PySem PySem.Spec PyProof.Rows L2 SeqAt
/-! ### dicts with tuple keys: sum of the values, a display with the empty tuple -/
def tSumU (te : TE) : TE := fun σ H Q => te σ H fun x H1 => ∃ d b o kvs ns, x = .ref d ∧ H1 d = some (DX b o) ∧ ObjU o kvs ∧ kvs.map (·.2) = List.map V.int ns ∧ Q (.int ns.sum) H1
section
variable {X : Cx} {e : Expr} {te : TE} {p apos cpos pos : Pos}
end
def sSumU (fo : Sm) : Sm := fun ρ q => (fo ρ q).bind fun t q1 => match dcuAt q1 t with
  | some kvs => match intsT (kvs.map (·.2)) with
    | some ns => .ok (.int ns.sum) q1
    | none => .stuck
  | none => .stuck
section
variable {L : Lx} {X : Cx} {o : Expr} {fo : Sm} {p apos cpos pos : Pos}
end
def nDisp0U (t : T) : Sm := fun _ q => match t with
  | .int i => .ok (.dcu [(.tup [], .int i)]) q
  | _ => .stuck
section
variable {X : Cx} {e f : Expr} {pos : Pos}
end
section
variable {L : Lx} {X : Cx} {tp p2 pos : Pos} {i : Int}
end
end SP

namespace MF
open PySem PySem.Spec PyProof.Rows
/-! ### min of five ints -/
section
variable {prog : Program} {w : World} {A : Around} {E : Value → Shared → Prop} {s : Shared}
end
end MF
namespace SP
open PySem PySem.Spec PyProof.Rows L2 SeqAt
def fMin5 : FS := fun ts q => match ts with
  | [.int a, .int b, .int c, .int d, .int e] => .ok (.int (min (min (min (min a b) c) d) e)) q
  | _ => .stuck
section
variable {L : Lx} {X : Cx} {e : Expr} {es : List Expr} {fa : Sa} {p pos : Pos}
end
end SP

namespace SP
open PySem PySem.Spec PyProof.Rows L2 SeqAt LamX
/-! ### min(range(n), key=..) -/
section
variable {L : Lx} {X : Cx} {pins : List (Addr × Obj)} {σ : L2.St} {f c' : Addr} {pm ctv : Value} {params : Arguments} {body : Expr} {scope : Scope} {x : Str} {i k : Nat} {fb : Sm} {B : Around}
end
open Classical in
noncomputable def sMinKR (i : Nat) (fa : Sa) (fb : Sm) : Sm := fun ρ q => (fa ρ q).bind fun l q1 => match l with
  | [.int n] => if -(2 ^ 62) ≤ n ∧ n < 2 ^ 62 then match (List.range n.toNat).map (fun i => T.int (0 + (i : Nat))) with
    | (t0 :: ts) => match keyRun i fb ρ (t0 :: ts) q1 with
      | .ok (k0 :: ks) q2 => if DatOk (k0 :: ks) then .ok (minKF (t0, k0) (ts.zip ks)).1 q2 else .stuck
      | _ => .stuck
    | _ => .stuck else .stuck
  | _ => .stuck
section
variable {L : Lx} {X : Cx} {e : Expr} {params : Arguments} {body : Expr} {scope : Scope} {x : Str} {i k : Nat} {fa : Sa} {fb : Sm} {p p2 lpos pos pos2 kpos : Pos}
end
end SP

namespace SP
open PySem PySem.Spec PyProof.Rows L2 SeqAt
/-! ### not in a dict with tuple keys -/
section
variable {L : Lx} {X : Cx} {a b : Expr} {f g : Sm} {pos : Pos}
end
section
variable {κ β : Type} [DecidableEq κ] {ek : κ → T} {ev : β → T} [hk : KeyU ek] {kvs : List (κ × β)} {k : κ} {q : Store}
end
end SP

namespace SP
open PySem PySem.Spec PyProof.Rows L2 SeqAt
/-! ### targets within targets -/
end SP

namespace SP
open PySem PySem.Spec PyProof.Rows L2 SeqAt
/-! ### sep.join(..), text.split(sep) -/
def getS : T → Str
  | .str x => x
  | _ => ("" : Str)
def isS : T → Bool
  | .str _ => true
  | _ => false
open Classical in
noncomputable def mJoin : FS := fun ts q => match ts with
  | [.str a, t] => match seqAt q t with
    | some us => if us.all isS = true ∧ ((us.map getS).map (·.length)).sum + (us.map getS).length * a.length ≤ 16777216 then .ok (.str (Txt.join a (us.map getS))) q else .stuck
    | none => .stuck
  | _ => .stuck
open Classical in
noncomputable def mSplit : FS := fun ts q => match ts with
  | [.str a, .str b] => if (b.length == 0) = false ∧ a.length + 2 ≤ sizeLine then .ok (.lst ((Txt.split a b).map T.str)) q else .stuck
  | _ => .stuck
theorem nx_split : NoX mSplit := by
  intro ts q c fs q' h
  unfold mSplit at h
  repeat' split at h
  all_goals cases h
def BNMx (K : PySem.W.Frag) (L : Lx) (F : FS) : V → List V → Hp → VK → Prop := fun x xs H Q => ∃ ν q t ts, SimQ K L ν q H ∧ Rep K L ν H t x ∧ Reps K L ν H ts xs ∧ PostN K L (fun _ _ _ _ => False) [] ν H (F (t :: ts) q) Q
theorem m_split {L : Lx} {X : Cx} : MtR X "str.split" (BNMx X.K L mSplit) := L2.MtR.imp mt_split fun x xs H Q ⟨ν, q, t, ts, sm, r, rr, p⟩ => by
  unfold mSplit at p
  split at p
  · rename_i a b hts
    cases hts
    obtain ⟨y, rfl, ry⟩ := reps_1 rr
    obtain rfl := rep_str r
    obtain rfl := rep_str ry
    split at p
    · rename_i h
      exact ⟨a, b, rfl, rfl, h.1, h.2, fun l hl => PostN.here p sm hl (.lst (strs_reps _))⟩
    · exact p.elim
  · exact p.elim
section
variable {L : Lx} {X : Cx} {o e : Expr} {es : List Expr} {fo : Sm} {fa : Sa} {apos cpos : Pos} {name : Str} {id : String} {F : FS}
theorem smn_rd {K : PySem.W.Frag} {W : WX} {σ : L2.St} {H : Hp} {Q : VK} (nx : NoX F) (q : rdN K L W (sSM F fo fa) σ H Q) : tBMS K "str" (fun _ x xs H Q => BNMx K L F x xs H Q) (rdE K L W fo) (rdA K L W fa) σ H Q := by
  obtain ⟨ν, ρ, q, s, en, p⟩ := q
  unfold sSM at p
  refine ⟨ν, ρ, q, s, en, ?_⟩
  cases e1 : fo ρ q with
  | exc c fs q' => rw [e1] at p; exact p
  | stuck => rw [e1] at p; exact p
  | ok t q1 =>
    rw [e1, bind_ok] at p
    intro ν1 H1 v f1 s1 r1
    replace p := PostN.fut f1 p
    split at p
    · rename_i a
      obtain rfl := rep_str r1
      refine ⟨rfl, ν1, ρ, q1, s1, en.fut f1, ?_⟩
      cases e : fa ρ q1 with
      | ok ts q' =>
        rw [e, bind_ok] at p
        intro ν' H' f s' vs r
        refine ⟨ν', q', .str a, ts, s', .str _, r, ?_⟩
        have p := PostN.fut f p
        cases e2 : F (.str a :: ts) q' with
        | ok t q2 => rw [e2] at p; exact p
        | exc c fs q2 => exact absurd e2 (nx _ _ _ _ _)
        | stuck => rw [e2] at p; exact p
      | exc c fs q' => rw [e] at p; exact p
      | stuck => rw [e] at p; exact p
    · exact p.elim
theorem sn_sm (nx : NoX F) (slot : Slot "str" name id) (hty : typeOf (.builtin id) = pure (.type "method_descriptor")) (hm : MtR X id (BNMx X.K L F)) (ho : SE L X o fo) (ha : SA L X (e :: es) fa)
    (hbase : attributeBase o name X.env (eval o X.env) = eval o X.env := by rfl)
    (hfew : ((backTo cpos (starEach (e :: es) X.env)).all (fun x => !x.1) && (backToKw cpos (keywordEach [] X.env)).all (fun x => x.1.isSome)
      && decide ((e :: es).length + ([] : List Keyword).length + (if ([] : List Keyword).isEmpty then 0 else 1) < 30)) = true := by rfl)
    (hline : (apos.endLine == cpos.line) = true := by rfl) (hs : starEach (e :: es) X.env = (false, eval e X.env) :: starEach es X.env := by rfl) (hplain : (backTo cpos (starEach es X.env)).any (·.1) = false := by rfl) :
    SN L X (.Call (.Attribute o name apos) (e :: es) [] cpos) (sSM F fo fa) :=
  ⟨fun W tk => PE.imp (pe_bmS PySem.F.plainAttrs_str slot hty hm.toS (ho.pe W tk) (ha.pa W tk) hbase hfew hline hs hplain) fun σ H Q q => smn_rd nx q⟩
/-- s.split(t) -/
theorem sn_split (ho : SE L X o fo) (ha : SA L X [e] fa) (hbase : attributeBase o "split" X.env (eval o X.env) = eval o X.env := by rfl)
    (hfew : ((backTo cpos (starEach [e] X.env)).all (fun x => !x.1) && (backToKw cpos (keywordEach [] X.env)).all (fun x => x.1.isSome) && decide (([e] : List Expr).length + ([] : List Keyword).length + (if ([] : List Keyword).isEmpty then 0 else 1) < 30)) = true := by rfl)
    (hline : (apos.endLine == cpos.line) = true := by rfl) (hs : starEach [e] X.env = (false, eval e X.env) :: starEach [] X.env := by rfl) (hplain : (backTo cpos (starEach [] X.env)).any (·.1) = false := by rfl) :
    SN L X (.Call (.Attribute o "split" apos) [e] [] cpos) (sSM mSplit fo fa) :=
  sn_sm nx_split PySem.F.slot_str_split PySem.F.type_str_split m_split ho ha hbase hfew hline hs hplain
end
section
variable {F : FS} {fo : Sm} {fa : Sa} {ρ : TEnv} {q q1 q2 q3 : Store} {a b : Str} {ts : List T} {v : T} {xs : List Str} {n : Nat}
end
end SP

namespace SP
open PySem PySem.Spec PyProof.Rows L2 SeqAt LamX GenW
/-! ### where a token is out: text.replace of written texts -/
section
variable {X : Cx} {pins : List (Addr × Obj)} {σ : L2.St} {H : Hp} {s : Shared}
end
section
variable {X : Cx} {pins : List (Addr × Obj)} {σ : L2.St} {H : Hp} {s : Shared} {elt tg iter : Expr} {ifs : List Expr} {scope : Scope} {own : List (Str × Nat)} {pos : Pos} {T : List NdefX.NTab} {wi : TI} {g : TG} {tt : TT} {te : TE} {Rr : It → Hp → Prop} {A : Around} {u : Value}
end
section
variable {X : Cx} {L : Lx} {st : Stmt} {rest : List Stmt} {e o i tg iter : Expr} {es : List Expr} {f fo fv : Sm} {fa : Sa} {fi : Si} {x name : Str} {id : String} {F : FS} {s1 s2 : Ss} {pos pos' apos cpos p : Pos} {te to : TE}
structure SET (L : Lx) (X : Cx) (e : Expr) (f : Sm) : Prop where
  pe : ∀ W, Takes X W → L2.PET X e (rdE X.K L W f)
structure SNT (L : Lx) (X : Cx) (e : Expr) (f : Sm) : Prop where
  pe : ∀ W, Takes X W → L2.PET X e (rdN X.K L W f)
structure SIT (L : Lx) (X : Cx) (tg iter : Expr) (f : Si) : Prop where
  pi : ∀ W, Takes X W → L2.PIT X tg iter (rdI X.K L W f)
structure SST (L : Lx) (X : Cx) (st : Stmt) (f : Ss) : Prop where
  ps : ∀ W, Takes X W → PassesOwn (model X.prog X.w) X.A X.env X.xe → L2.PST X st (rdS X.K L W f)
structure SSsT (L : Lx) (X : Cx) (st : List Stmt) (f : Ss) : Prop where
  ps : ∀ W, Takes X W → PassesOwn (model X.prog X.w) X.A X.env X.xe → L2.PSsT X st (rdS X.K L W f)
theorem PETimp {t u : TE} (h : L2.PET X e t) (i : ∀ σ H Q, u σ H Q → t σ H Q) : L2.PET X e u := fun pins s σ H Q h0 I x => h pins s σ H Q h0 I (i σ H Q x)
theorem SSsT.of (h : SSs L X rest s2) : SSsT L X rest s2 := ⟨fun W tk hp => L2.PSsT.of (h.ps W tk hp)⟩
/-! replace -/
def sRepl (y z : Str) (fo : Sm) : Sm := fun ρ q => (fo ρ q).bind fun t q1 => match t with
  | .str x => if x.length + (x.length + 1) * z.length ≤ 16777216 then .ok (.str (Txt.replace x y z)) q1 else .stuck
  | _ => .stuck
/-! split -/
theorem SNT.se (h : SNT L X e f) : SET L X e (froz f) := ⟨fun W tk => PETimp (h.pe W tk) fun σ H Q ⟨ν, ρ, q, s, en, p⟩ => ⟨ν, ρ, q, s, en, by
  unfold froz at p
  cases e : f ρ q with
  | ok t q' =>
    rw [e, bind_ok] at p
    intro ν' H' b o ft s' h0 hb r
    split at p
    · rename_i hc
      exact p ν' H' _ ft s'.unhide ((r.tr (Tr.unhide ν' b H')).rep (s'.fz_hidden s ft h0) hb hc)
    · exact p.elim
  | exc c fs q' => rw [e] at p; exact p
  | stuck => rw [e] at p; exact p⟩⟩
/-! for x in a list -/
def iSeqL (f : Sm) : Si := fun ρ q => (f ρ q).bind fun t q1 => match t with
  | .lst ts => .ok ts q1
  | _ => .stuck
/-! sum(.. for ..) -/
/-! name op= e -/
/-! name = "..".join(..): behind it a token is out -/
end
end SP

namespace SP
open PySem PySem.Spec PyProof.Rows L2 SeqAt LamX GenW
/-! ### a joined text is stored: behind it a token is out -/
section
variable {X : Cx} {L : Lx} {rest : List Stmt} {e : Expr} {fa : Sa} {x : Str} {s2 : Ss} {pos pos' apos cpos : Pos}
end
end SP

namespace SP
open PySem PySem.Spec PyProof.Rows L2 SeqAt
/-! ### any, all over two clauses -/
section
variable {α β : Type} {fi : Si} {g g1 : Tg} {te : Sm} {vs vs1 : List Nat} {ρ : TEnv} {q q1 : Store} {en : α → T} {e2 : β → T} {b0 : Bool}
end
/-! ### text.count(text) -/
def mCountS : FS := fun ts q => match ts with
  | [.str a, .str b] => .ok (.int (Txt.count a b)) q
  | _ => .stuck
section
variable {L : Lx} {X : Cx} {o e : Expr} {fo : Sm} {fa : Sa} {apos cpos : Pos}
end
end SP

namespace SPE
open PySem PySem.W PySem.Calls PyProof.Rows
/-! ### sorted of what walks -/
section
variable {prog : Program} {w : World} {A : Around} {E : Value → Shared → Prop} {s : Shared} {T : String} {r d : Addr} {n : Nat} {P : Nat → Value → Prop} {OK : Heap → Prop}
end
end SPE
namespace SP
open PySem PySem.Spec PyProof.Rows L2 SeqAt
/-! ### sorted(d), list(d.values()), d with tuple keys -/
section
variable {L : Lx} {X : Cx} {o e : Expr} {fo : Sm} {fa : Sa} {p pos apos cpos : Pos}
open Classical in
noncomputable def fSortU : FS := fun ts q => match ts with
  | [t] => match dcuAt q t with
    | some kvs => if DatOk (kvs.map (·.1)) ∧ SrtOk (kvs.map (·.1)) ∧ kvs.length ≤ sizeLine then .ok (.lst (sortT (kvs.map (·.1)))) q else .stuck
    | none => .stuck
  | _ => .stuck
end
end SP

namespace SP
open PySem PySem.Spec PyProof.Rows L2 SeqAt
/-! ### list(d.values()), d with tuple keys; sorted(d) applied -/
def tListU (te : TE) : TE := fun σ H Q => te σ H fun x H1 => ∃ d b o kvs, x = .ref d ∧ H1 d = some (DX b o) ∧ ObjU o kvs ∧ kvs.length ≤ sizeLine ∧ ∀ l, H1 l = none → Q (.ref l) (L2.upd H1 l (.lst (kvs.map (·.2))))
section
variable {X : Cx} {e : Expr} {te : TE} {p apos cpos pos : Pos}
end
open Classical in
noncomputable def nValsU (fo : Sm) : Sm := fun ρ q => (fo ρ q).bind fun t q1 => match dcuAt q1 t with
  | some kvs => if kvs.length ≤ sizeLine then .ok (.lst (kvs.map (·.2))) q1 else .stuck
  | none => .stuck
section
variable {L : Lx} {X : Cx} {o : Expr} {fo : Sm} {p apos cpos pos : Pos}
end
section
variable {κ ν : Type} {ek : κ → T} {ev : ν → T} {kvs : List (κ × ν)} {fo : Sm} {ρ : TEnv} {q q1 : Store}
end
end SP

namespace SPF
open PySem PySem.W PySem.Calls PyProof.Rows
/-! ### dict(d), d with tuple keys -/
section
variable {prog : Program} {w : World} {K : Type} [DecidableEq K] {knd : HeapKind prog w K} {A : Around} {E : Value → Shared → Prop} {s : Shared}
end
end SPF
namespace SP
open PySem PySem.Spec PyProof.Rows L2 SeqAt
section
variable {L : Lx} {X : Cx} {e : Expr} {fa : Sa} {p pos : Pos}
/-- a key of whole numbers: its hash -/
def khI : Key → Int
  | .inl i => hashInt i
  | .inr _ => 0
def isInl : Key → Bool
  | .inl _ => true
  | .inr _ => false
def hkL (ks : List Key) : Int := reduceHash (Builtin.Tuple.tupleHashOf (ks.map khI))
def hkT (t : T) : Int := match keyL t with
  | some ks => hkL ks
  | none => 0
def okT (t : T) : Bool := match keyL t with
  | some ks => ks.all isInl
  | none => false
open Classical in
noncomputable def fCopyU : FS := fun ts q => match ts with
  | [t] => match dcuAt q t with
    | some kvs => if (∀ p ∈ kvs, okT p.1 = true) ∧ (kvs.map fun p => hkT p.1).Nodup then .ok (.dcu kvs) q else .stuck
    | none => .stuck
  | _ => .stuck
end
section
variable {κ ν : Type} {ek : κ → T} {ev : ν → T} {kvs : List (κ × ν)} {q : Store}
end
end SP

namespace SP
open PySem PySem.Spec PyProof.Rows L2 SeqAt
/-! ### one sign replaced by another -/
end SP

namespace SP
open PySem PySem.Spec PyProof.Rows L2 SeqAt LamX GenW
/-! ### for p in (written texts): x = x.replace(p, written); while, a token out -/
section
variable {X : Cx} {pins : List (Addr × Obj)} {σ : L2.St} {H : Hp} {s : Shared}
end
/-! written texts, their tokens -/
abbrev kE (p : Str × Nat × Pos) : Expr := .Constant (.str p.1) p.2.1 p.2.2
def itsC : Nat → List Str → List Value
  | _, [] => []
  | t, c :: cs => .str c t :: itsC (t + 1) cs
def tForR (ip ix : Nat) (z : Str) : List Str → TS
  | [] => fun D σ H => D.nx σ H
  | c :: cs => fun D σ H => ∃ a, σ[ix]? = some (some (.str a)) ∧ a.length + (a.length + 1) * z.length ≤ 16777216 ∧ (c == z) = false ∧ tForR ip ix z cs D ((σ.set ip (some (.str c))).set ix (some (.str (Txt.replace a c z)))) H
section
variable {X : Cx} {p x z : Str} {ip ix : Nat} {l : List (Str × Nat × Pos)} {k0 j0 : Nat} {pp tpos p1 p2 p3 apos cpos cz pos1 pos : Pos}
end
end SP

namespace SP
open PySem PySem.Spec PyProof.Rows L2 SeqAt LamX GenW
/-! ### statements, a token out: while, the replacing loop, a def's body -/
section
variable {X : Cx} {L : Lx} {st : Stmt} {rest body : List Stmt} {e : Expr} {s1 s2 fb : Ss} {c : St'} {pos : Pos}
theorem SST.of (h : SS L X st s1) : SST L X st s1 := ⟨fun W tk hp => L2.PST.of (h.ps W tk hp)⟩
/-! the loop that replaces -/
def xForR (ip ix : Nat) (z : Str) : List Str → Ss
  | [] => fun ρ q => .nx ρ q
  | c :: cs => fun ρ q => match ρ[ix]? with
    | some (some (.str a)) => if a.length + (a.length + 1) * z.length ≤ 16777216 ∧ (c == z) = false then xForR ip ix z cs ((ρ.set ip (some (.str c))).set ix (some (.str (Txt.replace a c z)))) q else .stuck
    | _ => .stuck
end
/-! a def's body, where all names are locals -/
section
variable {P : Program} {w : World} {K : PySem.W.Frag} {mg : Str → Option Value} {base : Heap} {L : Lx}
end
end SP

namespace SP
open PySem PySem.Spec PyProof.Rows L2 SeqAt
/-! ### text * number -/
def repS (a : Str) (n : Nat) : Str := ⟨(List.replicate n a.cps).foldl (· ++ ·) #[]⟩
theorem repS_foldl : ∀ (n : Nat) (acc : Array Nat) (a : Str), ((List.replicate n a.cps).foldl (· ++ ·) acc).toList = acc.toList ++ (List.replicate n a.cps.toList).flatten
  | 0, acc, a => by simp
  | n + 1, acc, a => by
    rw [List.replicate_succ, List.foldl_cons, repS_foldl n, List.replicate_succ, List.flatten_cons, Array.toList_append, List.append_assoc]
theorem repS_list (a : Str) (n : Nat) : (repS a n).cps.toList = (List.replicate n a.cps.toList).flatten := by
  unfold repS
  rw [repS_foldl]
  simp
def oMulS : Op2 := fun t u q => match t, u with
  | .str a, .int k => if 1 ≤ k ∧ k ≤ 1000 ∧ a.length ≤ 1000 then .ok (.str (repS a k.toNat)) q else .stuck
  | _, _ => .stuck
theorem nx_oMulS : ∀ t u q c fs q', oMulS t u q ≠ .exc c fs q' := by
  intro t u q c fs q' h
  unfold oMulS at h
  repeat' split at h
  all_goals cases h
theorem str_empty {a : Str} (h : a.length = 0) : a.cps = #[] := by
  have : a.cps.size = 0 := h
  exact Array.eq_empty_of_size_eq_zero this
section
variable {L : Lx} {X : Cx} {a b : Expr} {f g : Sm} {pos : Pos}
theorem os_mulS : OpS L X (binaryOp .Mult) oMulS := by
  rintro pins s σ H x y v u Q I rx ry ⟨ν, q, t, w, sim, rt, rw', pp⟩
  unfold oMulS at pp
  split at pp
  · rename_i t' q2 hq
    split at hq
    · rename_i a k
      split at hq
      · rename_i hz
        cases hq
        obtain rfl := rep_str rt
        obtain rfl := rep_int rw'
        obtain ⟨tx, rfl⟩ := rx
        obtain ⟨ty, rfl⟩ := ry
        obtain ⟨z1, z2, z3⟩ := hz
        have hlen : a.length * k.toNat ≤ 1000 * 1000 := Nat.mul_le_mul z3 (by omega)
        have hsz : ((repS a k.toNat).cps.size) ≤ 1000000 := by
          have e : (repS a k.toNat).cps.size = (repS a k.toNat).cps.toList.length := by simp
          rw [e, repS_list, List.length_flatten, List.map_replicate, List.sum_replicate_nat]
          have : a.cps.toList.length = a.length := by simp [Str.length]
          rw [this, Nat.mul_comm]
          omega
        refine PySem.P.mul_str (by rw [decide_eq_false (by omega), decide_eq_false (by omega)]; rfl) (fun _ _ => ?_) (fun _ _ => ?_) ?_
        · have h3 : (2 : Int) ^ 63 - 1 = 9223372036854775807 := by decide
          rw [h3]
          intro hgt
          have hm := Int.mul_ediv_self_le (x := 9223372036854775807) (k := k) (by omega)
          have hm2 := Int.lt_mul_ediv_self_add (x := 9223372036854775807) (k := k) (by omega)
          generalize (9223372036854775807 : Int) / k = d at *
          have h4 : k * d ≤ k * 1000 := Int.mul_le_mul_of_nonneg_left (by omega) (by omega)
          have h5 : k * 1000 ≤ 1000 * 1000 := Int.mul_le_mul_of_nonneg_right z2 (by omega)
          omega
        · unfold PySem.Builtin.Str.tooLong sizeLine
          exact decide_eq_false (by
            have e : (2 : Nat) ^ 24 = 16777216 := by decide
            omega)
        · rw [if_neg (by omega)]
          have fin : ∀ (z : Str) (t' : Tok) (s' : Shared), z = repS a k.toNat → L2.Inv X pins σ H s' → ∃ v H', L2.Inv X pins σ H' s' ∧ RelV v (.str z t') ∧ Q v H' := fun z t' s' hz I' => ⟨.str z, H, I', ⟨t', rfl⟩, by rw [hz]; exact pp ν H _ (Fut.refl _ _) sim (.str _)⟩
          split
          · rename_i h0
            refine fin a _ _ ?_ I
            rw [Bool.or_eq_true, beq_iff_eq, beq_iff_eq] at h0
            rcases h0 with h0 | h0
            · subst h0
              unfold repS
              simp
            · have e := str_empty h0
              cases a with | mk c =>
              have e : c = #[] := e
              subst e
              unfold repS
              congr 1
              have : ∀ n : Nat, (List.replicate n (#[] : Array Nat)).foldl (· ++ ·) #[] = #[] := fun n => by
                induction n with
                | zero => rfl
                | succ n ih => rw [List.replicate_succ, List.foldl_cons]; exact ih
              exact (this _).symm
          · refine ⟨?_, fin _ _ _ rfl (I.tok _)⟩
            show (repS a k.toNat).cps.size ≤ sizeLine
            exact Nat.le_trans hsz (by decide)
      · cases hq
    · cases hq
  · exact pp.elim
theorem se_mulS (ha : SE L X a f) (hb : SE L X b g) : SE L X (.BinOp a .Mult b pos) (sOp oMulS f g) := se_op os_mulS nx_oMulS ha hb
end
end SP

namespace SP
open PySem PySem.Spec PyProof.Rows L2 SeqAt RT
/-! ### for x in reversed(text) -/
def rsObj (x : Str) (t : Tok) (i : Int) : Obj := { cls := .type "reversed", data := .fields #[.str x t, rawInt i] }
def IsRs (h : Heap) (a : Addr) (x : Str) (t : Tok) (i : Int) : Prop := ∃ o, h.get? a = some o ∧ o.cls = .type "reversed" ∧ o.data = .fields #[.str x t, rawInt i]
theorem IsRs.at {h h' : Heap} {a : Addr} {x : Str} {t : Tok} {i : Int} (z : IsRs h a x t i) (e : ∀ o, h.get? a = some o → h'.get? a = some o) : IsRs h' a x t i := let ⟨o, ho, r⟩ := z; ⟨o, e _ ho, r⟩
section
variable {prog : Program} {w : World} {A : Around} {E : Value → Shared → Prop} {s : Shared}
theorem IsRs.typeIs {a : Addr} {x : Str} {t : Tok} {i : Int} (z : IsRs s.heap a x t i) : s.TypeIs (.ref a) "reversed" := let ⟨o, ho, hc, _⟩ := z; ⟨o, ho, hc⟩
end
def ItvS (x : Str) : It :=
  ⟨fun i _ => i < x.length, fun i H v H' => H' = H ∧ ∃ c, x.cps[x.length - 1 - i]? = some c ∧ v = .str ⟨#[c]⟩, fun i _ => x.length ≤ i⟩
def iRevStr (te : TE) : TI := fun σ H R => te σ H fun v H1 => ∃ x, v = .str x ∧ x.length ≤ sizeLine ∧ R (ItvS x) H1
section
variable {X : Cx} {tg : Expr} {L : Lx} {e : Expr} {f : Sm} {p pos : Pos}
def iRevT (f : Sm) : Si := fun ρ q => (f ρ q).bind fun t q' => match t with
  | .str x => if x.length ≤ sizeLine then .ok (x.cps.toList.reverse.map fun c => .str ⟨#[c]⟩) q' else .stuck
  | _ => .stuck
end
end SP

namespace SP
open PySem PySem.Spec L2
/-! ### places in a text -/
def kStr : Expr → Str × Nat × Pos
  | .Constant (.str x) j p => (x, j, p)
  | _ => ("", 0, ⟨0, 0, 0, 0⟩)
def kList : Stmt → List (Str × Nat × Pos)
  | .For _ (.Tuple es _ _) _ _ _ => es.map kStr
  | _ => []
def whB : Stmt → List Stmt
  | .While _ b _ _ => b
  | .For _ _ b _ _ => b
  | .If _ b _ _ => b
  | _ => []
def atS (i : Nat) (l : List Stmt) : Stmt := l.getD i (.Pass ⟨0, 0, 0, 0⟩)
end SP

namespace MD
open PySem PySem.W PySem.Calls PyProof.Rows
/-! ### min(a, b), a and b data -/
section
variable {prog : Program} {w : World} {A : Around} {E : Value → Shared → Prop} {s : Shared}
end
end MD
namespace SP
open PySem PySem.Spec PyProof.Rows L2 SeqAt
open Classical in
noncomputable def fMin2D : FS := fun ts q => match ts with
  | [t, u] => if DatOk [t, u] then .ok (minT t [u]) q else .stuck
  | _ => .stuck
section
variable {L : Lx} {X : Cx} {a e : Expr} {es : List Expr} {fa : Sa} {p p2 pos pos2 : Pos}
end
section
variable {q : Store} {α : Type} {en : α → T}
end
end SP

namespace SP
open PySem PySem.Spec PyProof.Rows L2 SeqAt
/-! ### sorted(dict(pairs)), the keys nested tuples -/
mutual
def nkT : T → Option NestedKey
  | .int i => some (.num i)
  | .str x => some (.text x)
  | .tup ts => (nkTs ts).map .tup
  | _ => none
def nkTs : List T → Option (List NestedKey)
  | [] => some []
  | t :: ts => match nkT t, nkTs ts with
    | some k, some ks => some (k :: ks)
    | _, _ => none
end
section
variable {L : Lx} {X : Cx} {pins : List (Addr × Obj)} {σ : L2.St} {H : Hp} {s : Shared} {ν : Nu}
mutual
theorem nest_is (I : Inv X pins σ H s) : ∀ (t : T) (k : NestedKey) (v : V) (w : Value), nkT t = some k → Rep X.K L ν H t v → RelV v w → NestedIs s.heap k w
  | .int i, k, v, w, e, r, rv => by
    unfold nkT at e
    cases e
    cases r
    obtain ⟨t, rfl⟩ := rv
    exact .int i t
  | .str x, k, v, w, e, r, rv => by
    unfold nkT at e
    cases e
    cases r
    obtain ⟨t, rfl⟩ := rv
    exact .text x t
  | .tup ts, k, v, w, e, r, rv => by
    unfold nkT at e
    cases h : nkTs ts with
    | none => rw [h] at e; cases e
    | some ks =>
      rw [h] at e
      cases e
      obtain ⟨a, xs, rfl, g1, g2⟩ := rep_tup r
      obtain ⟨its, r2, ⟨o, h3, h4, n, h5⟩, _⟩ := I.tuple (g1 ν H (Tr.refl _ _))
      obtain rfl : w = Value.ref a := rv
      exact .tup h3 h4 h5 (by simpa using nest_all I ts ks xs its h g2 r2)
  | .non, k, v, w, e, r, rv => by unfold nkT at e; cases e
  | .bl _, k, v, w, e, r, rv => by unfold nkT at e; cases e
  | .lst _, k, v, w, e, r, rv => by unfold nkT at e; cases e
  | .fz _, k, v, w, e, r, rv => by unfold nkT at e; cases e
  | .dct _, k, v, w, e, r, rv => by unfold nkT at e; cases e
  | .dcu _, k, v, w, e, r, rv => by unfold nkT at e; cases e
  | .ins _ _, k, v, w, e, r, rv => by unfold nkT at e; cases e
  | .obj _, k, v, w, e, r, rv => by unfold nkT at e; cases e
theorem nest_all (I : Inv X pins σ H s) : ∀ (ts : List T) (ks : List NestedKey) (xs : List V) (its : List Value), nkTs ts = some ks → Reps X.K L ν H ts xs → Vals xs its → NestedAll s.heap ks its
  | [], ks, xs, its, e, r, rv => by
    unfold nkTs at e
    cases e
    cases r
    cases rv
    exact .nil
  | t :: ts, ks, xs, its, e, r, rv => by
    unfold nkTs at e
    split at e
    · rename_i k ks' h1 h2
      cases e
      cases r with
      | cons hr rr =>
        cases rv with
        | cons hv rv' => exact .cons (nest_is I t k _ _ h1 hr hv) (nest_all I ts ks' _ _ h2 rr rv')
    · cases e
end
end
/-! the pairs, and what a dict makes of them -/
def pairsN : List T → Option (List (NestedKey × T))
  | [] => some []
  | .tup [.tup us, _] :: ts => match nkT (.tup us), pairsN ts with
    | some k, some r => some ((k, .tup us) :: r)
    | _, _ => none
  | _ => none
def dedN (acc : List (NestedKey × T)) (p : NestedKey × T) : List (NestedKey × T) := if (acc.any fun x => decide (x.1 = p.1)) = true then acc else acc ++ [p]
inductive PKs (K : PySem.W.Frag) (L : Lx) (ν : Nu) (H : Hp) : List (NestedKey × T) → List (NestedKey × Addr × Value) → Prop where
  | nil : PKs K L ν H [] []
  | cons {k : NestedKey} {t : T} {b : Addr} {w : Value} {ts : List (NestedKey × T)} {xs : List (NestedKey × Addr × Value)} (h : Rep K L ν H t (.ref b)) (r : PKs K L ν H ts xs) : PKs K L ν H ((k, t) :: ts) ((k, b, w) :: xs)
section
variable {K : PySem.W.Frag} {L : Lx} {ν : Nu} {H : Hp}
theorem PKs.any (k : NestedKey) : ∀ {ts : List (NestedKey × T)} {xs : List (NestedKey × Addr × Value)}, PKs K L ν H ts xs → (ts.any fun p => decide (p.1 = k)) = (atKey xs k).isSome
  | _, _, .nil => rfl
  | _, _, .cons (k := k') (b := b) (w := w) (xs := vs) h r => by
    rw [List.any_cons, PKs.any k r]
    by_cases e : k' = k
    · subst e
      simp [atKey]
    · have e2 : atKey ((k', b, w) :: vs) k = atKey vs k := by simp [atKey, e]
      rw [e2]
      simp [e]
theorem PKs.snoc {k : NestedKey} {b : Addr} {w : Value} {t : T} (h : Rep K L ν H t (.ref b)) : ∀ {ts : List (NestedKey × T)} {xs : List (NestedKey × Addr × Value)}, PKs K L ν H ts xs → PKs K L ν H (ts ++ [(k, t)]) (xs ++ [(k, b, w)])
  | _, _, .nil => .cons h .nil
  | _, _, .cons h' r => .cons h' (PKs.snoc h r)
theorem PKs.mapPut {k : NestedKey} {w : Value} : ∀ {ts : List (NestedKey × T)} {xs : List (NestedKey × Addr × Value)}, PKs K L ν H ts xs → PKs K L ν H ts (xs.map (putAt k w))
  | _, _, .nil => .nil
  | _, _, .cons (k := k') h r => by
    rw [List.map_cons]
    by_cases e : k' = k
    · subst e
      simp only [putAt, if_true]
      exact .cons h (PKs.mapPut r)
    · simp only [putAt, if_neg e]
      exact .cons h (PKs.mapPut r)
theorem PKs.put {k : NestedKey} {b : Addr} {w : Value} {t : T} (h : Rep K L ν H t (.ref b)) {ts : List (NestedKey × T)} {xs : List (NestedKey × Addr × Value)} (r : PKs K L ν H ts xs) : PKs K L ν H (dedN ts (k, t)) (storedH xs k b w) := by
  unfold dedN storedH
  rw [PKs.any k r]
  split
  · exact PKs.mapPut r
  · exact PKs.snoc h r
theorem PKs.all : ∀ {ps : List (NestedKey × T)} {xs : List (NestedKey × Addr × Value)}, PKs K L ν H ps xs → ∀ {acc : List (NestedKey × T)} {ac : List (NestedKey × Addr × Value)}, PKs K L ν H acc ac → PKs K L ν H (ps.foldl dedN acc) (storedAllH ac xs)
  | _, _, .nil, _, _, ra => ra
  | _, _, .cons h r, _, _, ra => PKs.all r (PKs.put h ra)
theorem PKs.length : ∀ {ts : List (NestedKey × T)} {xs : List (NestedKey × Addr × Value)}, PKs K L ν H ts xs → ts.length = xs.length
  | _, _, .nil => rfl
  | _, _, .cons h r => by rw [List.length_cons, List.length_cons, PKs.length r]
end
section
variable {L : Lx} {X : Cx} {pins : List (Addr × Obj)} {σ : L2.St} {H : Hp} {s : Shared} {ν : Nu}
end
def tSDN (K : PySem.W.Frag) (L : Lx) (te : TE) : TE := fun σ H Q => te σ H fun v H1 => ∃ (ν : Nu) (a : Addr) (xs : List V) (us : List T) (ps : List (NestedKey × T)), v = .ref a ∧ SqL K H1 a xs ∧ Reps K L ν H1 us xs ∧ pairsN us = some ps ∧ ((∀ p ∈ ps, p.1.depth ≤ 8) ∧ DatOk ((ps.foldl dedN []).map (·.2)) ∧ SrtOk ((ps.foldl dedN []).map (·.2))) ∧
  ∀ q ys, H1 q = none → Reps K L ν H1 (sortT ((ps.foldl dedN []).map (·.2))) ys → Q (.ref q) (L2.upd H1 q (.lst ys))
section
variable {L : Lx} {X : Cx}
end
section
variable {L : Lx} {X : Cx} {e : Expr} {fe : Sm} {p p2 pos pos2 : Pos}
open Classical in
noncomputable def nSDN (fe : Sm) : Sm := fun ρ q => (fe ρ q).bind fun t q1 => match lstAt q1 t with
  | some us => match pairsN us with
    | some ps => if (∀ p ∈ ps, p.1.depth ≤ 8) ∧ DatOk ((ps.foldl dedN []).map (·.2)) ∧ SrtOk ((ps.foldl dedN []).map (·.2)) then .ok (.lst (sortT ((ps.foldl dedN []).map (·.2)))) q1 else .stuck
    | none => .stuck
  | none => .stuck
end
end SP

namespace SP
open PySem PySem.Spec PyProof.Rows L2 SeqAt LamX
/-! ### what is never come to; a meaning made poorer -/
def xStk : Ss := fun _ _ => .stuck
def sStk : Sm := fun _ _ => .stuck
section
variable {L : Lx} {X : Cx}
theorem ss_stk {st : Stmt} : SS L X st xStk := ⟨fun W tk hp => ⟨fun pins s σ H D I h => by
  obtain ⟨ν, ρ, q, _, _, p⟩ := h
  exact p.elim⟩⟩
/-- g says what f says, or nothing -/
def Less {α : Type} (g f : TEnv → Store → R α) : Prop := ∀ ρ q, g ρ q = .stuck ∨ g ρ q = f ρ q
def LessO (g f : Op2) : Prop := ∀ t u q, g t u q = .stuck ∨ g t u q = f t u q
def LessF (g f : FS) : Prop := ∀ ts q, g ts q = .stuck ∨ g ts q = f ts q
theorem Less.postE {K : PySem.W.Frag} {g f : Sm} (r : Less g f) {W : WX} {σ : L2.St} {H : Hp} {Q : VK} (h : rdE K L W g σ H Q) : rdE K L W f σ H Q := by
  obtain ⟨ν, ρ, q, s, en, p⟩ := h
  refine ⟨ν, ρ, q, s, en, ?_⟩
  rcases r ρ q with e | e
  · rw [e] at p; exact p.elim
  · rw [← e]; exact p
theorem SE.sub {e : Expr} {f g : Sm} (h : SE L X e f) (r : Less g f) : SE L X e g := ⟨fun W tk => PE.imp (h.pe W tk) fun σ H Q p => r.postE p⟩
theorem SN.sub {e : Expr} {f g : Sm} (h : SN L X e f) (r : Less g f) : SN L X e g := ⟨fun W tk => PE.imp (h.pe W tk) fun σ H Q p => by
  obtain ⟨ν, ρ, q, s, en, p⟩ := p
  refine ⟨ν, ρ, q, s, en, ?_⟩
  rcases r ρ q with e | e
  · rw [e] at p; exact p.elim
  · rw [← e]; exact p⟩
theorem ST.sub {e : Expr} {f g : St'} (h : ST L X e f) (r : Less g f) : ST L X e g := ⟨fun W tk => PT.imp (h.pt W tk) fun σ H Q p => by
  obtain ⟨ν, ρ, q, s, en, p⟩ := p
  refine ⟨ν, ρ, q, s, en, ?_⟩
  rcases r ρ q with e | e
  · rw [e] at p; exact p.elim
  · rw [← e]; exact p⟩
theorem SI.sub {tg e : Expr} {f g : Si} (h : SI L X tg e f) (r : Less g f) : SI L X tg e g := ⟨fun W tk => PI.imp (h.pi W tk) fun σ H Q p => by
  obtain ⟨ν, ρ, q, s, en, p⟩ := p
  refine ⟨ν, ρ, q, s, en, ?_⟩
  rcases r ρ q with e | e
  · rw [e] at p; exact p.elim
  · rw [← e]; exact p⟩
end
theorem less_bind {α β : Type} {r : R α} {k1 k2 : α → Store → R β} (h : ∀ a q, k1 a q = .stuck ∨ k1 a q = k2 a q) : r.bind k1 = .stuck ∨ r.bind k1 = r.bind k2 := by
  cases r with
  | ok a q => exact h a q
  | exc c fs q => exact .inr rfl
  | stuck => exact .inl rfl
theorem less_op {g f : Op2} (r : LessO g f) (fo fi : Sm) : Less (sOp g fo fi) (sOp f fo fi) := fun ρ q => by
  show (fo ρ q).bind _ = _ ∨ (fo ρ q).bind _ = (fo ρ q).bind _
  exact less_bind fun t q1 => less_bind fun u q2 => r t u q2
end SP

namespace SPI
open PySem PySem.Spec PyProof.Rows L2 SeqAt LamX SP
/-! ### the pairs of a dict where no written tuple takes them -/
section
variable {prog : Program} {w : World} {M : Model} {A : Around} {E : Value → Shared → Prop} {s : Shared}
/-- an iterator over pairs, whatever it gave last -/
def itmG (d : Addr) (t fl : Value) (i n ep : Nat) (ok ov : Value) : Obj := DVw.itOb "dict_itemiterator" #[t, fl, .ref d, .int i 0, .int n 0, .int ep 0, ok, ov]
def LastOk (t : Value) : Prop := t = .none ∨ ∃ a : Addr, t = rawInt a
end
end SPI

namespace SP
open PySem PySem.Spec PyProof.Rows L2 SeqAt LamX
/-! ### min(d.items(), key=..) -/
open Classical in
noncomputable def sMinKI (i : Nat) (fo : Sm) (fb : Sm) : Sm := fun ρ q => (fo ρ q).bind fun t q1 => match t with
  | .dct kvs => match kvs.map (fun p => T.tup [p.1, p.2]) with
    | (t0 :: ts) => match keyRun i fb ρ (t0 :: ts) q1 with
      | .ok (k0 :: ks) q2 => if DatOk (k0 :: ks) then .ok (minKF (t0, k0) (ts.zip ks)).1 q2 else .stuck
      | _ => .stuck
    | _ => .stuck
  | _ => .stuck
section
variable {L : Lx} {X : Cx} {e : Expr} {params : Arguments} {body : Expr} {scope : Scope} {x : Str} {i k : Nat} {fo : Sm} {fb : Sm} {p lpos pos apos cpos kpos : Pos}
end
end SP

namespace PySem
namespace RowX
open PySem.W PySem.Calls PyProof.Rows PySem.HandSPX
/-! ### an own error whose __init__ says super().__init__(text) and keeps a row -/
def rowA (p1 p2 : Pos) : Arguments := { posonlyargs := [], args := [{ arg := "self", annotation := none, pos := p1 }, { arg := "row", annotation := none, pos := p2 }], vararg := none, kwonlyargs := [], kw_defaults := [], kwarg := none, defaults := [] }
def rowS (m : Str) (j : Nat) (a b c d e f : Pos) : Stmt := .Expr (.Call (.Attribute (.Call (.Name "super" a) [] [] b) "__init__" c) [.Constant (.str m) j d] [] e) f
def rowT (g h i k : Pos) : Stmt := .Assign [.Attribute (.Name "self" g) "row" h] (.Name "row" i) k
structure ScOk (sc : Scope) : Prop where
  k : sc.kind = .function
  g : sc.isGenerator = false
  c : sc.isCoroutine = false
  nc : ∀ x ∈ sc.names, x.2 ≠ .cell
  sup : sc.names.lookup ("super" : Str) = some .globalImplicit
  cls : sc.names.lookup ("__class__" : Str) = some .free
  slf : sc.names.lookup ("self" : Str) = some .local
  row : sc.names.lookup ("row" : Str) = some .local
structure RowTxt (P : Program) (K : Frag) (C fI : Addr) : Prop where
  cls : ∃ nm q N bs bm sn sub ab col dd k0 k1 k2 k3 k5, K.lookup C = some (excClassObj nm q C N bs bm true sn sub ab col dd k0 k1 k2 k3 k5 "ValueError.__new__") ∧ refsVE bm = true
  sa : findIn K (.ref C) "__setattr__" = some (some (.builtin "object.__setattr__"))
  ga : findIn K (.ref C) "__getattribute__" = some (some (.builtin "BaseException.__getattribute__"))
  gg : findIn K (.ref C) "__getattr__" = some none
  noN : findIn K (.ref C) "row" = some none
  iC : findIn K (.ref C) "__init__" = some (some (.ref fI))
  tC : typeIn K (.ref fI) = some (.type "function")
  kC : keepIn K (.ref C) = true
  exC : subIn K (.ref C) (.type "BaseException") = some true
  tyC : typeIn K (.ref C) = some (.type "type")
  hdC : hasDictIn K C = true
  sup : ks_superIn K C C "__init__" = some (some (.builtin "ValueError.__init__"))
  veC : subIn K (.ref C) (.type "ValueError") = some true
  me : mroIn K C (.ref C) = some true
  op : nsIn K cStatics "thirdparty.any" = some none
  top : (P.main.scope.names.lookup ("super" : Str)).isSome = false
  fn : ∃ (oc : Value) (od : Option Addr) (osl : Array (Option Value)) (nm qual : Str) (sc : Scope) (doc pm ct : Value) (an : Option Addr) (cda cc : Addr) (p1 p2 a b c d e f g h i k : Pos) (m : Str) (j : Nat),
    (c.endLine == e.line) = true ∧ K.lookup fI = some ⟨oc, od, .func (ksFn nm qual (rowA p1 p2) [rowS m j a b c d e f, rowT g h i k] sc .none .none doc pm an (.ref cda) ct cc), osl⟩ ∧ codeIn K (.ref cda) qual = true ∧ ScOk sc ∧
    (∃ (oc2 : Value) (od2 : Option Addr) (vs : Array Value) (sl2 : Array (Option Value)) (file : Str) (tf : Tok), K.lookup cda = some ⟨oc2, od2, .fields vs, sl2⟩ ∧ vs[2]? = some (.str file tf) ∧ ((P.main.file : Str) == file) = true) ∧
    ∃ (oc3 : Value) (od3 : Option Addr) (sl3 : Array (Option Value)), K.lookup cc = some ⟨oc3, od3, .cell (some (.ref C)), sl3⟩
theorem one_size (v : Value) : [v].length ≤ sizeLine := by
  rw [sizeLine_eq]
  exact (by decide : 1 ≤ 16777216)
/-- what __init__ leaves of a fresh exception at x -/
structure InitEnd (h h' : Heap) (x C dx : Addr) (v : Value) : Prop where
  keep : ∀ b o, b ≠ x → h.get? b = some o → h'.get? b = some o
  obj : ∃ t1 : Addr, h'.get? x = some { cls := .ref C, dict := some dx, data := .fields #[.ref t1, .none, .none, .none, .bool false, .none] }
  dbig : h.objs.size ≤ dx
  dne : dx ≠ x
  ns : h'.Ns1 dx (fun y => if y = "row" then some v else none)
/-- a made one -/
structure OwnMade (h h' : Heap) (e C d : Addr) (v : Value) : Prop where
  keep : ∀ b o, h.get? b = some o → h'.get? b = some o
  new : h.objs.size ≤ e
  obj : ∃ oe vs, h'.get? e = some oe ∧ oe.cls = .ref C ∧ oe.dict = some d ∧ oe.data = .fields vs ∧ vs[1]? = some .none ∧ vs[2]? = some .none
  dbig : h.objs.size ≤ d
  dne : d ≠ e
  ns : h'.Ns1 d (fun y => if y = "row" then some v else none)
structure Glb (h : Heap) : Prop where
  mg : ∃ mg, h.Ns mainGlobals mg ∧ mg "super" = none
  mb : ∃ mb, h.Ns builtinsNs mb ∧ mb "super" = bootBuiltins "super"
theorem Glb.keeps {h h' : Heap} (g : Glb h) (k : ∀ b o, h.get? b = some o → h'.get? b = some o) : Glb h' := by
  obtain ⟨⟨m, h1, h2⟩, ⟨n, h3, h4⟩⟩ := g
  exact ⟨⟨m, h1.keeps k, h2⟩, ⟨n, h3.keeps k, h4⟩⟩
section
variable {prog : Program} {w : World} {A : Around} {E : Value → Shared → Prop} {R : Result → Shared → Prop} {s : Shared} {K : Frag} {C fI : Addr}
theorem at_Meth {M : Model} {c : Code} {env : Env} {o : Expr} {name : Str} {apos pos : Pos} {args : List Expr} {Q : Value → Shared → Prop} (hfew : methodCallForm (args.length + ([] : List Keyword).length) (backTo pos (starEach args env)) (backToKw pos (keywordEach [] env)) = true) (hline : (apos.endLine == pos.line) = true)
    (h : wpAt M A c (attributeBase o name env (eval o env)) (fun ov s₁ => ∀ pl, wpAny M A (getMethod ov name pl) (fun fx s₂ => wpAny M A (callWith pos fx.1 fx.2 (backTo pos (starEach args env)) []) Q E s₂) E s₁) E s) :
    wpAt M A c (eval (.Call (.Attribute o name apos) args [] pos) env) Q E s := by
  rw [arm_eval_Call]
  refine wpAt_bind (PySem.ks_wpAt_mono h (fun ov s₁ h₁ => wpAt_of_wpAny (wpAny_bind (wpAny_standAt ?_))) fun _ _ x => x)
  have hpos : methodCallPos true o env apos pos = pure pos := by unfold methodCallPos; simp [hline]
  unfold methodCall
  rw [hfew]
  refine wpAny_bind (wpAny_holding ?_)
  refine wpAny_mono (h₁ _) (fun fx s₂ h₂ => ?_) fun _ _ x => x
  exact wpAny_bind (wpAny_of_eq hpos h₂)
theorem cw1 {M : Model} {pos : Pos} {u x : Addr} {i : String} {env : Env} {e : Expr} {rest : List Expr} {Q : Value → Shared → Prop}
    (h : wpAny M A (spliced (backTo pos (starEach (e :: rest) env))) (fun vs s₁ => KxsAt i u x s₁.heap ∧ wpAny M A (call (.ref u) vs) Q E s₁) E s)
    (he : starEach (e :: rest) env = (false, eval e env) :: starEach rest env := by rfl) (hplain : (backTo pos (starEach rest env)).any (·.1) = false := by rfl) :
    wpAny M A (callWith pos (.ref u) [] (backTo pos (starEach (e :: rest) env)) []) Q E s := by
  rw [he] at h ⊢
  refine kxs_callWith (i := i) (x := x) (by show (false || (backTo pos (starEach rest env)).any (·.1)) = false; rw [hplain]; rfl) ?_
  exact evalArgs_plain h
/-- the wrapper of ValueError.__init__ called on a fresh exception -/
theorem call_mw {u e t0 : Addr} {rest : List Value} {nm q : Str} {N : Addr} {bs bm : List Value} {hdct : Bool} {sn : List Str} {sub : List Value} {ab : Bool} {col : Option Bool} {dd : Option Addr} {k0 k1 k2 k3 k5 : Option Value} {Q : Value → Shared → Prop} (hu : s.heap.get? u = some (kxs_mw "ValueError.__init__" e))
    (hC : s.heap.get? C = some (excClassObj nm q C N bs bm hdct sn sub ab col dd k0 k1 k2 k3 k5 "ValueError.__new__")) (he : s.heap.get? e = some (excO C t0)) (hz : rest.length ≤ sizeLine)
    (h : ∀ t' h', (∀ b o, b ≠ e → s.heap.get? b = some o → h'.get? b = some o) → h'.get? e = some (excO C t') → Q .none { s with heap := h' }) :
    wpAny (model prog w) A (call (.ref u) rest) Q E s := by
  obtain ⟨hh, g, d, tk, os⟩ := s
  refine wpAny_call (codeAny_of_tree ?_)
  show wpAny _ A.in1 (callAny (.ref u) ⟨rest, []⟩) _ _ _
  simp only [callAny]
  refine wpAny_bind (wpAny_load hu ?_)
  simp only [kxs_mw, show (Value.type "method-wrapper" == Value.type "method" || Value.type "method-wrapper" == Value.type "builtin_function_or_method" || Value.type "method-wrapper" == Value.type "method-wrapper") = true by decide, if_true]
  refine KFB.if_so (by decide) ?_
  refine wpAny_bind (check_bound_init PySem.F.excBase_ValueError.toExcCallFacts hC he rfl ?_)
  refine wpAny_bind (wpAny_pure (wpAny_pure ?_))
  refine ⟨plainId_quiet PySem.F.excBase_ValueError.init.plain _, codeAny_builtin PySem.F.excBase_ValueError.initEntry ?_⟩
  exact exc_init_tree (cls := .ref C) (t0 := t0) (dv := none) (c2 := .none) (c3 := .none) (b4 := .bool false) he hz fun h' k e' _ => h _ h' k e'
theorem row_init (T : RowTxt prog K C fI) {x t0 : Addr} {v : Value} (X : K.In s.heap) (hlim : s.heap.NoLimit) (G : Glb s.heap) (hx : s.heap.get? x = some (excO C t0)) (hnx : K.lookup x = none) (hroom : A.depth < recursionLimit)
    (hq : ∀ h' tk dx, InitEnd s.heap h' x C dx v → R (.ok (.ret .none)) { s with heap := h', toks := tk }) :
    codeAny (model prog w) A (.call (.ref fI) ⟨[.ref x, v], []⟩) R s := by
  obtain ⟨oc, od, osl, nm, qual, sc, doc, pm, ct, an, cda, cc, p1, p2, a, b, c, d, e, f, g, h, i, k, m, j, hline, ho, hcd, S, ⟨oc2, od2, vs, sl2, file, tf, hco, hvs, hfile⟩, ⟨oc3, od3, sl3, hcell⟩⟩ := T.fn
  obtain ⟨kd, names, isG, isC, mr⟩ := sc
  obtain rfl : kd = .function := S.k
  obtain ⟨cn, q, N, bs, bm, sn, sub, ab, col, dd, k0, k1, k2, k3, k5, hC, hbm⟩ := T.cls
  have hcl : clsIn K C = some { name := cn, bases := bs, mro := .ref C :: bm, ns := N, qualname := q, hasDict := true, slotNames := sn, subclasses := sub, abstract := ab, collection := col, hasDel := false } := by unfold clsIn; rw [hC] <;> rfl
  refine ks_codeAny_call_defAt (fd := ksFn nm qual (rowA p1 p2) [rowS m j a b c d e f, rowT g h i k] ⟨.function, names, isG, isC, mr⟩ .none .none doc pm an (.ref cda) ct cc) (body := [rowS m j a b c d e f, rowT g h i k]) (binds := [("self", .ref x), ("row", v)]) hroom (X _ _ ho) rfl hlim (codeRec_of X hcd) rfl (BindsTo.of_eq (by first | rfl | with_unfolding_all rfl)) S.nc (fun y hy => ?_) (fun h₁ hn k₁ => ?_) S.c S.g S.k
  · rcases List.mem_cons.mp hy with rfl | hy
    · exact S.slf
    · rw [List.mem_singleton] at hy
      subst hy
      exact S.row
  · have X₁ : K.In h₁ := X.keeps k₁
    have G₁ := G.keeps k₁
    have hx₁ := k₁ _ _ hx
    have hxL : s.heap.objs.size ≠ x := Nat.ne_of_gt (Heap.lt_size hx)
    obtain ⟨⟨mg, hmg, hsup⟩, ⟨mb, hmb, hsb⟩⟩ := G₁
    have hD : h₁.get? C = some (excClassObj cn q C N bs bm true sn sub ab col dd k0 k1 k2 k3 k5 "ValueError.__new__") := X₁ _ _ hC
    refine ks_wpAt_execs_cons (ks_wpAt_Expr_any (at_Meth rfl hline (ks_wpAt_super_base (f := fI) (cc := cda) (ar := { arg := "self", annotation := none, pos := p1 }) (vs := vs) (file := file) (tf := tf) S.sup S.cls (by decide) rfl (X₁ _ _ ho) rfl rfl rfl (X₁ _ _ hco) rfl hvs hfile T.top ?_)))
    refine ks_loadName_global S.k S.sup (loadGlobal_builtin hmg hsup hmb (hsb.trans (by rfl)) ⟨rfl, ?_⟩)
    refine wpAny_loadName_free S.k S.cls rfl ⟨_, X₁ _ _ hcell, rfl⟩ ?_
    refine wpAny_loadName_local S.k S.slf hn (v := .ref x) rfl ?_
    refine ks_wpAny_isType_cls hD rfl ⟨rfl, ?_⟩
    refine ks_wpAny_call_super hD rfl hx₁ rfl (fun c e => nomatch e) (looks_mroIn X₁ T.me) (fun h2 hso k2 => ?_)
    have X₂ : K.In h2 := X₁.keeps k2
    have hx₂ := k2 _ _ hx₁
    have I2 : InstAt h2 x (excO C t0) C none := ⟨hx₂, rfl, rfl, trivial⟩
    intro pl
    have hmr : Looks (model prog w) h2 (mroOf (.ref C)) (.ref C :: bm) := fun A Q E s k q => wpAny_bind ((looks_clsIn X₂ hcl) A _ E s k (wpAny_pure q))
    have hsu := T.sup
    unfold ks_superIn at hsu
    rw [hcl] at hsu
    refine kxs_getMethod kxs_ValueError hso (looks_opaque X₂ T.op) hmr rfl X₂ hsu (I2.type.andThen (looks_subIn X₂ T.veC)) (ks_ne X₂ I2 hcl) (by decide) ?_
    refine cw1 (i := "ValueError.__init__") (x := x) ?_
    show wpAny _ _ (spliced ((false, eval (.Constant (.str m) j d) _) :: backTo e (starEach [] _))) _ _ _
    refine Calls.spliced_cons (Calls.Constant_str (Calls.spliced_nil ?_))
    refine ⟨Heap.get?_push_size _ rfl, ?_⟩
    refine call_mw (Heap.get?_push_size _ rfl) (Heap.get?_push_of_some _ (X₂ _ _ hC)) (Heap.get?_push_of_some _ hx₂) (one_size _) fun t1 h3 k3 hx₃ => ?_
    have up : ∀ b o, b ≠ x → h₁.get? b = some o → h3.get? b = some o := fun b o hb e => k3 b o hb (Heap.get?_push_of_some _ (k2 b o e))
    have X₃ : K.In h3 := fun b o e => up b o (fun z => by rw [z, hnx] at e; cases e) (X₁ b o e)
    have hn₃ := hn.at fun o e => up _ o hxL e
    show wpAt _ _ _ (execs _ _) _ _ _
    refine ks_wpAt_execs_cons (wpAt_of_wpAny (plainObj_wpAny_Assign_Attribute ?_))
    refine ESX.ldL (v := v) hn₃ rfl (ESX.ldL (v := .ref x) hn₃ rfl ?_ rfl S.slf) rfl S.row
    refine set_plain X₃ (ox := excO C t1) (od := none) ⟨hx₃, rfl, rfl, trivial⟩ T.sa ?_
    refine exc_osa X₃ hx₃ hcl (show refsVE (.ref C :: bm) = true from hbm) rfl T.noN (fun h₄ tk₄ dx k₄ dn dne hx₄ hn₄ => ?_)
    show wpAt _ _ _ (execs _ _) _ _ _
    have z : s.heap.objs.size ≤ h3.objs.size := by
      obtain ⟨oL, _, _, hL, _⟩ := hn₃
      exact Nat.le_of_lt (Heap.lt_size hL)
    exact wpAt_of_wpAny (wpAny_execs_nil (hq h₄ tk₄ dx ⟨fun b o hb e => k₄ b o hb (up b o hb (k₁ b o e)), ⟨t1, hx₄⟩, Nat.le_trans z dn, dne, hn₄⟩))
theorem row_made (T : RowTxt prog K C fI) {v : Value} (X : K.In s.heap) (hlim : s.heap.NoLimit) (G : Glb s.heap) (hroom : A.depth + 1 < recursionLimit)
    (hq : ∀ h' tk e d, OwnMade s.heap h' e C d v → R (.ok (.ret (.ref e))) { s with heap := h', toks := tk }) :
    codeAny (model prog w) A (.call (.ref C) ⟨[v], []⟩) R s := by
  obtain ⟨nm, q, N, bs, bm, sn, sub, ab, col, dd, k0, k1, k2, k3, k5, hC, hbm⟩ := T.cls
  obtain ⟨hp, g, dr, tk, os⟩ := s
  have k : ∀ b o, hp.get? b = some o → ((hp.push (kdv_tup [v])).push (excO C hp.objs.size)).get? b = some o := fun b o e => Heap.get?_push_of_some _ (Heap.get?_push_of_some _ e)
  have hget : ((hp.push (kdv_tup [v])).push (excO C hp.objs.size)).get? (hp.objs.size + 1) = some (excO C hp.objs.size) := by heap_get
  have hnx : K.lookup (hp.objs.size + 1) = none := by
    cases e : K.lookup (hp.objs.size + 1) with
    | none => rfl
    | some o =>
      have z : hp.get? (hp.objs.size + 1) = some o := X _ _ e
      exact absurd (Nat.lt_of_succ_lt (Heap.lt_size z)) (Nat.lt_irrefl _)
  refine call_own F.excBase_ValueError (fun X => refsVE_contains X bm hbm) (X _ _ hC) (looks_findIn X T.iC) (fun self => bind_fn X self T.tC) (one_size v) ?_
  refine row_init (s := ⟨(hp.push (kdv_tup [v])).push (excO C hp.objs.size), g, dr, tk, os⟩) T (X.keeps k) (hlim.keeps k) (G.keeps k) hget hnx ?_ fun h' tk' dx ⟨k', ⟨t1, hx⟩, dn, dne, hns⟩ => ?_
  · show A.depth + 1 < recursionLimit
    exact hroom
  · have old : ∀ b o, hp.get? b = some o → h'.get? b = some o := fun b o e => k' b o (Nat.ne_of_lt (Nat.lt_succ_of_lt (Heap.lt_size e))) (k b o e)
    have z : hp.objs.size + 1 + 1 ≤ dx := by
      have q := dn
      rw [Heap.size_push, Heap.size_push] at q
      exact q
    exact ⟨rfl, hq h' tk' (hp.objs.size + 1) dx ⟨old, Nat.le_succ _, ⟨_, _, hx, rfl, rfl, rfl, rfl, rfl⟩, Nat.le_trans (Nat.le_trans (Nat.le_succ _) (Nat.le_succ _)) z, dne, hns⟩⟩
end
end RowX
end PySem

namespace SP
open PySem PySem.Spec PyProof.Rows L2 SeqAt LamX
/-! ### raise C(row) -/
theorem relO_row {v : V} {v' : Value} (r : RelV v v') (f : Str) : RelO (List.lookup f [(("row" : Str), v)]) (if f = "row" then some v' else none) := by
  by_cases hw : f = "row"
  · subst hw
    rw [if_pos rfl]
    have q : List.lookup ("row" : Str) [(("row" : Str), v)] = some v := by simp [List.lookup]
    rw [q]
    exact r
  · rw [if_neg hw]
    have qw : (f == ("row" : Str)) = false := by simpa using hw
    have q2 : List.lookup f [(("row" : Str), v)] = none := by simp [List.lookup, qw]
    rw [q2]
    trivial
section
variable {X : Cx} {C fI : Addr}
theorem glb_of {pins : List (Addr × Obj)} {σ : L2.St} {H : Hp} {s : Shared} (I : L2.Inv X pins σ H s) (hs : X.mg "super" = none) : PySem.RowX.Glb s.heap := by
  obtain ⟨mb, h1, h2⟩ := I.mod.blt
  exact ⟨⟨_, I.mod.glob.keeps I.bk, hs⟩, ⟨mb, h1.keeps I.bk, h2 _ (by decide)⟩⟩
/-- C(e) -/
def tMkRow (C : Addr) (ta : TA) : L2.St → Hp → XK → Prop := fun σ H Q => ta σ H fun vs H1 => ∃ v, vs = [v] ∧ ∀ d, H1 d = none → Q (.ref C) (some d) (L2.upd H1 d (.xd [(("row" : Str), v)]))
theorem pmk_row {a : Expr} {ta : TA} {x : Str} {p pos : Pos} {k : Nat} (T : PySem.RowX.RowTxt X.prog X.K C fI) (hm : X.mg x = some (.ref C)) (hs : X.mg "super" = none) (hr : Room k X.A) (ha : PA X [a] ta) (hg : Gl X x) (hdb : (x == ("__debug__" : Str)) = false := by decide)
    (he : starEach (a :: []) X.env = (false, eval a X.env) :: starEach [] X.env := by rfl) (hpl : (backTo pos (starEach [] X.env)).any (·.1) = false := by rfl) :
    PMk X (.Call (.Name x p) [a] [] pos) (tMkRow C ta) := by
  intro pins s σ H Q I h
  refine wpAny_Call_Name_kw (ld_glob I hg hm ?_ hdb)
  refine PySem.W.callWith_K (h₀ := X.base) I.ok.mod.kin T.kC (thn (ha.run pos pins s σ H _ I h) fun us s1 hh => ?_) he hpl
  obtain ⟨vs, H1, I1, r1, v, ev, q1⟩ := hh
  subst ev
  refine ⟨I1.kIn, ?_⟩
  cases r1 with
  | cons rv rn =>
    rename_i v' us'
    cases rn
    show wpAny _ _ (call (.ref C) [v']) _ _ _
    have hlim := I1.nolimit
    have G1 := glb_of I1 hs
    obtain ⟨hp, g, dr, tk, os⟩ := s1
    refine wpAny_call (PySem.RowX.row_made T I1.kIn hlim G1 (by have := hr.dp; omega) fun h' tk' e d M => ?_)
    show MkP X pins σ Q (.ref e) ⟨h', g, dr, tk', os⟩
    obtain ⟨oe, fv, hoe, hc, hd, hdat, h1, h2⟩ := M.obj
    have hns := M.ns
    obtain ⟨G', g1, g2⟩ := restrict h' fun b => decide (b ≠ e)
    have gk : ∀ b, b ≠ e → G'.get? b = h'.get? b := fun b hb => g1 b (decide_eq_true hb)
    have ge : G'.get? e = none := g2 e (by simp)
    have old : ∀ b o, hp.get? b = some o → G'.get? b = some o := fun b o q => (gk b (Nat.ne_of_lt (Nat.lt_of_lt_of_le (Heap.lt_size q) M.new))).trans (M.keep b o q)
    have ob : ObjOk X.prog X.w (L2.upd H1 d (.xd [(("row" : Str), v)])) G' d (.xd [(("row" : Str), v)]) :=
      ⟨_, hns.at (fun o q => (gk d M.dne).trans q), fun f => relO_row rv f⟩
    have J : L2.Inv X pins σ (L2.upd H1 d (.xd [(("row" : Str), v)])) ⟨G', g, dr, tk', os⟩ := I1.laid (t' := tk') old M.dbig ob
    refine ⟨e, oe, fv, ⟨G', g, dr, tk', os⟩, _, .ref C, some d, rfl, J, fun b o q => ?_, ge, hoe, ⟨hc, hd⟩, hdat, h1, ?_, rfl, I1.bare, raises_own T.exC T.tyC, q1 d (I1.hok.fresh M.dbig)⟩
    · by_cases hb : b = e
      · have q' : G'.get? b = some o := q
        rw [hb, ge] at q'; cases q'
      · exact (gk b hb).symm.trans q
    · rw [L2.upd_ne (Ne.symm M.dne)]
      exact I1.hok.fresh M.new
end
open Classical in
def xRaiseR (c : Str) (f : Sm) : Ss := fun ρ q => (f ρ q).to ρ fun t q' => .exc c [("row", t)] ρ q'
section
variable {L : Lx} {X : Cx} {c x : Str} {C fI : Addr} {p pos rpos : Pos} {e : Expr} {f : Sm}
theorem raiseR_rd {K : PySem.W.Frag} {W : WX} {σ : L2.St} {H : Hp} {D : Ends} (hC : L.cl c = some C) (p : rdS K L W (xRaiseR c f) D σ H) : rdE K L W f σ H fun v H1 => ∃ v', [v] = [v'] ∧ ∀ d, H1 d = none → W (.ref C) (some d) σ (L2.upd H1 d (.xd [(("row" : Str), v')])) := by
  obtain ⟨ν, ρ, q, s, en, p⟩ := p
  refine ⟨ν, ρ, q, s, en, ?_⟩
  unfold xRaiseR at p
  cases ef : f ρ q with
  | ok t q' =>
    rw [ef, to_ok] at p
    intro ν1 H1 v f1 s1 r
    refine ⟨v, rfl, fun d hd => ?_⟩
    have n1 : New H1 (L2.upd H1 d (.xd [(("row" : Str), v)])) := New.upd hd
    have f2 := f1.trans (n1.fut ν1)
    exact p ν1 _ σ _ _ f2 (s1.new n1) (en.fut f2) ⟨C, hC, rfl, .inr ⟨d, _, rfl, L2.upd_same, .cons (r.fut (n1.fut ν1)) .nil⟩⟩
  | exc c fs q' => rw [ef] at p; exact fun ν1 H1 cls d f1 s1 x => p ν1 H1 σ cls d f1 s1 (en.fut f1) x
  | stuck => rw [ef] at p; exact p
theorem ss_raiseR {k : Nat} (hc : X.calm = true) (hC : L.cl c = some C) (T : PySem.RowX.RowTxt X.prog X.K C fI) (hm : X.mg x = some (.ref C)) (hs : X.mg "super" = none) (hr : Room k X.A) (hg : Gl X x) (ha : SE L X e f) (hdb : (x == ("__debug__" : Str)) = false := by decide) (he : starEach [e] X.env = (false, eval e X.env) :: starEach [] X.env := by rfl) :
    SS L X (.Raise (some (.Call (.Name x p) [e] [] pos)) none rpos) (xRaiseR c f) :=
  ⟨fun W tk hp => PS.imp (ps_raise hc tk (pmk_row T hm hs hr (pa_cons (ha.pe W tk) pa_nil he) hg hdb he)) fun D σ H p => raiseR_rd hC p⟩
end
end SP

namespace PySem
namespace RowX
open PySem.W PySem.Calls PyProof.Rows PySem.HandSPX
/-! ### the facts of such a class, by a look at the heap -/
def prmB : Arguments → Bool
  | ⟨[], [⟨a, none, _⟩, ⟨b, none, _⟩], none, [], [], none, []⟩ => decide (a = "self") && decide (b = "row")
  | _ => false
theorem prmB_of {a : Arguments} (h : prmB a = true) : ∃ p1 p2, a = rowA p1 p2 := by
  unfold prmB at h
  split at h
  · rw [Bool.and_eq_true, decide_eq_true_eq, decide_eq_true_eq] at h
    obtain ⟨rfl, rfl⟩ := h
    exact ⟨_, _, rfl⟩
  · cases h
def bodB : FuncBody → Bool
  | .stmts [.Expr (.Call (.Attribute (.Call (.Name s _) [] [] _) i c) [.Constant (.str _) _ _] [] e) _, .Assign [.Attribute (.Name sl _) r _] (.Name r2 _) _] =>
    (decide (s = "super") && decide (i = "__init__") && decide (sl = "self")) && (decide (r = "row") && decide (r2 = "row") && (c.endLine == e.line))
  | _ => false
theorem bodB_of {b : FuncBody} (h : bodB b = true) : ∃ m j a b' c d e f g i k l, (c.endLine == e.line) = true ∧ b = .stmts [rowS m j a b' c d e f, rowT g i k l] := by
  unfold bodB at h
  split at h
  · rw [Bool.and_eq_true, Bool.and_eq_true, Bool.and_eq_true, Bool.and_eq_true, Bool.and_eq_true, decide_eq_true_eq, decide_eq_true_eq, decide_eq_true_eq, decide_eq_true_eq, decide_eq_true_eq] at h
    obtain ⟨⟨⟨rfl, rfl⟩, rfl⟩, ⟨⟨rfl, rfl⟩, hl⟩⟩ := h
    exact ⟨_, _, _, _, _, _, _, _, _, _, _, _, hl, rfl⟩
  · cases h
def scB (sc : Scope) : Bool := (decide (sc.kind = .function) && !sc.isGenerator && !sc.isCoroutine && sc.names.all fun x => decide (x.2 ≠ .cell)) && (decide (sc.names.lookup ("super" : Str) = some .globalImplicit) && decide (sc.names.lookup ("__class__" : Str) = some .free) && decide (sc.names.lookup ("self" : Str) = some .local) && decide (sc.names.lookup ("row" : Str) = some .local))
theorem scB_of {sc : Scope} (h : scB sc = true) : ScOk sc := by
  unfold scB at h
  simp only [Bool.and_eq_true, decide_eq_true_eq, Bool.not_eq_true', List.all_eq_true] at h
  obtain ⟨⟨⟨⟨h1, h2⟩, h3⟩, h4⟩, ⟨⟨⟨h5, h6⟩, h7⟩, h8⟩⟩ := h
  exact ⟨h1, h2, h3, fun x m => h4 x m, h5, h6, h7, h8⟩
def fileB (m : Str) (o : Option Value) : Bool := match o with
  | some (.str file _) => m == file
  | _ => false
theorem fileB_of {m : Str} {o : Option Value} (h : fileB m o = true) : ∃ (file : Str) (tf : Tok), o = some (.str file tf) ∧ (m == file) = true := by
  unfold fileB at h
  split at h
  · exact ⟨_, _, rfl, h⟩
  · cases h
def codB (P : Program) (K : Frag) (cda : Addr) : Bool := match K.lookup cda with
  | some ⟨_, _, .fields vs, _⟩ => fileB P.main.file (vs[2]?)
  | _ => false
theorem codB_of {P : Program} {K : Frag} {cda : Addr} (h : codB P K cda = true) : ∃ (oc2 : Value) (od2 : Option Addr) (vs : Array Value) (sl2 : Array (Option Value)) (file : Str) (tf : Tok), K.lookup cda = some ⟨oc2, od2, .fields vs, sl2⟩ ∧ vs[2]? = some (.str file tf) ∧ ((P.main.file : Str) == file) = true := by
  unfold codB at h
  split at h
  · rename_i oc od vs sl e
    obtain ⟨file, tf, e2, e3⟩ := fileB_of h
    exact ⟨_, _, _, _, _, _, e, e2, e3⟩
  · cases h
def celB (K : Frag) (cc C : Addr) : Bool := match K.lookup cc with
  | some ⟨_, _, .cell (some (.ref D)), _⟩ => decide (D = C)
  | _ => false
theorem celB_of {K : Frag} {cc C : Addr} (h : celB K cc C = true) : ∃ (oc3 : Value) (od3 : Option Addr) (sl3 : Array (Option Value)), K.lookup cc = some ⟨oc3, od3, .cell (some (.ref C)), sl3⟩ := by
  unfold celB at h
  split at h
  · rename_i oc od D sl e
    rw [decide_eq_true_eq] at h
    subst h
    exact ⟨_, _, _, e⟩
  · cases h
def fnB (P : Program) (K : Frag) (C fI : Addr) : Bool := match K.lookup fI with
  | some ⟨_, _, .func ⟨_, q, ps, bd, sc, gl, [(x, cc)], .none, .none, _, _, _, .ref cda, _, bn⟩, _⟩ =>
    (prmB ps && bodB bd && scB sc && decide (gl = mainGlobals) && decide (x = "__class__") && decide (bn = builtinsNs)) && (codeIn K (.ref cda) q && codB P K cda && celB K cc C)
  | _ => false
theorem fnB_of {P : Program} {K : Frag} {C fI : Addr} (h : fnB P K C fI = true) : ∃ (oc : Value) (od : Option Addr) (osl : Array (Option Value)) (nm qual : Str) (sc : Scope) (doc pm ct : Value) (an : Option Addr) (cda cc : Addr) (p1 p2 a b c d e f g h i k : Pos) (m : Str) (j : Nat),
    (c.endLine == e.line) = true ∧ K.lookup fI = some ⟨oc, od, .func (ksFn nm qual (rowA p1 p2) [rowS m j a b c d e f, rowT g h i k] sc .none .none doc pm an (.ref cda) ct cc), osl⟩ ∧ codeIn K (.ref cda) qual = true ∧ ScOk sc ∧
    (∃ (oc2 : Value) (od2 : Option Addr) (vs : Array Value) (sl2 : Array (Option Value)) (file : Str) (tf : Tok), K.lookup cda = some ⟨oc2, od2, .fields vs, sl2⟩ ∧ vs[2]? = some (.str file tf) ∧ ((P.main.file : Str) == file) = true) ∧
    ∃ (oc3 : Value) (od3 : Option Addr) (sl3 : Array (Option Value)), K.lookup cc = some ⟨oc3, od3, .cell (some (.ref C)), sl3⟩ := by
  unfold fnB at h
  split at h
  · rename_i oc od nm q ps bd sc gl x cc doc pm an cda ct bn osl e
    rw [Bool.and_eq_true, Bool.and_eq_true, Bool.and_eq_true, Bool.and_eq_true, Bool.and_eq_true, Bool.and_eq_true, Bool.and_eq_true, Bool.and_eq_true, decide_eq_true_eq, decide_eq_true_eq, decide_eq_true_eq] at h
    obtain ⟨⟨⟨⟨⟨⟨h1, h2⟩, h3⟩, rfl⟩, rfl⟩, rfl⟩, ⟨⟨h4, h5⟩, h6⟩⟩ := h
    obtain ⟨p1, p2, rfl⟩ := prmB_of h1
    obtain ⟨m, j, a, b', c, d, e', f, g, i, k, l, hl, rfl⟩ := bodB_of h2
    exact ⟨_, _, _, _, _, _, _, _, _, _, _, _, _, _, _, _, _, _, _, _, _, _, _, _, _, _, hl, e, h4, scB_of h3, codB_of h5, celB_of h6⟩
  · cases h
def xclB (K : Frag) (C : Addr) : Bool := match K.lookup C with
  | some ⟨.type "type", _, .cls cd, sl⟩ => (match cd.mro, sl.toList with
    | .ref C' :: bm, [_, _, _, _, some (.builtin n), _] => decide (C' = C) && decide (n = "ValueError.__new__") && !cd.hasDel && cd.hasDict && refsVE bm
    | _, _ => false)
  | _ => false
theorem xclB_of {K : Frag} {C : Addr} (h : xclB K C = true) : ∃ nm q N bs bm sn sub ab col dd k0 k1 k2 k3 k5, K.lookup C = some (excClassObj nm q C N bs bm true sn sub ab col dd k0 k1 k2 k3 k5 "ValueError.__new__") ∧ refsVE bm = true := by
  unfold xclB at h
  split at h
  · rename_i dd cd sl ho
    split at h
    · rename_i C' bm k0 k1 k2 k3 n k5 hm hs
      simp only [Bool.and_eq_true, decide_eq_true_eq, Bool.not_eq_true'] at h
      obtain ⟨⟨⟨⟨rfl, rfl⟩, hdel⟩, hd⟩, hv⟩ := h
      obtain ⟨nm, bs, mro, ns, qn, hdct, sn, sub, ab, col, del⟩ := cd
      dsimp only at hm hdel hd
      subst hm hdel hd
      obtain ⟨sl⟩ := sl
      dsimp only at hs
      subst hs
      exact ⟨_, _, _, _, _, _, _, _, _, _, _, _, _, _, _, ho, hv⟩
    · cases h
  · cases h
def rowB (P : Program) (K : Frag) (C fI : Addr) : Bool :=
  (xclB K C && fnB P K C fI && decide (findIn K (.ref C) "__setattr__" = some (some (.builtin "object.__setattr__"))) && decide (findIn K (.ref C) "__getattribute__" = some (some (.builtin "BaseException.__getattribute__"))) && decide (findIn K (.ref C) "__getattr__" = some none) && decide (findIn K (.ref C) "row" = some none) &&
    decide (findIn K (.ref C) "__init__" = some (some (.ref fI))) && decide (typeIn K (.ref fI) = some (.type "function"))) && (keepIn K (.ref C) && decide (subIn K (.ref C) (.type "BaseException") = some true) && decide (typeIn K (.ref C) = some (.type "type")) && hasDictIn K C &&
    decide (ks_superIn K C C "__init__" = some (some (.builtin "ValueError.__init__"))) && decide (subIn K (.ref C) (.type "ValueError") = some true) && decide (mroIn K C (.ref C) = some true) && decide (nsIn K cStatics "thirdparty.any" = some none) && !(P.main.scope.names.lookup ("super" : Str)).isSome)
theorem rowB_of {P : Program} {K : Frag} {C fI : Addr} (h : rowB P K C fI = true) : RowTxt P K C fI := by
  unfold rowB at h
  simp only [Bool.and_eq_true, decide_eq_true_eq, Bool.not_eq_true'] at h
  obtain ⟨⟨⟨⟨⟨⟨⟨⟨h1, h2⟩, h3⟩, h4⟩, h5⟩, h6⟩, h7⟩, h8⟩, ⟨⟨⟨⟨⟨⟨⟨⟨h9, h10⟩, h11⟩, h12⟩, h13⟩, h14⟩, h15⟩, h16⟩, h17⟩⟩ := h
  exact ⟨xclB_of h1, h3, h4, h5, h6, h7, h8, h9, h10, h11, h12, h13, h14, h15, h16, h17, fnB_of h2⟩
/-! ### the look, that place of the statics too -/
open He in
def asY (g : Addr → Option Obj) (n : Nat) : List Addr := asD g n ++ [cStatics]
open He in
def obsY (n : Nat) (fa : List Fa) (fn : List DefD) (ts : List Tab) (tf : List Defn) (ex : Frag → Bool) (g : Addr → Option Obj) : AlX := (obsT fa fn ts (frT g (asY g n)), ex (frT g (asY g n)) && tabsB g tf (frT g (asY g n)))
open He in
theorem saysY {n : Nat} {fa : List Fa} {fn : List DefD} {ts : List Tab} {tf : List Defn} {ex : Frag → Bool} {w : World} {h : Heap} (e : obsY n fa fn ts tf ex h.get? = valX fn ts w) : SaysX fa fn ts tf ex w h (frT h.get? (asY h.get? n)) := by
  obtain ⟨e1, e2⟩ := Prod.mk.inj e
  obtain ⟨h1, h2⟩ := Bool.and_eq_true_iff.mp e2
  have key : ∀ p ∈ tf, codeHdIn (frT h.get? (asY h.get? n)) (cT (frT h.get? (asY h.get? n)) p).1 (cT (frT h.get? (asY h.get? n)) p).2 = true ∧ ∃ o, h.get? (cT (frT h.get? (asY h.get? n)) p).2 = some o ∧ emptyTab o = true := fun p hp => by
    obtain ⟨h3, h4⟩ := Bool.and_eq_true_iff.mp (List.all_eq_true.mp h2 p hp)
    refine ⟨h3, ?_⟩
    cases q : h.get? (cT (frT h.get? (asY h.get? n)) p).2 with
    | none => rw [q] at h4; cases h4
    | some o => rw [q] at h4; exact ⟨o, rfl, h4⟩
  refine ⟨e1, h1, fun p hp => (key p hp).1, fun p hp => ?_, fun p hp => ?_⟩
  · obtain ⟨_, o, q, z⟩ := key p hp
    exact frT_none q z
  · obtain ⟨_, o, q, z⟩ := key p hp
    rw [q, emptyTab_eq z]
open He in
def hookY (n : Nat) (fa : List Fa) (fn : List DefD) (ts : List Tab) (tf : List Defn) (ex : Frag → Bool) : Hook where
  α := AlX
  obs := fun s => obsY n fa fn ts tf ex s.heap.get?
  val := fun w => valX fn ts w
  says := fun w h => ∃ K : Frag, K.In h ∧ SaysX fa fn ts tf ex w h K
  of := fun _ _ e => ⟨_, frT_in, saysY e⟩
  keeps := fun _ _ _ ⟨K, hK, c⟩ k => ⟨K, Frag.In.keeps hK k, ⟨c.t, c.more, c.hd, c.out, fun p hp => k _ _ (c.empty p hp)⟩⟩
theorem obsY_eq {n : Nat} {fa : List He.Fa} {fn : List He.DefD} {ts : List He.Tab} {tf : List He.Defn} {ex : Frag → Bool} {g : Addr → Option Obj} {s : Shared} (h : ∀ a, g a = s.heap.get? a) : obsY n fa fn ts tf ex g = (hookY n fa fn ts tf ex).obs s := by
  have e : g = s.heap.get? := funext h
  rw [e] <;> rfl
end RowX
end PySem
namespace SP
open PySem PySem.Spec PyProof.Rows L2 SeqAt LamX
/-- the class BadText of a program -/
class HasRow (P : Program) (K : PySem.W.Frag) : Prop where
  ok : PySem.RowX.RowTxt P K (He.ga K "BadText") (He.ma K (He.ga K "BadText") "__init__")
def Txt.exR (t : Txt) (P : Program) (K : PySem.W.Frag) : Bool := t.ex K && PySem.RowX.rowB P K (He.ga K "BadText") (He.ma K (He.ga K "BadText") "__init__")
theorem says_l {t : Txt} {P : Program} {w : World} {h : Heap} {K : PySem.W.Frag} (c : He.SaysX t.fa t.fn [] t.defns (t.exR P) w h K) : He.SaysX t.fa t.fn [] t.defns t.ex w h K := ⟨c.t, (Bool.and_eq_true_iff.mp c.more).1, c.hd, c.out, c.empty⟩
theorem says_r {t : Txt} {P : Program} {w : World} {h : Heap} {K : PySem.W.Frag} (c : He.SaysX t.fa t.fn [] t.defns (t.exR P) w h K) : HasRow P K := ⟨PySem.RowX.rowB_of (Bool.and_eq_true_iff.mp c.more).2⟩
end SP

namespace SP
open PySem PySem.Spec PyProof.Rows L2 SeqAt LamX
/-! ### meanings that the kernel can work out -/
/-! sorting -/
def insC {α : Type} (le : α → α → Bool) (a : α) : List α → List α
  | [] => [a]
  | b :: t => if le a b = true then a :: b :: t else b :: insC le a t
def srtC {α : Type} (le : α → α → Bool) : List α → List α
  | [] => []
  | a :: l => insC le a (srtC le l)
/-! data -/
mutual
def dtB : T → Nat → Bool
  | .non, _ => true
  | .bl _, _ => true
  | .int _, _ => true
  | .str _, _ => true
  | .tup ts, n => match n with
    | 0 => false
    | n + 1 => dtsB ts n
  | .lst ts, n => match n with
    | 0 => false
    | n + 1 => dtsB ts n
  | _, _ => false
def dtsB : List T → Nat → Bool
  | [], _ => true
  | t :: ts, n => dtB t n && dtsB ts n
end
mutual
theorem dtB_of : ∀ (t : T) (n : Nat), dtB t n = true → Dt n t
  | .non, _, _ => .non
  | .bl _, _, _ => .bl
  | .int _, _, _ => .int
  | .str _, _, _ => .str
  | .tup ts, 0, h => by unfold dtB at h; cases h
  | .tup ts, n + 1, h => .tup (dtsB_of ts n (by unfold dtB at h; exact h))
  | .lst ts, 0, h => by unfold dtB at h; cases h
  | .lst ts, n + 1, h => .lst (dtsB_of ts n (by unfold dtB at h; exact h))
  | .dct _, _, h => by unfold dtB at h; cases h
  | .dcu _, _, h => by unfold dtB at h; cases h
  | .ins _ _, _, h => by unfold dtB at h; cases h
  | .obj _, _, h => by unfold dtB at h; cases h
  | .fz _, _, h => by unfold dtB at h; cases h
theorem dtsB_of : ∀ (ts : List T) (n : Nat), dtsB ts n = true → ∀ t ∈ ts, Dt n t
  | [], _, _, t, m => by cases m
  | u :: ts, n, h, t, m => by
    unfold dtsB at h
    rw [Bool.and_eq_true] at h
    rcases List.mem_cons.mp m with e | m
    · rw [e]; exact dtB_of u n h.1
    · exact dtsB_of ts n h.2 t m
end
def datOkB (ts : List T) : Bool := ts.all datB && (ts.all fun t => ts.all fun u => PySem.W.alike (encT t) (encT u)) && decide (PyData.depthAll (encTs ts) ≤ 40)
def tp1B : T → Bool
  | .tup (_ :: _) => true
  | _ => false
def tpB : T → Bool
  | .tup _ => true
  | _ => false
def srtOkB (ts : List T) : Bool := ts.all tp1B || ts.all fun t => !tpB t
theorem less_if {α : Type} {P : Prop} {inst : Decidable P} {b : Bool} {x : R α} (h : b = true → P) : (if b = true then x else .stuck) = .stuck ∨ (if b = true then x else .stuck) = (if P then x else .stuck) := by
  cases b with
  | true => rw [if_pos rfl, if_pos (h rfl)]; exact .inr rfl
  | false => exact .inl rfl
/-! operators -/
def cmpB (q : Store) (t u : T) : Bool := dtB (deref q t) 50 && dtB (deref q u) 50
theorem cmpB_of {q : Store} {t u : T} (h : cmpB q t u = true) : Cmp q t u := by
  unfold cmpB at h
  rw [Bool.and_eq_true] at h
  exact ⟨dtB_of _ _ h.1, dtB_of _ _ h.2⟩
def oEqC : Op2 := fun t u q => if cmpB q t u = true then .ok (.bl (eqT (deref q t) (deref q u))) q else .stuck
def oNeC : Op2 := fun t u q => if cmpB q t u = true then .ok (.bl (!eqT (deref q t) (deref q u))) q else .stuck
theorem lo_Eq : LessO oEqC oEq := fun t u q => less_if cmpB_of
theorem lo_Ne : LessO oNeC oNe := fun t u q => less_if cmpB_of
def oInC (neg : Bool) : Op2 := fun t u q => match t, u with
  | .str a, .str b => .ok (.bl (strIn a b != neg)) q
  | t, u => match seqAt q u with
    | some us => if (dtB t 50 && dtsB us 50) = true then .ok (.bl (inT t us != neg)) q else .stuck
    | none => .stuck
theorem lo_In (neg : Bool) : LessO (oInC neg) (oIn neg) := fun t u q => by
  have key : ∀ us : List T, (dtB t 50 && dtsB us 50) = true → Dt 50 t ∧ ∀ u ∈ us, Dt 50 u := fun us h => by
    rw [Bool.and_eq_true] at h
    exact ⟨dtB_of _ _ h.1, dtsB_of _ _ h.2⟩
  unfold oInC oIn
  cases t <;> cases u <;> first
    | exact .inr rfl
    | (dsimp only; generalize seqAt q _ = r; cases r with
       | none => exact .inl rfl
       | some us => exact less_if (key us))
def oInAC (neg : Bool) : Op2 := fun t u q => match dctAt q u with
  | some kvs => match keyT t with
    | some _ => .ok (.bl ((dval kvs t).isSome != neg)) q
    | none => .stuck
  | none => oInC neg t u q
theorem lo_InA (neg : Bool) : LessO (oInAC neg) (oInA neg) := fun t u q => by
  unfold oInAC oInA
  cases dctAt q u with
  | some kvs =>
    cases keyT t with
    | some k => exact .inr rfl
    | none => exact .inl rfl
  | none => exact lo_In neg t u q
end SP

namespace SP
open PySem PySem.Spec PyProof.Rows L2 SeqAt LamX
/-! arithmetic -/
def bitB (i : Int) : Bool := decide (-(2 ^ 64) < i) && decide (i < 2 ^ 64)
def oMulC : Op2 := fun t u q => match t, u with
  | .int i, .int j => if (bitB i || bitB j) = true then .ok (.int (i * j)) q else .stuck
  | t, .int k => match lstAt q t with
    | some xs => if (decide (-(2 ^ 63) ≤ k) && decide (k < 2 ^ 63) && decide (xs.length * k.toNat ≤ sizeLine)) = true then .ok (.lst (List.replicate k.toNat xs).flatten) q else .stuck
    | none => .stuck
  | _, _ => .stuck
def oDivC : Op2 := fun t u q => match t, u with
  | .int i, .int j => if (decide (0 < j) && decide (j.natAbs.log2 < 9000)) = true then .ok (.int (i / j)) q else .stuck
  | _, _ => .stuck
def oPowC : Op2 := fun t u q => match t, u with
  | .int i, .int j => if (decide (0 ≤ j) && decide (j ≤ 1000000) && decide (i.natAbs < 2 ^ 64)) = true then .ok (.int (i ^ j.toNat)) q else .stuck
  | _, _ => .stuck
def oLtAC : Op2 := fun t u q => match t, u with
  | .tup a, .tup b => if datOkB [.tup a, .tup b] = true then .ok (.bl (ltD (.tup a) (.tup b))) q else .stuck
  | t, u => oLt t u q
/-! dicts compared -/
def valsB (ks : List (T × T)) : Bool := ks.all fun p => dtB p.2 40
def oEqDC : Op2 := fun t u q => match dctAt q t, dctAt q u with
  | some ks, some ls => if (valsB ks && valsB ls) = true then .ok (.bl (dEq ks ls)) q else .stuck
  | none, none => oEqC t u q
  | _, _ => .stuck
def oNeDC : Op2 := fun t u q => match dctAt q t, dctAt q u with
  | some ks, some ls => if (valsB ks && valsB ls) = true then .ok (.bl (!dEq ks ls)) q else .stuck
  | none, none => oNeC t u q
  | _, _ => .stuck
/-! sorted, min, max -/
def srtB (us : List T) : Bool := datOkB us && srtOkB us && decide (us.length ≤ sizeLine)
def fSortLC : FS := fun ts q => match ts with
  | [t] => match lstAt q t with
    | some us => if srtB us = true then .ok (.lst (srtC leD us)) q else .stuck
    | _ => .stuck
  | _ => .stuck
def fSortSC : FS := fun ts q => match ts with
  | [.tup us] => if srtB us = true then .ok (.lst (srtC leD us)) q else .stuck
  | _ => .stuck
def strsB : List (T × T) → Option (List Str)
  | [] => some []
  | (.str k, _) :: r => (strsB r).map (k :: ·)
  | _ :: _ => none
def fSortDC : FS := fun ts q => match ts with
  | [.dct kvs] => match strsB kvs with
    | some ks => if ks.length < 64 then .ok (.lst (srtC leD (kvs.map (·.1)))) q else .stuck
    | none => .stuck
  | _ => .stuck
def fMinC : FS := fun ts q => match ts with
  | [t] => match seqAt q t with
    | some (x :: us) => if datOkB (x :: us) = true then .ok (minT x us) q else .stuck
    | _ => .stuck
  | _ => .stuck
def fMaxC : FS := fun ts q => match ts with
  | [t] => match seqAt q t with
    | some (x :: us) => if datOkB (x :: us) = true then .ok (maxT x us) q else .stuck
    | _ => .stuck
  | _ => .stuck
/-! by keys -/
def sMinKC (i : Nat) (fa : Sa) (fb : Sm) : Sm := fun ρ q => (fa ρ q).bind fun l q1 => match l with
  | [t] => match walkT t with
    | some (t0 :: ts) => match keyRun i fb ρ (t0 :: ts) q1 with
      | .ok (k0 :: ks) q2 => if datOkB (k0 :: ks) = true then .ok (minKF (t0, k0) (ts.zip ks)).1 q2 else .stuck
      | _ => .stuck
    | _ => .stuck
  | _ => .stuck
def sMinKIC (i : Nat) (fo : Sm) (fb : Sm) : Sm := fun ρ q => (fo ρ q).bind fun t q1 => match t with
  | .dct kvs => match kvs.map (fun p => T.tup [p.1, p.2]) with
    | (t0 :: ts) => match keyRun i fb ρ (t0 :: ts) q1 with
      | .ok (k0 :: ks) q2 => if datOkB (k0 :: ks) = true then .ok (minKF (t0, k0) (ts.zip ks)).1 q2 else .stuck
      | _ => .stuck
    | _ => .stuck
  | _ => .stuck
def srtKB (ks : List T) (n : Nat) : Bool := datOkB ks && srtOkB ks && decide (n ≤ sizeLine)
def nSortKC (i : Nat) (fa : Sa) (fb : Sm) : Sm := fun ρ q => (fa ρ q).bind fun l q1 => match l with
  | [t] => match lstAt q1 t with
    | some ts => match keyRun i fb ρ ts q1 with
      | .ok ks q2 => if srtKB ks ts.length = true then .ok (.lst ((srtC (fun p q : T × T => leD p.2 q.2) (ts.zip ks)).map (·.1))) q2 else .stuck
      | _ => .stuck
    | _ => .stuck
  | _ => .stuck
def nSortKDC (i : Nat) (fa : Sa) (fb : Sm) : Sm := fun ρ q => (fa ρ q).bind fun l q1 => match l with
  | [.dct kvs] => match keyRun i fb ρ (kvs.map (·.1)) q1 with
    | .ok ks q2 => if srtKB ks kvs.length = true then .ok (.lst ((srtC (fun p q : T × T => leD p.2 q.2) ((kvs.map (·.1)).zip ks)).map (·.1))) q2 else .stuck
    | _ => .stuck
  | _ => .stuck
def nSortRvC (f : Sm) : Sm := fun ρ q => (f ρ q).bind fun t q1 => match lstAt q1 t with
  | some us => match intsT us with
    | some ns => .ok (.lst ((srtC dsc ns).map .int)) q1
    | none => .stuck
  | none => .stuck
def nSItemsC (fo : Sm) : Sm := fun ρ q => (fo ρ q).bind fun t q1 => match dctAt q1 t with
  | some kvs => if datOkB (kvs.map prT) = true then .ok (.lst (srtC leD (kvs.map prT))) q1 else .stuck
  | none => .stuck
def nLstRg1C (fa : Sa) : Sm := fun ρ q => (fa ρ q).bind fun ts q' => match ts with
  | [.int n] => if decide (0 ≤ n ∧ n ≤ 16777216) = true then .ok (.lst ((List.range n.toNat).map fun (i : Nat) => .int (0 + (i : Nat)))) q' else .stuck
  | _ => .stuck
end SP

namespace SP
open PySem PySem.Spec PyProof.Rows L2 SeqAt LamX
/-! ### closing, by fuel -/
def combO {α : Type} : List (Option (Option α)) → Option (Option (List α))
  | [] => some (some [])
  | x :: xs => match x, combO xs with
    | some (some a), some (some l) => some (some (a :: l))
    | some _, some _ => some none
    | _, _ => none
def cloC (q : Store) (n : Nat) : Nat → Nat → T → Option (Option T)
  | 0, _, _ => none
  | g + 1, f, t => match t with
    | .non => some (some .non)
    | .bl b => some (some (.bl b))
    | .int i => some (some (.int i))
    | .str s => some (some (.str s))
    | .tup ts => (combO (ts.map (cloC q n g f))).map (·.map .tup)
    | .lst ts => (combO (ts.map (cloC q n g f))).map (·.map .lst)
    | .fz ts => (combO (ts.map (cloC q n g f))).map (·.map .fz)
    | .dct ts => (combO (ts.map fun p => (cloC q n g f p.2).map fun o => o.map fun u => (p.1, u))).map (·.map .dct)
    | .dcu ts => (combO (ts.map fun p => (cloC q n g f p.2).map fun o => o.map fun u => (p.1, u))).map (·.map .dcu)
    | .ins c ts => (combO (ts.map fun p => (cloC q n g f p.2).map fun o => o.map fun u => (p.1, u))).map (·.map (.ins c))
    | .obj k => if k < n then some (some (.obj k)) else match f with
      | 0 => some none
      | f + 1 => match q[k]? with
        | some (some (.lst ts)) => (combO (ts.map (cloC q n g f))).map (·.map .lst)
        | some (some (.dct ts)) => (combO (ts.map fun p => (cloC q n g f p.2).map fun o => o.map fun u => (p.1, u))).map (·.map .dct)
        | some (some (.dcu ts)) => (combO (ts.map fun p => (cloC q n g f p.2).map fun o => o.map fun u => (p.1, u))).map (·.map .dcu)
        | some (some (.ins c ts)) => (combO (ts.map fun p => (cloC q n g f p.2).map fun o => o.map fun u => (p.1, u))).map (·.map (.ins c))
        | _ => some none
section
variable {q : Store} {n : Nat}
theorem combO_cons {α : Type} {x : Option (Option α)} {xs : List (Option (Option α))} {r : Option (List α)} (h : combO (x :: xs) = some r) : ∃ a l, x = some a ∧ combO xs = some l ∧ r = a.bind fun u => l.map (u :: ·) := by
  unfold combO at h
  cases x with
  | none => cases h
  | some a =>
    cases e : combO xs with
    | none => rw [e] at h; cases a <;> cases h
    | some l =>
      rw [e] at h
      refine ⟨a, l, rfl, rfl, ?_⟩
      cases a with
      | none => cases h; rfl
      | some a =>
        cases l with
        | none => cases h; rfl
        | some l => cases h; rfl
theorem cloS_c {g f : Nat} (ih : ∀ t r, cloC q n g f t = some r → clo q n f t = r) : ∀ (ts : List T) (r : Option (List T)), combO (ts.map (cloC q n g f)) = some r → cloS q n f ts = r
  | [], r, h => by cases h; unfold cloS; rfl
  | t :: ts, r, h => by
    obtain ⟨a, l, h1, h2, rfl⟩ := combO_cons h
    unfold cloS
    rw [ih t a h1, cloS_c ih ts l h2]
    cases a <;> cases l <;> rfl
theorem mapO {α β : Type} {x : Option (Option α)} {F : α → β} {a : Option β} (h : (x.map fun o => o.map F) = some a) : ∃ y, x = some y ∧ a = y.map F := by
  cases x with
  | none => cases h
  | some y => cases h; exact ⟨y, rfl, rfl⟩
theorem cloK_c {g f : Nat} (ih : ∀ t r, cloC q n g f t = some r → clo q n f t = r) : ∀ (ts : List (T × T)) (r : Option (List (T × T))), combO (ts.map fun p => (cloC q n g f p.2).map fun o => o.map fun u => (p.1, u)) = some r → cloK q n f ts = r
  | [], r, h => by cases h; unfold cloK; rfl
  | (k, t) :: ts, r, h => by
    obtain ⟨a, l, h1, h2, rfl⟩ := combO_cons h
    obtain ⟨y, h3, rfl⟩ := mapO h1
    unfold cloK
    rw [ih t y h3, cloK_c ih ts l h2]
    cases y <;> cases l <;> rfl
theorem cloF_c {g f : Nat} (ih : ∀ t r, cloC q n g f t = some r → clo q n f t = r) : ∀ (ts : List (Str × T)) (r : Option (List (Str × T))), combO (ts.map fun p => (cloC q n g f p.2).map fun o => o.map fun u => (p.1, u)) = some r → cloF q n f ts = r
  | [], r, h => by cases h; unfold cloF; rfl
  | (k, t) :: ts, r, h => by
    obtain ⟨a, l, h1, h2, rfl⟩ := combO_cons h
    obtain ⟨y, h3, rfl⟩ := mapO h1
    unfold cloF
    rw [ih t y h3, cloF_c ih ts l h2]
    cases y <;> cases l <;> rfl
theorem cloC_eq : ∀ (g f : Nat) (t : T) (r : Option T), cloC q n g f t = some r → clo q n f t = r
  | 0, _, _, _, h => by cases h
  | g + 1, f, t, r, h => by
    have ih : ∀ f t r, cloC q n g f t = some r → clo q n f t = r := fun f t r => cloC_eq g f t r
    unfold cloC at h
    cases t with
    | non => cases h; unfold clo; rfl
    | bl b => cases h; unfold clo; rfl
    | int i => cases h; unfold clo; rfl
    | str s => cases h; unfold clo; rfl
    | tup ts =>
      obtain ⟨y, h1, rfl⟩ := mapO h
      unfold clo
      rw [cloS_c (ih f) ts y h1]
      cases y <;> rfl
    | lst ts =>
      obtain ⟨y, h1, rfl⟩ := mapO h
      unfold clo
      rw [cloS_c (ih f) ts y h1]
      cases y <;> rfl
    | fz ts =>
      obtain ⟨y, h1, rfl⟩ := mapO h
      unfold clo
      rw [cloS_c (ih f) ts y h1]
      cases y <;> rfl
    | dct ts =>
      obtain ⟨y, h1, rfl⟩ := mapO h
      unfold clo
      rw [cloK_c (ih f) ts y h1]
      cases y <;> rfl
    | dcu ts =>
      obtain ⟨y, h1, rfl⟩ := mapO h
      unfold clo
      rw [cloK_c (ih f) ts y h1]
      cases y <;> rfl
    | ins c ts =>
      obtain ⟨y, h1, rfl⟩ := mapO h
      unfold clo
      rw [cloF_c (ih f) ts y h1]
      cases y <;> rfl
    | obj k =>
      dsimp only at h
      cases f with
      | zero =>
        unfold clo
        by_cases c : k < n
        · rw [if_pos c] at h ⊢; cases h; rfl
        · rw [if_neg c] at h ⊢; cases h; rfl
      | succ f =>
        unfold clo
        by_cases c : k < n
        · rw [if_pos c] at h ⊢; cases h; rfl
        · rw [if_neg c] at h ⊢
          dsimp only at h
          cases e : q[k]? with
          | none => rw [e] at h; cases h; rfl
          | some o =>
            cases o with
            | none => rw [e] at h; cases h; rfl
            | some u =>
              rw [e] at h
              cases u with
              | lst ts =>
                obtain ⟨y, h1, rfl⟩ := mapO h
                dsimp only
                rw [cloS_c (ih f) ts y h1]
                cases y <;> rfl
              | dct ts =>
                obtain ⟨y, h1, rfl⟩ := mapO h
                dsimp only
                rw [cloK_c (ih f) ts y h1]
                cases y <;> rfl
              | dcu ts =>
                obtain ⟨y, h1, rfl⟩ := mapO h
                dsimp only
                rw [cloK_c (ih f) ts y h1]
                cases y <;> rfl
              | ins c ts =>
                obtain ⟨y, h1, rfl⟩ := mapO h
                dsimp only
                rw [cloF_c (ih f) ts y h1]
                cases y <;> rfl
              | _ => cases h; rfl
end
/-! the end of a def -/
def keptB (q0 q : Store) : Bool := (q.take q0.length).all fun o => match o with
  | some c => clB q0.length c
  | none => true
theorem keptB_of {q0 q : Store} (h : keptB q0 q = true) : KeptC q0 q := fun i hi => .inr fun c e => by
  have hm : (q.take q0.length)[i]? = some (some c) := by rw [List.getElem?_take_of_lt hi]; exact e
  exact List.all_eq_true.mp h _ (List.mem_of_getElem? hm)
def closeC (q0 : Store) (r : R T) : R T := match r with
  | .ok t q => if keptB q0 q = true then match cloC q q0.length 60 9 t with
      | some (some t') => .ok t' (q.take q0.length)
      | _ => .stuck
    else .stuck
  | .exc c fs q => if keptB q0 q = true then match combO (fs.map fun p => (cloC q q0.length 60 9 p.2).map fun o => o.map fun u => (p.1, u)) with
      | some (some fs') => .exc c fs' (q.take q0.length)
      | _ => .stuck
    else .stuck
  | .stuck => .stuck
theorem closeC_less {q0 : Store} {r : R T} : closeC q0 r = .stuck ∨ closeC q0 r = closeR q0 r := by
  cases r with
  | exc c fs q =>
    unfold closeC closeR
    dsimp only
    cases hk : keptB q0 q with
    | false => exact .inl rfl
    | true =>
      rw [if_pos rfl, if_pos (keptB_of hk)]
      cases e : combO (fs.map fun p => (cloC q q0.length 60 9 p.2).map fun o => o.map fun u => (p.1, u)) with
      | none => exact .inl rfl
      | some o =>
        rw [cloF_c (fun t r h => cloC_eq 60 9 t r h) fs o e]
        cases o with
        | none => exact .inl rfl
        | some fs' => exact .inr rfl
  | stuck => exact .inl rfl
  | ok t q =>
    unfold closeC closeR
    dsimp only
    cases hk : keptB q0 q with
    | false => exact .inl rfl
    | true =>
      rw [if_pos rfl, if_pos (keptB_of hk)]
      cases e : cloC q q0.length 60 9 t with
      | none => exact .inl rfl
      | some o =>
        rw [cloC_eq _ _ _ _ e]
        cases o with
        | none => exact .inl rfl
        | some t' => exact .inr rfl
def runCC (m : Nat) (fb : Ss) : FS := fun ts q => closeC q (endR (fb (env0 m ts) q))
theorem lf_runC (m : Nat) (fb : Ss) : LessF (runCC m fb) (runC m fb) := fun ts q => closeC_less
def sCloseC (f : Sm) : Sm := fun ρ q => closeC q (f ρ q)
theorem ls_Close (f : Sm) : Less (sCloseC f) (sClose f) := fun ρ q => closeC_less
theorem Dk.less {P : Program} {w : World} {K : PySem.W.Frag} {mg : Str → Option Value} {base : Heap} {L : Lx} {p : He.Defn} {k : Nat} {ps : List Str} {F G : FS} (d : Dk P w K mg base L p k ps F) (h : LessF G F) : Dk P w K mg base L p k ps G := by
  obtain ⟨⟨fd, h1, h2⟩, h3⟩ := d
  refine ⟨⟨fd, h1.imp fun vs H Q E z => ?_, h2⟩, h3⟩
  obtain ⟨hl, ν, q, ts, s, r, p⟩ := z
  refine ⟨hl, ν, q, ts, s, r, ?_⟩
  rcases h ts q with e | e
  · rw [e] at p; exact p.elim
  · rw [← e]; exact p
/-! expressions that only read -/
def envO : List (Option T) → Store → Option TEnv
  | [], _ => some []
  | none :: l, q => (envO l q).map (none :: ·)
  | some t :: l, q => match cloC q 0 60 9 t, envO l q with
    | some o, some r => some (o :: r)
    | _, _ => none
def sFzC (f : Sm) : Sm := fun ρ q => match envO ρ q with
  | some ρ' => match f ρ' [] with
    | .ok t _ => if flB t = true then .ok t q else .stuck
    | _ => .stuck
  | none => .stuck
def sFzNC (f : Sm) : Sm := fun ρ q => match envO ρ q with
  | some ρ' => match f ρ' [] with
    | .ok (.lst ts) _ => if flsB ts = true then .ok (.lst ts) q else .stuck
    | _ => .stuck
  | none => .stuck
def tFzC (c : St') : St' := fun ρ q => match envO ρ q with
  | some ρ' => match c ρ' [] with
    | .ok b _ => .ok b q
    | _ => .stuck
  | none => .stuck
end SP

namespace SP
open PySem PySem.Spec PyProof.Rows L2 SeqAt
/-! ### a display whose keys are tuples -/
def pairsK : List (T × T) → Option (List (List Key × T × T))
  | [] => some []
  | (k, v) :: r => match keyL k, pairsK r with
    | some ks, some l => some ((ks, k, v) :: l)
    | _, _ => none
def nDispU (fs : List (Sm × Sm)) : Sm := fun ρ q => match prs fs ρ q with
  | .ok ps q' => match pairsK ps with
    | some kvs => if ps.length ≤ 15 then .ok (.dcu (mergeU kvs)) q' else .stuck
    | none => .stuck
  | _ => .stuck
abbrev PrU (kvs : List (List Key × Addr × V)) (prs : List (List Key × Addr × Value)) : Prop := Paired (fun (kv : List Key × Addr × V) (q : List Key × Addr × Value) => kv.1 = q.1 ∧ kv.2.1 = q.2.1 ∧ L2.RelV kv.2.2 q.2.2) kvs prs
section
variable {X : Cx}
end
section
variable {L : Lx} {X : Cx}
end
/-! statements made poorer -/
section
variable {L : Lx} {X : Cx}
theorem less_tBl {g f : Sm} (r : Less g f) : Less (tBl g) (tBl f) := fun ρ q => by
  show R.bind (g ρ q) _ = _ ∨ R.bind (g ρ q) _ = R.bind (f ρ q) _
  rcases r ρ q with e | e <;> rw [e]
  · exact .inl rfl
  · exact .inr rfl
theorem SS.sub {st : Stmt} {f g : Ss} (h : SS L X st f) (r : ∀ ρ q, g ρ q = .stuck ∨ g ρ q = f ρ q) : SS L X st g := ⟨fun W tk hp => PS.imp (h.ps W tk hp) fun D σ H p => by
  obtain ⟨ν, ρ, q, s, en, p⟩ := p
  refine ⟨ν, ρ, q, s, en, ?_⟩
  rcases r ρ q with e | e
  · rw [e] at p; exact p.elim
  · rw [← e]; exact p⟩
end
end SP

namespace SP
open PySem PySem.Spec PyProof.Rows L2 SeqAt LamX
/-! ### lambdas that are kept in a list, one of them handed on -/
/-- a lambda's object at f -/
def LamO (f : Addr) (q : Str) (params : Arguments) (body : Expr) (scope : Scope) (cl : List (Str × Addr)) (c' : Addr) : HO := .ext fun h => ∃ pm ctv : Value, h.get? f = some (PySem.W.kla_obj "<lambda>" q params body scope cl pm c' ctv)
theorem lamO_ne {f : Addr} {q : Str} {params : Arguments} {body : Expr} {scope : Scope} {cl : List (Str × Addr)} {c' : Addr} (ps : Array Value) : LamO f q params body scope cl c' ≠ .tbl ps := fun z => by
  unfold LamO at z
  cases z
theorem lamO_ok {P : Program} {w : World} {H : Hp} {h : Heap} {f : Addr} {q : Str} {params : Arguments} {body : Expr} {scope : Scope} {cl : List (Str × Addr)} {c' : Addr} {pm ctv : Value} (e : h.get? f = some (PySem.W.kla_obj "<lambda>" q params body scope cl pm c' ctv)) : ObjOk P w H h f (LamO f q params body scope cl c') :=
  ⟨⟨pm, ctv, e⟩, ⟨_, e⟩, fun _ _ ⟨p, t, q⟩ k => ⟨p, t, k _ q⟩⟩
theorem lamO_at {P : Program} {w : World} {H : Hp} {h : Heap} {f : Addr} {q : Str} {params : Arguments} {body : Expr} {scope : Scope} {cl : List (Str × Addr)} {c' : Addr} (hok : HOk P w H h) (e : H f = some (LamO f q params body scope cl c')) : ∃ pm ctv : Value, h.get? f = some (PySem.W.kla_obj "<lambda>" q params body scope cl pm c' ctv) := by
  obtain ⟨z, _, _⟩ := hok f _ e
  exact z
section
variable {X : Cx} {pins : List (Addr × Obj)} {σ : L2.St} {H : Hp} {s : Shared}
theorem lam_makeO {T : List NdefX.NTab} {params : Arguments} {body : Expr} {scope : Scope} {pos : Pos} {E : Value → Shared → Prop} {Q : Value → Shared → Prop} (I : Inv X pins σ H s) (Ct : CTab X T pos "<lambda>") (hT : NdefX.TabsN T H) (hdef : defaultsOf params X.env = ([], []))
    (hfree : ∀ y ∈ scope.names, y.2 = .free → ∃ c, X.env.cells.lookup y.1 = some c)
    (h : ∀ (f c' : Addr) (H1 : Hp) (s' : Shared), Inv X pins σ H1 s' → ExtN H H1 → (∀ b, H1 b = Option.none → H b = Option.none) → NdefX.TabsN T H1 → H f = none →
      H1 f = some (LamO f (X.env.qual ++ "<lambda>") params body scope (cloFrom X.env.cells scope.names []) c') → H1 c' = some (CodeO c' (X.env.qual ++ "<lambda>")) → Q (.ref f) s') :
    wpAny (model X.prog X.w) X.A (eval (.Lambda params body scope pos) X.env) Q E s := by
  obtain ⟨c, P, nm, TB, hcode, hm, hn, hu⟩ := Ct.at_
  obtain ⟨ps, hP, ht, ha⟩ := (show NdefX.TabN H P nm from hT _ hm)
  refine PySem.W.kla_eval hdef ?_
  have bP : s.heap.BuiltinsAt X.mg P := TB.bm.keeps I.bk
  have hP' : s.heap.get? P = some { cls := .none, data := .fields ps } := I.hok P _ hP
  cases hc : codeAmong pos ps.toList with
  | none =>
    refine PySem.W.kla_makeFunction (mg := X.mg) (c := c) (P := P) (ps := ps) (closure_ok hfree) I.ok.glob (I.mod.glob.keeps I.bk) hcode (TB.code.keeps I.bk) hP' ht hc TB.gP bP fun c' ctv h' tk hx hge hlt hrec htb => ?_
    obtain ⟨c2, oc, vs, t, e2, hoc, hd, hv⟩ := hrec
    cases e2
    have nC : H c' = none := I.hok.fresh hge
    have I1 := inv_table (t' := tk) (more := #[rawInt pos.line, rawInt pos.col, .ref c']) (h' := h') I hP (fun b o hb e => hx b o hb e) htb hge ⟨oc, vs, t, hoc, hd, hv⟩
    have hE : ExtN H (L2.upd (L2.upd H P (.tbl (ps ++ #[rawInt pos.line, rawInt pos.col, .ref c']))) c' (CodeO c' (X.env.qual ++ "<lambda>"))) := fun b o e n => by
      rw [upd_ne (ne_of_none e nC), upd_ne (fun z => n ps (Option.some.inj (e.symm.trans (by rw [z]; exact hP))))]
      exact e
    have eL : (ps ++ #[rawInt pos.line, rawInt pos.col, .ref c']).toList = ps.toList ++ [rawInt pos.line, rawInt pos.col, .ref c'] := by simp
    have T1 : NdefX.TabsN T (L2.upd (L2.upd H P (.tbl (ps ++ #[rawInt pos.line, rawInt pos.col, .ref c']))) c' (CodeO c' (X.env.qual ++ "<lambda>"))) := fun p hp => by
      by_cases hb : p.1 = P
      · rw [hu p hp hb, hb]
        refine ⟨_, by rw [upd_ne (ne_of_none hP nC), upd_same], by rw [eL]; exact PySem.TriplesOk_snoc _ _ _ _ ht, fun p' cv hcv => ?_⟩
        rw [eL] at hcv
        rcases NdefX.among_app2 _ ht hcv with z | ⟨z, z1, z2⟩
        · obtain ⟨c0, e1, e2⟩ := ha p' cv z
          exact ⟨c0, e1, hE _ _ e2 codeO_ne⟩
        · refine ⟨c', z, ?_⟩
          rw [← z1, ← z2, hn]
          exact upd_same
      · obtain ⟨ps', a1, a2, a3⟩ := hT p hp
        refine ⟨ps', by rw [upd_ne (ne_of_none a1 nC), upd_ne hb]; exact a1, a2, fun p' cv hcv => ?_⟩
        obtain ⟨c0, e1, e2⟩ := a3 p' cv hcv
        exact ⟨c0, e1, hE _ _ e2 codeO_ne⟩
    have nF := I1.hok.fresh (Nat.le_refl _)
    have I2 := I1.laid (a := h'.objs.size) (o := LamO h'.objs.size (X.env.qual ++ "<lambda>") params body scope (cloFrom X.env.cells scope.names []) c') (h' := h'.push (PySem.W.kla_obj "<lambda>" (X.env.qual ++ "<lambda>") params body scope (cloFrom X.env.cells scope.names []) ((X.mg "__name__").getD .none) c' ctv)) (t' := tk)
      (fun b o e => Heap.get?_push_of_some _ e) (Nat.le_refl _) (lamO_ok (Heap.get?_push_size _ rfl))
    refine h h'.objs.size c' _ _ I2 (fun b o e n => ?_) (fun b e => NdefX.upd_none (NdefX.upd_none (NdefX.upd_none e))) (T1.ext fun b o e => ?_) (I.hok.fresh (Nat.le_trans hge (Nat.le_of_lt hlt))) upd_same ?_
    · have e1 := hE b o e n
      exact (upd_ne (ne_of_none e1 nF)).trans e1
    · exact (upd_ne (ne_of_none e nF)).trans e
    · exact (upd_ne (Nat.ne_of_lt hlt)).trans upd_same
  | some cv =>
    obtain ⟨c', e, hco⟩ := ha pos cv hc
    subst e
    rw [hn] at hco
    refine PySem.W.kla_makeFunctionHit (mg := X.mg) (c := c) (P := P) (ps := ps) (closure_ok hfree) I.ok.glob (I.mod.glob.keeps I.bk) hcode (TB.code.keeps I.bk) hP' ht hc bP fun ctv h' tk hx hsz => ?_
    have I0 : Inv X pins σ H { s with heap := h', toks := tk } := I.kept fun b o e => hx b o e
    have nF : H h'.objs.size = none := I.hok.fresh hsz
    have I2 := I0.laid (a := h'.objs.size) (o := LamO h'.objs.size (X.env.qual ++ "<lambda>") params body scope (cloFrom X.env.cells scope.names []) c') (h' := h'.push (PySem.W.kla_obj "<lambda>" (X.env.qual ++ "<lambda>") params body scope (cloFrom X.env.cells scope.names []) ((X.mg "__name__").getD .none) c' ctv)) (t' := tk)
      (fun b o e => Heap.get?_push_of_some _ e) (Nat.le_refl _) (lamO_ok (Heap.get?_push_size _ rfl))
    exact h h'.objs.size c' _ _ I2 (fun b o e _ => (upd_ne (ne_of_none e nF)).trans e) (fun b e => NdefX.upd_none e) (hT.ext fun b o e => (upd_ne (ne_of_none e nF)).trans e) nF upd_same ((upd_ne (ne_of_none hco nF)).trans hco)
end
structure LD where
  params : Arguments
  body : Expr
  scope : Scope
  pos : Pos
def LD.ex (d : LD) : Expr := .Lambda d.params d.body d.scope d.pos
/-- the lambda d stands at p.1, its code object at p.2 -/
def LamIn (X : Cx) (H : Hp) (d : LD) (p : Addr × Addr) : Prop := H p.1 = some (LamO p.1 (X.env.qual ++ "<lambda>") d.params d.body d.scope (cloFrom X.env.cells d.scope.names []) p.2) ∧ H p.2 = some (CodeO p.2 (X.env.qual ++ "<lambda>"))
theorem LamIn.ext {X : Cx} {H H' : Hp} {d : LD} {p : Addr × Addr} (h : LamIn X H d p) (e : ExtN H H') : LamIn X H' d p := ⟨e _ _ h.1 lamO_ne, e _ _ h.2 codeO_ne⟩
inductive LamsIn (X : Cx) (H : Hp) : List LD → List (Addr × Addr) → Prop
  | nil : LamsIn X H [] []
  | cons {d : LD} {p : Addr × Addr} {ds : List LD} {ps : List (Addr × Addr)} (h : LamIn X H d p) (r : LamsIn X H ds ps) : LamsIn X H (d :: ds) (p :: ps)
theorem LamsIn.ext {X : Cx} {H H' : Hp} (e : ExtN H H') : ∀ {ds : List LD} {ps : List (Addr × Addr)}, LamsIn X H ds ps → LamsIn X H' ds ps
  | _, _, .nil => .nil
  | _, _, .cons h r => .cons (h.ext e) (LamsIn.ext e r)
theorem LamsIn.len {X : Cx} {H : Hp} : ∀ {ds : List LD} {ps : List (Addr × Addr)}, LamsIn X H ds ps → ps.length = ds.length
  | _, _, .nil => rfl
  | _, _, .cons _ r => by rw [List.length_cons, List.length_cons, LamsIn.len r]
theorem LamsIn.get {X : Cx} {H : Hp} : ∀ {ds : List LD} {ps : List (Addr × Addr)}, LamsIn X H ds ps → ∀ {k : Nat} {d : LD}, ds[k]? = some d → ∃ p, ps[k]? = some p ∧ LamIn X H d p
  | _, _, .nil, k, d, e => by cases e
  | _, _, .cons (p := p) h r, 0, d, e => by cases e; exact ⟨p, rfl, h⟩
  | _, _, .cons h r, k + 1, d, e => LamsIn.get (k := k) r e
def tLams (X : Cx) (T : List NdefX.NTab) (ds : List LD) : TA := fun σ H Q => NdefX.TabsN T H ∧ ∀ (ps : List (Addr × Addr)) (H1 : Hp), ExtN H H1 → (∀ b, H1 b = Option.none → H b = Option.none) → NdefX.TabsN T H1 → (∀ p ∈ ps, H p.1 = none) → LamsIn X H1 ds ps → Q (ps.map fun p => V.ref p.1) H1
structure LDok (X : Cx) (T : List NdefX.NTab) (d : LD) : Prop where
  ct : CTab X T d.pos "<lambda>"
  df : defaultsOf d.params X.env = ([], [])
  sc : LamS X.env.scope d.scope
theorem pe_lamO {X : Cx} {T : List NdefX.NTab} {d : LD} (k : LDok X T d) : PE X d.ex (fun σ H Q => NdefX.TabsN T H ∧ ∀ (p : Addr × Addr) (H1 : Hp), ExtN H H1 → (∀ b, H1 b = Option.none → H b = Option.none) → NdefX.TabsN T H1 → H p.1 = none → LamIn X H1 d p → Q (.ref p.1) H1) := by
  refine ⟨fun pins s σ H Q I h => ?_⟩
  obtain ⟨hT, h⟩ := h
  exact lam_makeO I k.ct hT k.df (k.sc.has I.ok) fun f c' H1 s' I1 e n T1 hf h1 h2 => ⟨.ref f, H1, I1, rfl, h (f, c') H1 e n T1 hf ⟨h1, h2⟩⟩
theorem pa_lams {X : Cx} {T : List NdefX.NTab} : ∀ {ds : List LD}, (∀ d ∈ ds, LDok X T d) → PA X (ds.map LD.ex) (tLams X T ds)
  | [], _ => ⟨fun pos pins s σ H Q I h => pa_nil.run pos pins s σ H Q I (h.2 [] H (ExtN.refl H) (fun _ e => e) h.1 (fun p m => by cases m) .nil)⟩
  | d :: ds, k => ⟨fun pos pins s σ H Q I h => (pa_cons (pe_lamO (k d (List.mem_cons_self ..))) (pa_lams fun d m => k d (List.mem_cons_of_mem _ m))).run pos pins s σ H Q I
      ⟨h.1, fun p H1 e n t hf h1 => ⟨t, fun ps H2 e2 n2 t2 hfs fa => h.2 (p :: ps) H2 (fun b o z1 z2 => e2 b o (e b o z1 z2) z2) (fun b z => n b (n2 b z)) t2 (fun p' m => (List.mem_cons.mp m).elim (fun z => by rw [z]; exact hf) fun m => n _ (hfs p' m)) (.cons (h1.ext e2) fa)⟩⟩⟩
end SP

namespace SP
open PySem PySem.Spec PyProof.Rows L2 SeqAt LamX
/-! ### a kept lambda called in the def that got it -/
section
variable {X : Cx} {pins : List (Addr × Obj)} {σ : L2.St} {H : Hp} {s : Shared}
theorem pe_actO {CXg : CXT} {Eg : XK} {Ng : List Str} {qg : Str} {sg : Scope} {g : Addr} {cdg : Value} {d : LD} {p : Addr × Addr} {k i : Nat} {a : Str} {pn : List (Addr × Obj)} {xe : Value → Shared → Prop} {W : WX} {E : XK} {tb : TE} {p1 p2 : Pos}
    (I : Inv X pins σ H s) (L : LamS X.env.scope d.scope)
    (hbind : ∀ (pm cv ctv : Value), bindArgs (PySem.W.kla_fn "<lambda>" (X.env.qual ++ "<lambda>") d.params d.body d.scope (cloFrom X.env.cells d.scope.names []) pm cv ctv) ⟨[], []⟩ = pure [])
    (tk : Takes ((cxOf CXg X.prog X.w X.K X.mg X.base Ng qg sg g cdg X.A X.stack s H Eg).tr pn xe) W) (hW : ∀ cls d σ' H', E cls d H' → W cls d σ' H') (hr : Room (k + 1) (X.A.deeper (envOfC qg sg s.heap.objs.size g cdg)))
    (hbody : ∀ (A : Around) (outer : List Env) (s : Shared) (H : Hp), Room k (A.deeper (lamEnv X d.scope s.heap.objs.size p.1 p.2)) → PE (lamCx X A outer s H E d.scope p.1 p.2) d.body tb)
    (hN : Ng[i]? = some a) (hv : Vis sg a) (hd : (a == ("__debug__" : Str)) = false := by decide) (hcd : (a == ("__classdict__" : Str)) = false := by decide) :
    PE ((cxOf CXg X.prog X.w X.K X.mg X.base Ng qg sg g cdg X.A X.stack s H Eg).tr pn xe) (.Call (.Name a p1) [] [] p2)
      (fun σZ HZ Q => σZ[i]? = some (some (.ref p.1)) ∧ LamIn X HZ d p ∧ tb σ HZ Q) := by
  refine ⟨fun pinsZ sZ σZ HZ Q IZ h => ?_⟩
  obtain ⟨hs, ⟨hf, hc⟩, ht⟩ := h
  refine wpAny_Call_Name_kw (thn ((pe_var (pos := p1) (i := i) hN hv hd hcd).run pinsZ sZ σZ HZ (fun v H1 => v = .ref p.1 ∧ H1 = HZ) IZ ⟨.ref p.1, hs, rfl, rfl⟩) fun u s1 ⟨v, H1, I1, r1, q1⟩ => ?_)
  obtain ⟨ev, eH⟩ := q1
  subst ev
  rw [eH] at I1
  obtain rfl : u = Value.ref p.1 := r1
  obtain ⟨pm, ctv, of1⟩ := lamO_at I1.hok hf
  refine PySem.W.callWith_F0 ⟨_, _, _, _, of1⟩ ?_
  have un : Un (frs X.stack) [] H HZ s.heap s1.heap := I1.base
  obtain ⟨⟨oc, vs, t, hoc, hdc, hvc⟩, _, _⟩ := I1.hok p.2 _ hc
  have rc : codeAny (model X.prog X.w) (X.A.deeper (envOfC qg sg s.heap.objs.size g cdg)) (.call (.ref p.1) ⟨[], []⟩) (CR (L2.CX X.prog X.w) (envOfC qg sg s.heap.objs.size g cdg :: X.stack) X.prog X.w HZ s1 Q E) s1 := by
    refine PySem.W.kla_callFunE hr.depth of1 rfl L.co L.gen rfl ⟨p.2, oc, vs, t, rfl, hoc, hdc, hvc⟩ ?_
    rw [hbind]
    refine wpAny_pure (wpAny_newFunctionEnv (fun y hy => (L.own y hy).2) (fun y hy => absurd hy (by simp)) (fun h₁ hns hsb => ⟨I1.nolimit.fresh _ hsb, ?_⟩) L.kind)
    show codeAny _ _ (.expr d.body (lamEnv X d.scope s1.heap.objs.size p.1 p.2)) _ _
    have kp : ∀ b o, s1.heap.get? b = some o → h₁.get? b = some o := fun b o e => hsb.extBut b o (Nat.ne_of_lt (Heap.lt_size e)) (Heap.get?_push_of_some _ e)
    have J : Inv (lamCx X (X.A.deeper (envOfC qg sg s.heap.objs.size g cdg)) (envOfC qg sg s.heap.objs.size g cdg :: X.stack) s1 HZ E d.scope p.1 p.2) [] σ HZ { s1 with heap := h₁, toks := s1.toks + ([] : List (Str × Value)).length } :=
      lam_start2 I L I1.env0 hr.hd un hns kp
    refine PySem.W.kla_codeExpr (wpAny_mono ((hbody _ _ s1 HZ (hr.deeper _)).run [] _ _ HZ Q J ht) (fun v s' hq => ?_) fun e s' hq => hq)
    obtain ⟨w', H', J', rv, q⟩ := hq
    exact ⟨w', H', J'.os, J'.bare, J'.base, J'.hok, rv, q⟩
  have hx : Passes (L2.CX X.prog X.w) ((cxOf CXg X.prog X.w X.K X.mg X.base Ng qg sg g cdg X.A X.stack s H Eg).tr pn xe) E := passes_call tk hW
  refine wpAny_call (codeAny_mono rc fun r s' hq => ?_)
  cases r with
  | error e => exact hx pinsZ σZ HZ s1 e s' I1 hq
  | ok fl =>
    cases fl with
    | ret u => exact I1.after hq
    | next => exact False.elim hq
    | brk => exact False.elim hq
    | cont => exact False.elim hq
end
/-- the def that calls what it got -/
def GivesO (X : Cx) (Ng : List Str) (x : Str) (sg : Scope) (g : Addr) (cdg : Value) (bg : List Stmt) (a : Str) (d : LD) (TT : (XK → Hp → VK → Prop) → Hp → VK → Prop) : Prop :=
  ∀ (p : Addr × Addr) (s : Shared) (H : Hp) (Q : VK) (tl : XK → Hp → VK → Prop),
    (∀ (W : WX) (pn : List (Addr × Obj)) (xe : Value → Shared → Prop) (E : XK) (p1 p2 : Pos), Takes ((cxOf C8.CX0 X.prog X.w X.K X.mg X.base Ng x sg g cdg X.A X.stack s H C8.E0).tr pn xe) W → (∀ cls d σ' H', E cls d H' → W cls d σ' H') →
      PE ((cxOf C8.CX0 X.prog X.w X.K X.mg X.base Ng x sg g cdg X.A X.stack s H C8.E0).tr pn xe) (.Call (.Name a p1) [] [] p2) (fun σZ HZ Q => σZ[0]? = some (some (.ref p.1)) ∧ LamIn X HZ d p ∧ tl E HZ Q)) →
    LamIn X H d p → TT tl H Q →
    ∃ t, PSs (cxOf C8.CX0 X.prog X.w X.K X.mg X.base Ng x sg g cdg X.A X.stack s H C8.E0).nox bg t ∧ t { nx := fun _ H' => Q .non H', rt := Q } (L2.start Ng [.ref p.1]) H
/-- x(e): e is one of the kept lambdas -/
theorem pe_givenO {X : Cx} {TT : (XK → Hp → VK → Prop) → Hp → VK → Prop} {x a : Str} {g : Addr} {k : Nat} {pg : Arguments} {bg : List Stmt} {sg : Scope} {dV kV doc pm cdv ct oc : Value} {an od : Option Addr} {osl : Array (Option Value)} {Ng : List Str}
    {e : Expr} {te : TE} {ds : List LD} {t : LD → XK → TE} {p pos : Pos} (hg : Gl X x) (hm : X.mg x = some (.ref g)) (hk : PySem.W.keepIn X.K (.ref g) = true)
    (lk : X.K.lookup g = some ⟨oc, od, .func (PySem.W.fnOf x x pg bg sg dV kV doc pm an cdv ct), osl⟩) (hcg : PySem.W.codeIn X.K cdv x = true) (hb : L2.Binds X.K (PySem.W.fnOf x x pg bg sg dV kV doc pm an cdv ct) [a] []) (Sg : FnScope Ng [a] sg) (hNg : Ng[0]? = some a) (hva : Vis sg a)
    (hG : ∀ d ∈ ds, GivesO X Ng x sg g cdv bg a d TT) (hr : Room (k + 2) X.A) (hL : ∀ d ∈ ds, LamS X.env.scope d.scope)
    (hbind : ∀ d ∈ ds, ∀ (pm cv ctv : Value), bindArgs (PySem.W.kla_fn "<lambda>" (X.env.qual ++ "<lambda>") d.params d.body d.scope (cloFrom X.env.cells d.scope.names []) pm cv ctv) ⟨[], []⟩ = pure [])
    (he : PE X e te)
    (hbody : ∀ d ∈ ds, ∀ (A : Around) (outer : List Env) (s : Shared) (H : Hp) (E : XK) (f c' : Addr), Room k (A.deeper (lamEnv X d.scope s.heap.objs.size f c')) → PE (lamCx X A outer s H E d.scope f c') d.body (t d E))
    (hs : starEach [e] X.env = (false, eval e X.env) :: starEach [] X.env := by rfl)
    (hdb : (x == ("__debug__" : Str)) = false := by decide) (hd : (a == ("__debug__" : Str)) = false := by decide) (hcd : (a == ("__classdict__" : Str)) = false := by decide) :
    PE X (.Call (.Name x p) [e] [] pos) (fun σ H Q => te σ H fun v H1 => ∃ d p, d ∈ ds ∧ v = .ref p.1 ∧ LamIn X H1 d p ∧ TT (fun E H' Q' => t d E σ H' Q') H1 Q) := by
  refine ⟨fun pins s σ H Q I h => ?_⟩
  refine wpAny_Call_Name_kw (ld_glob I hg hm ?_ hdb)
  refine PySem.W.callWith_K (h₀ := X.base) I.ok.mod.kin hk ?_ hs (by rfl)
  rw [hs]
  show wpAny _ _ (spliced ((false, eval e X.env) :: backTo pos (starEach [] X.env))) _ _ s
  refine Calls.spliced_cons (thn (he.run pins s σ H _ I h) fun u s' ⟨v, H1, I1, r1, d, p, md, ev, hp, q⟩ => ?_)
  subst ev
  obtain rfl : u = Value.ref p.1 := r1
  refine Calls.spliced_nil ⟨I1.kIn, ?_⟩
  have rc : codeAny (model X.prog X.w) X.A (.call (.ref g) ⟨[.ref p.1], []⟩) (CR C8.CX0 X.stack X.prog X.w H1 s' Q C8.E0) s' := by
    refine run_ofS (N := Ng) (ps := [a]) (us := [.ref p.1]) (vs := [.ref p.1]) lk hcg Sg hr I1.env0 (hb s' [.ref p.1] I1.kIn rfl) (.cons rfl .nil) rfl fun hr' => ?_
    obtain ⟨t', ht', hq'⟩ := hG d md p s' H1 Q (fun E H' Q' => t d E σ H' Q') (fun W pn xe E p1 p2 tk hW => pe_actO (i := 0) I1 (hL d md) (hbind d md) tk hW hr' (fun A outer s H hr2 => hbody d md A outer s H E p.1 p.2 hr2) hNg hva hd hcd) hp q
    exact ⟨t', ht'.nox, hq'⟩
  refine wpAny_call (codeAny_mono rc fun r s2 hq => ?_)
  cases r with
  | error e => exact (show False from hq).elim
  | ok fl =>
    cases fl with
    | ret u => exact I1.after hq
    | next => exact False.elim hq
    | brk => exact False.elim hq
    | cont => exact False.elim hq
end SP

/-! ### isinstance of a caught error, with a dict or without -/
namespace PySem.W
open PySem PySem.Spec PySem.Calls PyProof.Rows
section
variable {prog : Program} {w : World} {A : Around} {E : Value → Shared → Prop} {s : Shared} {K : Frag} {x D : Addr} {ox : Obj} {od : Option Obj}
theorem findObj_dataO {C : Addr} {name : Str} {a g : Value} (hc : (clsIn K C).isSome = true) (ha : findIn K (.ref C) name = some (some a)) (hg : specialIn K a "__get__" = some (some g)) (ht : takesIn K a = some true) : findObj K C od name = some (.bind g a) := by
  obtain ⟨cd, hc⟩ := Option.isSome_iff_exists.mp hc
  unfold findObj
  rw [hc, Option.bind_some, ha, Option.bind_some]
  simp [hg, ht]
theorem kin_classO (C : L2.ExcC K D) (X : K.In s.heap) (I : InstAt s.heap x ox D od) {Q : Option Value → Shared → Prop} (h : Q (some (.ref D)) { s with toks := s.toks + 1 }) : wpAny (model prog w) A (getAttr? (.ref x) "__class__") Q E s := by
  have hf : findObj K D od "__class__" = some (.bind (.builtin "getset_descriptor.__get__") (.builtin "object.__class__")) := findObj_dataO (by obtain ⟨cd, hc, _⟩ := any_some C.hd; rw [hc]; rfl) C.ha C.hn C.ht
  obtain ⟨hp, g, d, t, os⟩ := s
  have L0 := I.type (M := model prog w)
  have L1 := looks_findIn (M := model prog w) X C.hg
  have L2 := looks_findIn (M := model prog w) X C.hk
  have L3 := looks_find (M := model prog w) X I hf
  have sub : Looks (model prog w) hp (isInstance (.ref x) (.type "BaseException")) true := L0.andThen (looks_subIn X C.hs)
  have hx0 : (false && onTheHeap (Value.builtin "BaseException.__getattribute__")) = false := rfl
  have hx2 : (Value.builtin "BaseException.__getattribute__" == Value.builtin "object.__getattribute__") = false := by decide +kernel
  have hx1 : (onTheHeap (Value.ref D) && Value.builtin "BaseException.__getattribute__" == Value.builtin "object.__getattribute__") = false := by rw [hx2]; rfl
  unfold getAttr? getAttrBy? getAttrBy
  refine wpAny_bind (wpAny_mkText (wpAny_bind (wpAny_attempt (wpAny_holding (wpAny_bind (L0.at (wpAny_bind (L1.at ?_))))))))
  show wpAny _ _ (if (onTheHeap (Value.ref D) && Value.builtin "BaseException.__getattribute__" == Value.builtin "object.__getattribute__") = true then _ else _) _ _ _
  rw [hx1, if_neg Bool.false_ne_true]
  unfold getAttrByItsOwn hookBefore
  refine wpAny_bind ?_
  rw [if_pos (show onTheHeap (Value.ref D) = true from rfl)]
  refine L2.at ?_
  refine wpAny_bind (wpAny_attempt (wpAny_holding ?_))
  unfold callGetattribute
  rw [hx0, if_neg Bool.false_ne_true]
  unfold boundAndCalled
  rw [PySem.F.excAttr_ValueError.ga.bind (.ref x)]
  refine wpAny_bind (wpAny_pure ?_)
  show wpAny _ _ (call (.builtin "BaseException.__getattribute__") [.ref x, .str "__class__" t]) _ _ _
  refine wpAny_call (codeAny_call_builtin PySem.F.excAttr_ValueError.ga.plain PySem.F.entry_bexc_ga ?_)
  refine @check_slot (model prog w) _ _ ⟨hp, g, d, t + 1, os⟩ "BaseException.__getattribute__" "BaseException" "__getattribute__" (.ref x) [.str "__class__" t] [] _ (by decide +kernel) (by decide +kernel) sub (PySem.F.args_bexc_ga (.ref x) (.str "__class__" t)) ?_
  unfold Builtin.«object.__getattribute__»
  refine wpAny_bind (wpAny_of_eq (a := ((Value.ref x : Value), [Value.str "__class__" t])) (by first | rfl | (simp only [slotArgs]; rfl)) ?_)
  refine wpAny_bind (wpAny_pure (wpAny_bind (L0.at (wpAny_bind (L3.at ?_)))))
  show wpAny _ _ (holding [Value.builtin "object.__class__"] (call (.builtin "getset_descriptor.__get__") [.builtin "object.__class__", .ref x, .ref D]) >>= ret) _ _ _
  refine wpAny_bind (wpAny_holding (wpAny_call (class_get (s := ⟨hp, g, d, t + 1, os⟩) (ox := ox) (od := od) X I C.hm ?_)))
  refine wpAny_pure ?_
  show wpAny _ _ (handedOut (.ref D)) _ _ _
  rw [handedOut_of (v := .ref D) rfl]
  first
    | exact wpAny_pure (wpAny_pure h)
    | exact wpAny_pure h
    | exact wpAny_pure (wpAny_bind (wpAny_pure (wpAny_pure h)))
theorem kitx_excO (C : L2.ExcC K D) : KitX K (.ref x) (.ref D) (fun h => InstAt h x ox D od) where
  ty := fun _ _ _ I => I.type
  it := fun _ _ X _ => by
    obtain ⟨cdD, hcD, _⟩ := any_some C.hd
    unfold clsIn at hcD
    split at hcD
    · rename_i c' d' cd' sl' ho
      intro A' Q' E' s' k q
      unfold isType loadHead
      exact wpAny_bind (wpAny_loadPart (k _ _ (X _ _ ho)) (wpAny_pure q))
    · cases hcD
  ne := fun h tp dd its n sl X htp => by
    obtain ⟨cdD, hcD, _⟩ := any_some C.hd
    refine Bool.eq_false_iff.mpr fun q => ?_
    have e : D = tp := Value.ref.inj (beq_iff_eq.mp q)
    subst e
    unfold clsIn at hcD
    split at hcD
    · rename_i c' d' cd' sl' ho
      have z := (X _ _ ho).symm.trans htp
      cases z
    · cases hcD
  ca := fun X I k => kin_classO C X I k
end
end PySem.W
namespace SP
open PySem PySem.Spec PyProof.Rows L2 SeqAt LamX
/-- the exception's dict: none, or known -/
def DctOk (d : Option Addr) (H : Hp) : Prop := d = none ∨ ∃ dd fv, d = some dd ∧ H dd = some (.xd fv)
theorem DctOk.new {d : Option Addr} {H H' : Hp} (h : DctOk d H) (n : New H H') : DctOk d H' := h.imp id fun ⟨dd, fv, e1, e2⟩ => ⟨dd, fv, e1, n.keep _ _ e2⟩
/-- isinstance(e, c), e the exception that the suite holds -/
def rIsO (K : PySem.W.Frag) (D a : Addr) (d : Option Addr) : List V → Hp → VK → Prop := fun xs H Q => ∃ (c : V) (cv : Value) (b : Bool), xs = [.ref a, c] ∧ (∀ u, L2.RelV c u → u = cv) ∧ PySem.W.kitOne K (.ref D) cv = some b ∧ DctOk d H ∧ Q (.bl b) H
theorem call_isO {X : Cx} {a D : Addr} {d : Option Addr} {oe : Obj} {pn : List (Addr × Obj)} (C : ExcC X.K D) (hz : Zc (.ref D) d oe) (hf : ∃ vs, oe.data = .fields vs) : CallR (X.suite a ((a, oe) :: pn)) (.builtin "isinstance") (rIsO X.K D a d) := by
  intro pins s σ H xs us Q I r h
  obtain ⟨c, cv, b, rfl, hcv, e, hd, q⟩ := h
  cases r with
  | cons rx rr =>
    cases rr with
    | cons rt rr =>
      cases rr
      cases rx
      have ec := hcv _ rt
      subst ec
      obtain ⟨hget, _⟩ := I.pin (a, oe) (List.mem_append.mpr (.inl List.mem_cons_self))
      obtain ⟨vs, hv⟩ := hf
      have J : ∃ od, PySem.W.InstAt s.heap a oe D od := by
        obtain ⟨oc, odt, oda, osl⟩ := oe
        obtain ⟨h1, h2⟩ := hz
        dsimp only at h1 h2 hv
        rcases hd with e | ⟨dd, fv, e, hx⟩
        · subst h1 h2 hv e
          exact ⟨none, hget, rfl, rfl, trivial⟩
        · subst h1 h2 hv e
          obtain ⟨mA, ⟨o, es, ep, ho, _⟩, _⟩ := (show ObjOk X.prog X.w H s.heap dd (.xd fv) from I.hok dd _ hx)
          exact ⟨some o, hget, rfl, rfl, ho⟩
      obtain ⟨od, J⟩ := J
      exact PySem.W.kia_one (PySem.W.kitx_excO (od := od) C) I.kIn J e (fun z => nomatch z) fun tk => ⟨.bl b, H, I.kept (t' := tk) fun _ _ z => z, rfl, q⟩
structure IsD where
  nm : Str
  v : V
  cv : Value
  p : Pos
  p1 : Pos
  p2 : Pos
  p3 : Pos
def IsD.ex (en : Str) (d : IsD) : Expr := .Call (.Name "isinstance" d.p) [.Name en d.p1, .Name d.nm d.p2] [] d.p3
/-- what the tests say of the class at D -/
inductive Kits (K : PySem.W.Frag) (D : Addr) : List IsD → List Bool → Prop
  | nil : Kits K D [] []
  | cons {i : IsD} {b : Bool} {is : List IsD} {bs : List Bool} (h : PySem.W.kitOne K (.ref D) i.cv = some b) (r : Kits K D is bs) : Kits K D (i :: is) (b :: bs)
theorem Kits.len {K : PySem.W.Frag} {D : Addr} : ∀ {is : List IsD} {bs : List Bool}, Kits K D is bs → bs.length = is.length
  | _, _, .nil => rfl
  | _, _, .cons _ r => by rw [List.length_cons, List.length_cons, Kits.len r]
theorem Kits.app {K : PySem.W.Frag} {D : Addr} : ∀ {is js : List IsD} {bs : List Bool}, Kits K D (is ++ js) bs → ∃ b1 b2, bs = b1 ++ b2 ∧ Kits K D is b1 ∧ Kits K D js b2
  | [], js, bs, h => ⟨[], bs, rfl, .nil, h⟩
  | i :: is, js, _, .cons h r => by
    obtain ⟨b1, b2, e, h1, h2⟩ := Kits.app (is := is) r
    exact ⟨_ :: b1, b2, by rw [e]; rfl, .cons h h1, h2⟩
section
variable {X : Cx} {a D : Addr} {d : Option Addr} {oe : Obj} {pn : List (Addr × Obj)} {en : Str} {ie : Nat}
/-- the names of the tests mean what they should -/
structure IsNm (X : Cx) (i : IsD) : Prop where
  ev : ∀ (A : Around) (calm : Bool) (pn : List (Addr × Obj)) (xe : Value → Shared → Prop), PE { X with A := A, calm := calm, pn := pn, xe := xe } (.Name i.nm i.p2) (tC i.v)
  rv : ∀ u, L2.RelV i.v u → u = i.cv
theorem pa_is (C : ExcC X.K D) (hz : Zc (.ref D) d oe) (hf : ∃ vs, oe.data = .fields vs) (hg : Gl X "isinstance") (hm : X.mg "isinstance" = none) (hN : X.N[ie]? = some en) (hv : Vis X.env.scope en) (hd : (en == ("__debug__" : Str)) = false) (hcd : (en == ("__classdict__" : Str)) = false) :
    ∀ {is : List IsD}, (∀ i ∈ is, IsNm X i) → PA (X.suite a ((a, oe) :: pn)) (is.map (IsD.ex en)) (fun σ H Q => σ[ie]? = some (some (.ref a)) ∧ DctOk d H ∧ ∃ bs, Kits X.K D is bs ∧ Q (bs.map V.bl) H)
  | [], _ => ⟨fun pos pins s σ H Q I h => by
      obtain ⟨_, _, bs, hk, q⟩ := h
      cases hk
      exact pa_nil.run pos pins s σ H Q I q⟩
  | i :: is, k => ⟨fun pos pins s σ H Q I h => by
      obtain ⟨h1, h2, bs, hk, q⟩ := h
      cases hk with
      | cons hb r =>
        have K1 := k i (List.mem_cons_self ..)
        have p1 : PE (X.suite a ((a, oe) :: pn)) (IsD.ex en i) _ := pe_callB (call_isO (pn := pn) C hz hf) (show Gl (X.suite a ((a, oe) :: pn)) "isinstance" from hg) hm rfl (pa_cons (pe_var (X := X.suite a ((a, oe) :: pn)) hN hv hd hcd) (pa_cons (K1.ev (X.A.mark (some (.ref a))) false ((a, oe) :: pn) (fun _ _ => False)) pa_nil))
        exact (pa_cons p1 (pa_is C hz hf hg hm hN hv hd hcd fun i m => k i (List.mem_cons_of_mem _ m))).run pos pins s σ H Q I ⟨.ref a, h1, i.v, i.cv, _, rfl, K1.rv, hb, h2, h1, h2, _, r, q⟩⟩
end
end SP

namespace SP
open PySem PySem.Spec PyProof.Rows L2 SeqAt LamX
/-! ### try: a() / except c as e: some = [isinstance(e, ..), ..] / .. / return [] -/
section
variable {X : Cx} {a D : Addr} {d : Option Addr} {oe : Obj} {pn : List (Addr × Obj)} {en sm : Str} {ie is : Nat} {l1 l2 l3 : List IsD} {q1 q2 q3 q4 q5 q6 q7 q8 q9 q10 q11 q12 : Pos}
/-- the suite of the clause -/
def undSuite (en sm : Str) (l1 l2 l3 : List IsD) (q1 q2 q3 q4 q5 q6 q7 q8 q9 q10 q11 q12 : Pos) : List Stmt :=
  [.Assign [.Name sm q1] (.List (l1.map (IsD.ex en)) q2) q3, .Assign [.Name sm q4] (.BinOp (.Name sm q5) .Add (.List (l2.map (IsD.ex en)) q6) q7) q8, .Return (some (.BinOp (.Name sm q9) .Add (.List (l3.map (IsD.ex en)) q10) q11)) q12]
def tUndS (K : PySem.W.Frag) (ie : Nat) (l : List IsD) (a : Addr) (cls : Value) (d : Option Addr) : TS := fun Dn σ H => (∃ σ0 : L2.St, σ = σ0.set ie (some (.ref a))) ∧ ∃ D bs, cls = .ref D ∧ ExcC K D ∧ DctOk d H ∧ Kits K D l bs ∧ ∀ H2 b, New H H2 → H2 b = none → Dn.rt (.ref b) (L2.upd H2 b (.lst (bs.map V.bl)))
theorem und_suite {cls : Value} (hz : Zc cls d oe) (hf : ∃ vs, oe.data = .fields vs) (hg : Gl X "isinstance") (hm : X.mg "isinstance" = none) (hNd : X.N.Nodup) (hN : X.N[ie]? = some en) (hv : Vis X.env.scope en) (hS : X.N[is]? = some sm) (hSl : X.env.scope.names.lookup sm = some .local) (hne : is ≠ ie)
    (hd : (en == ("__debug__" : Str)) = false) (hcd : (en == ("__classdict__" : Str)) = false) (hd2 : (sm == ("__debug__" : Str)) = false) (hcd2 : (sm == ("__classdict__" : Str)) = false) (hl : (l1 ++ l2 ++ l3).length ≤ 1000) (hi : ∀ i ∈ l1 ++ l2 ++ l3, IsNm X i)
    (hs1 : swapsWith (.List (l1.map (IsD.ex en)) q2) (some (.Name sm q1)) q3.line X.env = pure false) (hs2 : swapsWith (.BinOp (.Name sm q5) .Add (.List (l2.map (IsD.ex en)) q6) q7) (some (.Name sm q4)) q8.line X.env = pure false) :
    PSs (X.suite a ((a, oe) :: pn)) (undSuite en sm l1 l2 l3 q1 q2 q3 q4 q5 q6 q7 q8 q9 q10 q11 q12) (tUndS X.K ie (l1 ++ l2 ++ l3) a cls d) := by
  refine ⟨fun pins s σ H Dn I h => ?_⟩
  obtain ⟨⟨σ0, hσ⟩, D, bs, hcls, hC, hdk, hk, q⟩ := h
  subst hcls
  have hlen : σ.length = X.N.length := I.len
  have hie : ie < X.N.length := (List.getElem?_eq_some_iff.mp hN).1
  have his : is < X.N.length := (List.getElem?_eq_some_iff.mp hS).1
  have e0 : σ[ie]? = some (some (.ref a)) := by
    rw [hσ]
    rw [hσ, List.length_set] at hlen
    rw [List.getElem?_set_self (by omega)]
  obtain ⟨b12, b3, rfl, k12, k3⟩ := Kits.app hk
  obtain ⟨b1, b2, rfl, k1, k2⟩ := Kits.app k12
  have hl1 := k1.len; have hl2 := k2.len; have hl3 := k3.len
  rw [List.length_append, List.length_append] at hl
  have hsz : (1000 : Nat) ≤ sizeLine := Nat.le_of_ble_eq_true rfl
  have pis : ∀ l : List IsD, (∀ i ∈ l, IsNm X i) → PA (X.suite a ((a, oe) :: pn)) (l.map (IsD.ex en)) (fun σ H Q => σ[ie]? = some (some (.ref a)) ∧ DctOk d H ∧ ∃ bs, Kits X.K D l bs ∧ Q (bs.map V.bl) H) := fun l hl => pa_is hC hz hf hg hm hN hv hd hcd hl
  have psm : ∀ p : Pos, PE (X.suite a ((a, oe) :: pn)) (.Name sm p) (tVar is) := fun p => pe_var (X := X.suite a ((a, oe) :: pn)) hS (.inl hSl) hd2 hcd2
  have s1 := ps_set (X := X.suite a ((a, oe) :: pn)) (i := is) (pos := q3) (pos' := q1) hNd hS (.inl hSl) (pe_lst (pos := q2) (pis l1 fun i m => hi i (List.mem_append_left _ (List.mem_append_left _ m)))) hs1 (.inr hSl)
  have s2 := ps_set (X := X.suite a ((a, oe) :: pn)) (i := is) (pos := q8) (pos' := q4) hNd hS (.inl hSl) (pe_op (pos := q7) op_cat (psm q5) (pe_lst (pos := q6) (pis l2 fun i m => hi i (List.mem_append_left _ (List.mem_append_right _ m))))) hs2 (.inr hSl)
  have s3 := ps_ret (X := X.suite a ((a, oe) :: pn)) (pos := q12) (pe_op (pos := q11) op_cat (psm q9) (pe_lst (pos := q10) (pis l3 fun i m => hi i (List.mem_append_right _ m))))
  refine (pss_cons s1 (pss_cons s2 (pss_one s3))).run pins s σ H Dn I ⟨e0, hdk, b1, k1, by rw [List.length_map]; omega, fun p1 hp1 => ?_⟩
  have n1 : New H (L2.upd H p1 (.lst (b1.map V.bl))) := New.upd hp1
  have get : ∀ (τ : L2.St) (v : V), τ.length = X.N.length → (τ.set is (some v))[is]? = some (some v) := fun τ v e => by rw [List.getElem?_set_self (by omega)]
  have oth : ∀ (τ : L2.St) (v : V), τ[ie]? = some (some (.ref a)) → (τ.set is (some v))[ie]? = some (some (.ref a)) := fun τ v e => by rw [List.getElem?_set_ne hne]; exact e
  have hl' : (σ.set is (some (.ref p1))).length = X.N.length := by rw [List.length_set]; exact I.len
  refine ⟨.ref p1, get σ _ I.len, oth σ _ e0, hdk.new n1, b2, k2, by rw [List.length_map]; omega, fun p2 hp2 => ?_⟩
  have n2 := n1.trans (New.upd (o := .lst (b2.map V.bl)) hp2)
  have ne21 : p1 ≠ p2 := fun z => by rw [← z, upd_same] at hp2; cases hp2
  refine ⟨p1, p2, _, _, rfl, rfl, by rw [upd_ne ne21]; exact upd_same, upd_same, by rw [List.length_map, List.length_map]; omega, fun p3 hp3 => ?_⟩
  have n3 := n2.trans (New.upd (o := .lst (b1.map V.bl ++ b2.map V.bl)) hp3)
  refine ⟨.ref p3, get _ _ hl', oth _ _ (oth σ _ e0), hdk.new n3, b3, k3, by rw [List.length_map]; omega, fun p4 hp4 => ?_⟩
  have n4 := n3.trans (New.upd (o := .lst (b3.map V.bl)) hp4)
  have ne43 : p3 ≠ p4 := fun z => by rw [← z, upd_same] at hp4; cases hp4
  refine ⟨p3, p4, _, _, rfl, rfl, by rw [upd_ne ne43]; exact upd_same, upd_same, by rw [List.length_append, List.length_map, List.length_map, List.length_map]; omega, fun p5 hp5 => ?_⟩
  have z := q _ p5 n4 hp5
  rw [List.map_append, List.map_append] at z
  exact z
end
def TUnd (K : PySem.W.Frag) (cS : Value) (l : List IsD) : (XK → Hp → VK → Prop) → Hp → VK → Prop := fun tl H Q =>
  tl (fun cls d H' => ∃ D bs, cls = .ref D ∧ PySem.W.exmOne K cls cS = some true ∧ ExcC K D ∧ DctOk d H' ∧ Kits K D l bs ∧ ∀ H2 b, New H' H2 → H2 b = none → Q (.ref b) (L2.upd H2 b (.lst (bs.map V.bl)))) H (fun _ H' => ([] : List V).length ≤ sizeLine ∧ ∀ b, H' b = none → Q (.ref b) (L2.upd H' b (.lst [])))
section
variable {X : Cx} {d : LD} {Ng : List Str} {x a c q en sm : Str} {sg : Scope} {g : Addr} {cdg : Value} {cS : Value} {l1 l2 l3 : List IsD} {ie is : Nat} {p1 p2 p3 p4 p5 p6 p7 p8 q1 q2 q3 q4 q5 q6 q7 q8 q9 q10 q11 q12 : Pos}
theorem und_gives (hNd : Ng.Nodup) (h0 : ∀ f : Addr, (L2.start Ng [V.ref f])[0]? = some (some (V.ref f))) (hN : Ng[ie]? = some en) (hS : Ng[is]? = some sm) (hEl : sg.names.lookup en = some .local) (hSl : sg.names.lookup sm = some .local) (hne : is ≠ ie)
    (hc : ∀ (s : Shared) (H : Hp), Names (cxOf C8.CX0 X.prog X.w X.K X.mg X.base Ng x sg g cdg X.A X.stack s H C8.E0).nox c cS)
    (hg : ∀ (s : Shared) (H : Hp), Gl (cxOf C8.CX0 X.prog X.w X.K X.mg X.base Ng x sg g cdg X.A X.stack s H C8.E0).nox "isinstance") (hm : X.mg "isinstance" = none)
    (hd : (en == ("__debug__" : Str)) = false) (hcd : (en == ("__classdict__" : Str)) = false) (hd2 : (sm == ("__debug__" : Str)) = false) (hcd2 : (sm == ("__classdict__" : Str)) = false) (hl : (l1 ++ l2 ++ l3).length ≤ 1000)
    (hi : ∀ (s : Shared) (H : Hp), ∀ i ∈ l1 ++ l2 ++ l3, IsNm (cxOf C8.CX0 X.prog X.w X.K X.mg X.base Ng x sg g cdg X.A X.stack s H C8.E0).nox i)
    (hs1 : ∀ (s : Shared) (H : Hp), swapsWith (.List (l1.map (IsD.ex en)) q2) (some (.Name sm q1)) q3.line (cxOf C8.CX0 X.prog X.w X.K X.mg X.base Ng x sg g cdg X.A X.stack s H C8.E0).nox.env = pure false)
    (hs2 : ∀ (s : Shared) (H : Hp), swapsWith (.BinOp (.Name sm q5) .Add (.List (l2.map (IsD.ex en)) q6) q7) (some (.Name sm q4)) q8.line (cxOf C8.CX0 X.prog X.w X.K X.mg X.base Ng x sg g cdg X.A X.stack s H C8.E0).nox.env = pure false) :
    GivesO X Ng x sg g cdg [.Try [.Expr (.Call (.Name a p1) [] [] p2) p3] [.ExceptHandler (some (.Name c p4)) (some en) (undSuite en sm l1 l2 l3 q1 q2 q3 q4 q5 q6 q7 q8 q9 q10 q11 q12) p5] [] [] p6, .Return (some (.List [] p7)) p8] a d (TUnd X.K cS (l1 ++ l2 ++ l3)) := by
  intro p s H Q tl act hp h
  refine ⟨_, pss_cons (ps_try_as (X := (cxOf C8.CX0 X.prog X.w X.K X.mg X.base Ng x sg g cdg X.A X.stack s H C8.E0).nox) (i := ie) (Wout := fun _ _ _ _ => False)
      (tb := fun W Dn σ H => ∃ Ech : XK, (∀ cls d σ' H', Ech cls d H' → W cls d σ' H') ∧ σ[0]? = some (some (.ref p.1)) ∧ LamIn X H d p ∧ tl Ech H (fun _ H' => Dn.nx σ H'))
      (ts := tUndS X.K ie (l1 ++ l2 ++ l3)) rfl rfl hNd hN hEl (hc s H) L2.takes0 (fun W pn xe tk _ => ?_) (fun a oe cls d pn hz hf => und_suite hz hf (hg s H) hm hNd hN (.inl hEl) hS hSl hne hd hcd hd2 hcd2 hl (hi s H) (hs1 s H) (hs2 s H))) (pss_one (ps_ret (pe_lst pa_nil))), ?_⟩
  · refine ⟨fun pins s' σ H' Dn I h' => ?_⟩
    obtain ⟨Ech, hW, h1, h2, h3⟩ := h'
    exact (pss_one (ps_expr (act W pn xe Ech p1 p2 tk hW))).run pins s' σ H' Dn I ⟨h1, h2, h3⟩
  · refine ⟨fun cls d H' => ∃ D bs, cls = .ref D ∧ PySem.W.exmOne X.K cls cS = some true ∧ ExcC X.K D ∧ DctOk d H' ∧ Kits X.K D (l1 ++ l2 ++ l3) bs ∧ ∀ H2 b, New H' H2 → H2 b = none → Q (.ref b) (L2.upd H2 b (.lst (bs.map V.bl))), fun cls d σ' H' z => ?_, h0 p.1, hp, h⟩
    obtain ⟨D, bs, e1, e2, e3, e4, e5, e6⟩ := z
    exact ⟨true, e2, fun _ a _ => ⟨⟨σ', rfl⟩, D, bs, e1, e3, e4, e5, e6⟩, fun z => by cases z⟩
end
end SP

namespace SP
open PySem PySem.Spec PyProof.Rows L2 SeqAt LamX
/-! ### whats = [lambda: .., ..] / k = e / if x(whats[k]) != e2: .. -/
/-- how the call of the lambda ended, told by the tests -/
def nUnd (bs : Str → Option (List Bool)) (f : Sm) : Sm := fun ρ q => match f ρ q with
  | .ok _ q' => .ok (.lst []) q'
  | .exc c _ q' => match bs c with
    | some l => .ok (.lst (l.map .bl)) q'
    | none => .stuck
  | .stuck => .stuck
noncomputable def xUnd (iw ik : Nat) (fk : Sm) (fbs : List Sm) (bs : Str → Option (List Bool)) (f2 : Sm) (s1 sr : Ss) : Ss := fun ρ q => (fk (ρ.set iw none) q).to (ρ.set iw none) fun t q1 => match t with
  | .int (.ofNat k) => match fbs[k]? with
    | some fb => (xIf (tBl (sOp oNe (froz (nUnd bs fb)) f2)) s1 xNil ((ρ.set iw none).set ik (some t)) q1).then sr
    | none => .stuck
  | _ => .stuck
/-- what the tests say of the classes that are told -/
def UndOk (K : PySem.W.Frag) (L : Lx) (cS : Value) (l : List IsD) (bs : Str → Option (List Bool)) : Prop := ∀ c C b, L.cl c = some C → bs c = some b → PySem.W.exmOne K (.ref C) cS = some true ∧ ExcC K C ∧ Kits K C l b
theorem reps_bl {K : PySem.W.Frag} {L : Lx} {ν : Nu} {H : Hp} : ∀ b : List Bool, Reps K L ν H (b.map .bl) (b.map V.bl)
  | [] => .nil
  | b :: bs => .cons (.bl b) (reps_bl bs)
theorem Fut.hold {ν ν' : Nu} {H H' : Hp} (f : Fut ν H ν' H') {a : Addr} {o : HO} (h : H a = some o) (n : (true, a) ∉ ν.l) (t : ∀ ps, o ≠ .tbl ps) (k : ∀ kvs, o ≠ .dK kvs) : H' a = some o := by
  by_cases m : a ∈ ν.hid
  · exact f.keepH a m o h t
  · exact f.keep a o h ⟨n, m⟩ t k
theorem codeO_cell {K : PySem.W.Frag} {L : Lx} {ν : Nu} {q : Store} {H : Hp} (s : SimQ K L ν q H) {a c : Addr} {nm : Str} (h : H a = some (CodeO c nm)) : (true, a) ∉ ν.l := fun m => by
  obtain ⟨n, e⟩ := List.getElem?_of_mem m
  obtain ⟨c', e2⟩ := s.dead n a e
  obtain ⟨a', o, e3, e4, r⟩ := s.cells n c' e2
  rw [e] at e3
  cases e3
  rw [h] at e4
  have e5 : CodeO c nm = o := Option.some.inj e4
  cases r with
  | lst _ => unfold CodeO at e5; cases e5
  | dctK _ => unfold CodeO at e5; cases e5
  | dctT d _ => obtain ⟨es, ep, hd, _⟩ := d.2.1; exact dx_code ⟨es, ep, hd⟩ e5.symm
  | ins _ _ => unfold CodeO at e5; cases e5
theorem LamsIn.fut {X : Cx} {K : PySem.W.Frag} {L : Lx} {ν ν' : Nu} {q : Store} {H H' : Hp} (s : SimQ K L ν q H) (f : Fut ν H ν' H') {ds : List LD} {ps : List (Addr × Addr)} (h : LamsIn X H ds ps) (n : ∀ p ∈ ps, (true, p.1) ∉ ν.l) : LamsIn X H' ds ps := by
  induction h with
  | nil => exact .nil
  | @cons d p ds ps h r ih => exact .cons ⟨f.hold h.1 (n p (List.mem_cons_self ..)) lamO_ne (fun kvs z => by unfold LamO at z; cases z), f.hold h.2 (codeO_cell s h.2) codeO_ne (fun kvs z => by unfold CodeO at z; cases z)⟩ (ih fun p m => n p (List.mem_cons_of_mem _ m))
section
variable {X : Cx} {L : Lx}
def PreW (X : Cx) (ds : List LD) (iw ik k : Nat) : L2.St → Hp → Prop := fun σ H => ∃ p ps, σ[iw]? = some (some (.ref p)) ∧ σ[ik]? = some (some (.int (k : Int))) ∧ H p = some (.lst (ps.map fun p : Addr × Addr => V.ref p.1)) ∧ LamsIn X H ds ps
theorem und_rd {K : PySem.W.Frag} {W : WX} {σ : L2.St} {ν : Nu} {ρ : TEnv} {q : Store} {H : Hp} {Q : VK} {cS : Value} {l : List IsD} {bs : Str → Option (List Bool)} {fb : Sm} (ok : UndOk K L cS l bs) (s : SimQ K L ν q H) (en : EnvOk K L ν H ρ σ) (p : PostE K L W σ ν H (froz (nUnd bs fb) ρ q) Q) :
    TUnd K cS l (fun E H' Q' => rdE K L (fun cls d _ H'' => E cls d H'') fb σ H' Q') H Q := by
  refine ⟨ν, ρ, q, s, en, ?_⟩
  unfold froz nUnd at p
  cases e : fb ρ q with
  | ok t q' =>
    simp only [e] at p
    intro ν' H' v f s' r
    refine ⟨Nat.zero_le _, fun b hb => ?_⟩
    have n1 : New H' (L2.upd H' b (.lst [])) := New.upd hb
    exact p ν' _ (.ref b) (f.trans (n1.fut ν')) (s'.new n1) (CellRep.rep (s'.notIn_none hb) upd_same (.lst .nil) rfl)
  | stuck => simp only [e] at p; exact p.elim
  | exc c fs q' =>
    simp only [e] at p
    cases e2 : bs c with
    | none => simp only [e2] at p; exact p.elim
    | some lb =>
      simp only [e2] at p
      intro ν' H' cls d f s' x
      obtain ⟨C, h1, h2, h3⟩ := x
      obtain ⟨k1, k2, k3⟩ := ok c C lb h1 e2
      subst h2
      refine ⟨C, lb, rfl, k1, k2, h3.imp (fun z => z.2) (fun ⟨dd, fv, z1, z2, _⟩ => ⟨dd, fv, z1, z2⟩), k3, fun H2 b n hb => ?_⟩
      have n1 : New H2 (L2.upd H2 b (.lst (lb.map V.bl))) := New.upd hb
      exact p ν' _ (.ref b) ((f.trans (n.fut ν')).trans (n1.fut ν')) ((s'.new n).new n1) (CellRep.rep ((s'.new n).notIn_none hb) upd_same (.lst (reps_bl lb)) rfl)
end
end SP

namespace SP
open PySem PySem.Spec PyProof.Rows L2 SeqAt LamX
theorem atI_nat {α : Type} {xs : List α} {k : Nat} {x : α} (h : xs[k]? = some x) : atI xs (k : Int) = some x := by
  have hk := (List.getElem?_eq_some_iff.mp h).1
  unfold atI ixN
  rw [if_pos (Int.natCast_nonneg k), if_pos (by omega)]
  exact h
/-- the lambda's name list, its index, the def that is called -/
structure UndC (X : Cx) (L : Lx) (ds : List LD) (wn kn x a : Str) (iw ik m : Nat) (cS : Value) (l : List IsD) : Prop where
  iwn : X.N[iw]? = some wn
  ikn : X.N[ik]? = some kn
  vw : Vis X.env.scope wn
  vk : Vis X.env.scope kn
  dw : (wn == ("__debug__" : Str)) = false
  cw : (wn == ("__classdict__" : Str)) = false
  dk : (kn == ("__debug__" : Str)) = false
  ck : (kn == ("__classdict__" : Str)) = false
  dx : (x == ("__debug__" : Str)) = false
  da : (a == ("__debug__" : Str)) = false
  ca : (a == ("__classdict__" : Str)) = false
  hg : Gl X x
  room : Room (m + 2) X.A
  lds : ∀ d ∈ ds, LDok X L.tabs d
  bind : ∀ d ∈ ds, ∀ (pm cv ctv : Value), bindArgs (PySem.W.kla_fn "<lambda>" (X.env.qual ++ "<lambda>") d.params d.body d.scope (cloFrom X.env.cells d.scope.names []) pm cv ctv) ⟨[], []⟩ = pure []
  fn : ∃ (g : Addr) (pg : Arguments) (bg : List Stmt) (sg : Scope) (dV kV doc pm cdv ct oc : Value) (an od : Option Addr) (osl : Array (Option Value)) (Ng : List Str),
    X.mg x = some (.ref g) ∧ PySem.W.keepIn X.K (.ref g) = true ∧ X.K.lookup g = some ⟨oc, od, .func (PySem.W.fnOf x x pg bg sg dV kV doc pm an cdv ct), osl⟩ ∧ PySem.W.codeIn X.K cdv x = true ∧ L2.Binds X.K (PySem.W.fnOf x x pg bg sg dV kV doc pm an cdv ct) [a] [] ∧ FnScope Ng [a] sg ∧ Ng[0]? = some a ∧ Vis sg a ∧
    ∀ d, GivesO X Ng x sg g cdv bg a d (TUnd X.K cS l)
section
variable {X : Cx} {L : Lx} {wn kn x a : Str} {iw ik m : Nat} {ds : List LD} {fbs : List Sm} {fk f2 : Sm} {s1 sr : Ss} {bs : Str → Option (List Bool)} {cS : Value} {l : List IsD} {e2 ek : Expr} {th rest : List Stmt} {p1 p2 p3 p4 p5 p6 p7 p8 p9 p10 p11 p12 : Pos}
/-- the bodies' meanings -/
def UndB (X : Cx) (L : Lx) (m : Nat) (ds : List LD) (fbs : List Sm) : Prop := ∀ (k : Nat) d fb, ds[k]? = some d → fbs[k]? = some fb → ∀ (A : Around) (outer : List Env) (s : Shared) (H : Hp) (E : XK) (f c' : Addr), Room m (A.deeper (lamEnv X d.scope s.heap.objs.size f c')) → SE L (lamCx X A outer s H E d.scope f c') d.body fb
theorem pe_und (C : UndC X L ds wn kn x a iw ik m cS l) (ok : UndOk X.K L cS l bs) (hB : UndB X L m ds fbs) {k : Nat} {d : LD} {fb : Sm} (hd : ds[k]? = some d) (hf : fbs[k]? = some fb) {W : WX} (hs : starEach [.Subscript (.Name wn p2) (.Name kn p3) p4] X.env = (false, eval (.Subscript (.Name wn p2) (.Name kn p3) p4) X.env) :: starEach [] X.env) :
    PE X (.Call (.Name x p1) [.Subscript (.Name wn p2) (.Name kn p3) p4] [] p5) (fun σ H Q => PreW X ds iw ik k σ H ∧ rdE X.K L W (froz (nUnd bs fb)) σ H Q) := by
  obtain ⟨g, pg, bg, sg, dV, kV, doc, pm, cdv, ct, oc, an, od, osl, Ng, h1, h2, h3, h4, h5, h6, h7, h8, h9⟩ := C.fn
  have md : d ∈ ds := List.mem_of_getElem? hd
  have one : ∀ {P : LD → Prop}, P d → ∀ d' ∈ [d], P d' := fun {P} h d' m => by rw [List.mem_singleton.mp m]; exact h
  refine PE.imp (pe_givenO (ds := [d]) (t := fun _ E => rdE X.K L (fun cls d _ H' => E cls d H') fb) (TT := TUnd X.K cS l) (k := m) C.hg h1 h2 h3 h4 h5 h6 h7 h8 (one (h9 d)) C.room (one (C.lds d md).sc) (one (C.bind d md))
    (pe_ix (ix_list (X := X)) (pe_var (pos := p2) C.iwn C.vw C.dw C.cw) (pe_var (pos := p3) C.ikn C.vk C.dk C.ck) (by intro _ _; rfl))
    (fun d' md' A outer s H E f c' r => by
      have e := List.mem_singleton.mp md'
      subst e
      exact (hB k _ fb hd hf A outer s H E f c' r).pe _ (takes_of rfl rfl rfl rfl)) hs C.dx C.da C.ca) fun σ H Q h => ?_
  obtain ⟨⟨p, ps, g1, g2, g3, g4⟩, ν, ρ, q, s, en, pp⟩ := h
  obtain ⟨pr, e1, e2⟩ := g4.get hd
  refine ⟨.ref p, g1, .int (k : Int), g2, p, _, (k : Int), .ref pr.1, rfl, rfl, .inl (.inl g3), atI_nat (by rw [List.getElem?_map, e1]; rfl), d, pr, List.mem_singleton_self d, rfl, e2, und_rd ok s en pp⟩
theorem ps_und (C : UndC X L ds wn kn x a iw ik m cS l) (ok : UndOk X.K L cS l bs) (hB : UndB X L m ds fbs) (hu : X.A.units + 64 < cLine) {k : Nat} {d : LD} {fb : Sm} (hd : ds[k]? = some d) (hf : fbs[k]? = some fb) {W : WX} (tk : Takes X W) (hp : PassesOwn (model X.prog X.w) X.A X.env X.xe) (he2 : SE L X e2 f2) (hth : SSs L X th s1)
    (hs : starEach [.Subscript (.Name wn p2) (.Name kn p3) p4] X.env = (false, eval (.Subscript (.Name wn p2) (.Name kn p3) p4) X.env) :: starEach [] X.env) (hm : behindInMarks .NotEq e2 = false) :
    PS X (.If (.Compare (.Call (.Name x p1) [.Subscript (.Name wn p2) (.Name kn p3) p4] [] p5) [.NotEq] [e2] p6) th [] p7) (fun D σ H => PreW X ds iw ik k σ H ∧ rdS X.K L W (xIf (tBl (sOp oNe (froz (nUnd bs fb)) f2)) s1 xNil) D σ H) := by
  have pt : PT X (.Compare (.Call (.Name x p1) [.Subscript (.Name wn p2) (.Name kn p3) p4] [] p5) [.NotEq] [e2] p6) (fun σ H Q => PreW X ds iw ik k σ H ∧ rdT X.K L W (tBl (sOp oNe (froz (nUnd bs fb)) f2)) σ H Q) := by
    refine PT.imp (pt_cmpR (os_ne (L := L) hu) (pe_und (p1 := p1) (p2 := p2) (p3 := p3) (p4 := p4) (p5 := p5) (W := W) C ok hB hd hf hs) (he2.pe W tk) hm) fun σ H Q h => ?_
    obtain ⟨h0, ν, ρ, q, s, en, p⟩ := h
    refine ⟨h0, ?_⟩
    refine bin_rd (fun x y H Q h => h) nx_oNe ?_
    exact rdE_of s en p fun t v q' ν' H' ft s' en' r p' => by
      cases t with
      | bl b => cases r; exact ⟨b, rfl, p'.now s'⟩
      | _ => exact p'.elim
  refine PS.imp (ps_if pt (hth.ps W tk hp) ((sss_nil (L := L)).ps W tk hp)) fun D σ H h => ?_
  obtain ⟨h0, ν, ρ, q, s, en, p⟩ := h
  refine ⟨h0, ?_⟩
  exact rdT_to s en p fun b q' ν' H' f s' en' p' => by
    cases b with
    | true => exact ⟨ν', ρ, q', s', en', p'⟩
    | false => exact ⟨ν', ρ, q', s', en', p'⟩
theorem sss_und (C : UndC X L ds wn kn x a iw ik m cS l) (ok : UndOk X.K L cS l bs) (hB : UndB X L m ds fbs) (hu : X.A.units + 64 < cLine) (hN : X.N.Nodup) (hlw : X.env.scope.names.lookup wn = some .local) (hlk : Loc X.env.scope kn) (hfk : X.fn kn = true ∨ X.env.scope.names.lookup kn = some .local) (hne : iw ≠ ik)
    (hlen : ds.length = fbs.length) (hsz : ds.length ≤ 1000) (hek : SE L X ek fk) (he2 : SE L X e2 f2) (hth : SSs L X th s1) (hr : SSs L X rest sr)
    (hs : starEach [.Subscript (.Name wn p2) (.Name kn p3) p4] X.env = (false, eval (.Subscript (.Name wn p2) (.Name kn p3) p4) X.env) :: starEach [] X.env) (hm : behindInMarks .NotEq e2 = false)
    (hs1 : swapsWith (.List (ds.map LD.ex) p8) (some (.Name wn p9)) p10.line X.env = pure false) (hs2 : swapsWith ek (some (.Name kn p11)) p12.line X.env = pure false) :
    SSs L X (.Assign [.Name wn p9] (.List (ds.map LD.ex) p8) p10 :: .Assign [.Name kn p11] ek p12 :: .If (.Compare (.Call (.Name x p1) [.Subscript (.Name wn p2) (.Name kn p3) p4] [] p5) [.NotEq] [e2] p6) th [] p7 :: rest) (xUnd iw ik fk fbs bs f2 s1 sr) := by
  refine ⟨fun W tk hp => ?_⟩
  have s1' := ps_set (i := iw) (pos := p10) (pos' := p9) hN C.iwn (.inl hlw) (pe_lst (pos := p8) (pa_lams C.lds)) hs1 (.inr hlw)
  have s2' := ps_set (i := ik) (pos := p12) (pos' := p11) hN C.ikn hlk (hek.pe W tk) hs2 hfk
  have s3' : PS X (.If (.Compare (.Call (.Name x p1) [.Subscript (.Name wn p2) (.Name kn p3) p4] [] p5) [.NotEq] [e2] p6) th [] p7) (fun D σ H => ∃ (k : Nat) (d : LD) (fb : Sm), ds[k]? = some d ∧ fbs[k]? = some fb ∧ PreW X ds iw ik k σ H ∧ rdS X.K L W (xIf (tBl (sOp oNe (froz (nUnd bs fb)) f2)) s1 xNil) D σ H) :=
    ⟨fun pins s σ H D I ⟨k, d, fb, e1, e2, h⟩ => (ps_und C ok hB hu e1 e2 tk hp he2 hth hs hm).run pins s σ H D I h⟩
  refine ⟨fun pins sh σ H D I h => (pss_cons s1' (pss_cons s2' (pss_cons s3' (hr.ps W tk hp)))).run pins sh σ H D I ?_⟩
  have hil : σ.length = X.N.length := I.len
  have hiw : iw < σ.length := by rw [hil]; exact (List.getElem?_eq_some_iff.mp C.iwn).1
  have hik : ik < σ.length := by rw [hil]; exact (List.getElem?_eq_some_iff.mp C.ikn).1
  obtain ⟨ν, ρ, q, s, en, p⟩ := h
  refine ⟨s.tabs, fun ps H1 e1 n1 T1 hfr hl => ⟨by rw [List.length_map, hl.len]; exact Nat.le_trans hsz (Nat.le_of_ble_eq_true rfl), fun pw hpw => ?_⟩⟩
  have f1 := extN_fut (ν := ν) e1 n1
  have sA := s.extN e1 n1 T1
  have nw : New H1 (L2.upd H1 pw (.lst (ps.map fun p => V.ref p.1))) := New.upd hpw
  have sB := sA.new nw
  have fB := f1.trans (nw.fut ν)
  have enB : EnvOk X.K L ν (L2.upd H1 pw (.lst (ps.map fun p => V.ref p.1))) (ρ.set iw none) (σ.set iw (some (.ref pw))) := (en.fut fB).drop iw _
  have lB : LamsIn X (L2.upd H1 pw (.lst (ps.map fun p => V.ref p.1))) ds ps := hl.ext fun b o z _ => nw.keep b o z
  have fz : ∀ p ∈ ps, (true, p.1) ∉ ν.l := fun p m => (s.notIn_none (hfr p m)).1
  have fw : (true, pw) ∉ ν.l := (sA.notIn_none hpw).1
  unfold xUnd at p
  refine rdE_to sB enB (PostS.fut fB p) fun t v q1 ν' H' f s' en' r p' => ?_
  cases t with
  | int i =>
    cases i with
    | negSucc k => exact p'.elim
    | ofNat k =>
      simp only at p'
      cases ek : fbs[k]? with
      | none => rw [ek] at p'; exact p'.elim
      | some fb =>
        rw [ek] at p'
        simp only at p'
        have hk : k < ds.length := by rw [hlen]; exact (List.getElem?_eq_some_iff.mp ek).1
        obtain rfl := rep_int r
        refine ⟨k, ds[k], fb, List.getElem?_eq_getElem hk, ek, ⟨pw, ps, ?_, ?_, f.hold upd_same fw (fun _ z => by cases z) (fun _ z => by cases z), lB.fut sB f fz⟩, ν', _, q1, s', en'.set ik r, ?_⟩
        · rw [List.getElem?_set_ne (Ne.symm hne), List.getElem?_set_self hiw]
        · rw [List.getElem?_set_self (by rw [List.length_set]; exact hik)]; rfl
        · cases e3 : xIf (tBl (sOp oNe (froz (nUnd bs fb)) f2)) s1 xNil ((ρ.set iw none).set ik (some (.int (Int.ofNat k)))) q1 with
          | nx ρ2 q2 =>
            rw [e3, then_nx] at p'
            exact fun ν2 H2 σ2 g s2 en2 => ⟨ν2, ρ2, q2, s2, en2, PostS.fut g p'⟩
          | _ => rw [e3] at p'; exact p'
  | _ => exact p'.elim
end
end SP

namespace SP
open PySem PySem.Spec PyProof.Rows L2 SeqAt LamX
/-! ### what the tests say, by a look at the statics -/
def isV (K : PySem.W.Frag) (nm : Str) : V := if nm = "ValueError" then .ty "ValueError" else .ref (He.ga K nm)
def isCv (K : PySem.W.Frag) (nm : Str) : Value := if nm = "ValueError" then .type "ValueError" else .ref (He.ga K nm)
theorem isV_rel {K : PySem.W.Frag} {nm : Str} : ∀ u, L2.RelV (isV K nm) u → u = isCv K nm := fun u h => by
  unfold isV at h
  unfold isCv
  split at h
  · rename_i c; rw [if_pos c]; exact h
  · rename_i c; rw [if_neg c]; exact h
def isdOf (K : PySem.W.Frag) : Expr → IsD
  | .Call (.Name _ p) [.Name _ p1, .Name nm p2] [] p3 => ⟨nm, isV K nm, isCv K nm, p, p1, p2, p3⟩
  | _ => ⟨"", isV K "", isCv K "", ⟨0, 0, 0, 0⟩, ⟨0, 0, 0, 0⟩, ⟨0, 0, 0, 0⟩, ⟨0, 0, 0, 0⟩⟩
theorem isdOf_cv {K : PySem.W.Frag} (e : Expr) : (isdOf K e).cv = isCv K (isdOf K e).nm ∧ (isdOf K e).v = isV K (isdOf K e).nm := by
  unfold isdOf
  split <;> exact ⟨rfl, rfl⟩
def undV (x y : Str) : Bool := decide (x = y) || decide (y = "ValueError")
def excB (K : PySem.W.Frag) (D : Addr) : Bool :=
  (decide (PySem.W.findIn K (.ref D) "__getattribute__" = some (some (.builtin "BaseException.__getattribute__"))) && decide (PySem.W.findIn K (.ref D) "__getattr__" = some none) && decide (PySem.W.subIn K (.ref D) (.type "BaseException") = some true) && PySem.W.hasDictIn K D) &&
  (decide (PySem.W.findIn K (.ref D) "__class__" = some (some (.builtin "object.__class__"))) && decide (PySem.W.specialIn K (.builtin "object.__class__") "__get__" = some (some (.builtin "getset_descriptor.__get__"))) && decide (PySem.W.takesIn K (.builtin "object.__class__") = some true) && decide (PySem.W.mroIn K D (.type "object") = some true))
theorem excB_of {K : PySem.W.Frag} {D : Addr} (h : excB K D = true) : ExcC K D := by
  unfold excB at h
  simp only [Bool.and_eq_true, decide_eq_true_eq] at h
  obtain ⟨⟨⟨⟨h1, h2⟩, h3⟩, h4⟩, ⟨⟨⟨h5, h6⟩, h7⟩, h8⟩⟩ := h
  exact ⟨h1, h2, h3, h4, h5, h6, h7, h8⟩
def undB (K : PySem.W.Frag) (xs ys : List Str) : Bool := xs.all fun x => (decide (PySem.W.exmOne K (.ref (He.ga K x)) (.ref (He.ga K "SaddleFault")) = some true) && excB K (He.ga K x)) && ys.all fun y => decide (PySem.W.kitOne K (.ref (He.ga K x)) (isCv K y) = some (undV x y))
class HasUnd (K : PySem.W.Frag) (xs ys : List Str) : Prop where
  ok : undB K xs ys = true
def undBs (xs ys : List Str) : Str → Option (List Bool) := fun c => if xs.contains c = true then some (ys.map (undV c)) else none
theorem kits_of {K : PySem.W.Frag} {D : Addr} {x : Str} : ∀ {l : List IsD}, (∀ i ∈ l, PySem.W.kitOne K (.ref D) i.cv = some (undV x i.nm)) → Kits K D l (l.map fun i => undV x i.nm)
  | [], _ => .nil
  | i :: l, h => .cons (h i (List.mem_cons_self ..)) (kits_of fun j m => h j (List.mem_cons_of_mem _ m))
theorem undOk {t : Txt} {K : PySem.W.Frag} {pw : Program × World} {xs ys : List Str} [h : HasUnd K xs ys] {l : List IsD} (hl : l.map (·.nm) = ys) (hv : ∀ i ∈ l, i.cv = isCv K i.nm) : UndOk K (t.L K pw) (.ref (He.ga K "SaddleFault")) l (undBs xs ys) := fun c C b h1 h2 => by
  obtain ⟨_, rfl⟩ := Txt.cl_inv h1
  unfold undBs at h2
  split at h2
  · rename_i hc
    cases h2
    have hx : c ∈ xs := by simpa using hc
    have z := List.all_eq_true.mp h.ok c hx
    rw [Bool.and_eq_true, Bool.and_eq_true, decide_eq_true_eq] at z
    obtain ⟨⟨z1, z2⟩, z3⟩ := z
    refine ⟨z1, excB_of z2, ?_⟩
    subst hl
    rw [List.map_map]
    refine kits_of fun i m => ?_
    rw [hv i m]
    exact of_decide_eq_true (List.all_eq_true.mp z3 _ (List.mem_map.mpr ⟨i, m, rfl⟩))
  · cases h2
/-- the tests' names -/
def nmsB (sc : Scope) (glos : List Str) : Expr → Bool
  | .Call (.Name _ _) [.Name _ _, .Name nm _] [] _ => decide (sc.names.lookup nm = some .globalImplicit) && (nm == "ValueError" || glos.contains nm) && !(nm == "__debug__") && !(nm == "__name__")
  | _ => false
theorem isnm_of {t : Txt} {K : PySem.W.Frag} {mg : Str → Option Value} {base : Heap} (E : Ev t K mg base) {X : Cx} (hmg : X.mg = mg) (hV : mg "ValueError" = none) {es : List Expr} (h : es.all (nmsB X.env.scope t.glos) = true) : ∀ i ∈ es.map (isdOf K), IsNm X i := fun i m => by
  obtain ⟨e, me, rfl⟩ := List.mem_map.mp m
  have z := List.all_eq_true.mp h e me
  obtain ⟨z1, z2⟩ := isdOf_cv (K := K) e
  refine ⟨fun A calm pn xe => ?_, fun u r => ?_⟩
  · unfold nmsB at z
    split at z
    · rename_i nm0 p0 nm1 p1 nm p2 p3
      simp only [Bool.and_eq_true, decide_eq_true_eq, Bool.or_eq_true, beq_iff_eq, Bool.not_eq_true'] at z
      obtain ⟨⟨⟨z3, z4⟩, z5⟩, z6⟩ := z
      show PE { X with A := A, calm := calm, pn := pn, xe := xe } (.Name nm p2) (tC (isV K nm))
      by_cases c : nm = "ValueError"
      · subst c
        exact pe_bltn (u := .type "ValueError") z3 (by show X.mg "ValueError" = none; rw [hmg]; exact hV) rfl rfl (by decide) (by decide)
      · unfold isV
        rw [if_neg c]
        have z4 : t.glos.contains nm = true := z4.resolve_left c
        exact pe_glob (u := .ref (He.ga K nm)) z3 (by show X.mg nm = _; rw [hmg]; exact E.glo nm z4) rfl z5
    · cases z
  · rw [z2] at r
    rw [z1]
    exact isV_rel u r
theorem isnm3 {X : Cx} {l1 l2 l3 : List IsD} (h1 : ∀ i ∈ l1, IsNm X i) (h2 : ∀ i ∈ l2, IsNm X i) (h3 : ∀ i ∈ l3, IsNm X i) : ∀ i ∈ l1 ++ l2 ++ l3, IsNm X i := fun i m => by
  rcases List.mem_append.mp m with m | m
  · rcases List.mem_append.mp m with m | m
    · exact h1 i m
    · exact h2 i m
  · exact h3 i m
/-! the parts of the text -/
def undE (b : List Stmt) (k : Nat) : List Expr := match b with
  | .Try _ [.ExceptHandler _ _ [.Assign _ (.List e1 _) _, .Assign _ (.BinOp _ _ (.List e2 _) _) _, .Return (some (.BinOp _ _ (.List e3 _) _)) _] _] _ _ _ :: _ => [e1, e2, e3].getD k []
  | _ => []
def ldOf : Expr → LD
  | .Lambda p b s pos => ⟨p, b, s, pos⟩
  | _ => ⟨⟨[], [], none, [], [], none, []⟩, .Constant .none 0 ⟨0, 0, 0, 0⟩, default, ⟨0, 0, 0, 0⟩⟩
def forBd : Stmt → List Stmt
  | .For _ _ b _ _ => b
  | _ => []
def stAt (l : List Stmt) (k : Nat) : Stmt := l.getD k (.Pass ⟨0, 0, 0, 0⟩)
def lamL : Stmt → List LD
  | .Assign _ (.List es _) _ => es.map ldOf
  | _ => []
/-! builders -/
section
variable {X : Cx} {L : Lx} {T : List NdefX.NTab} {m : Nat}
inductive LdAll (X : Cx) (T : List NdefX.NTab) : List LD → Prop
  | nil : LdAll X T []
  | cons {d : LD} {ds : List LD} (h : LDok X T d) (r : LdAll X T ds) : LdAll X T (d :: ds)
theorem LdAll.all : ∀ {ds : List LD}, LdAll X T ds → ∀ d ∈ ds, LDok X T d
  | _, .nil, d, m => by cases m
  | _, .cons h r, d, m => by
    rcases List.mem_cons.mp m with e | m
    · rw [e]; exact h
    · exact LdAll.all r d m
inductive BindAll (X : Cx) : List LD → Prop
  | nil : BindAll X []
  | cons {d : LD} {ds : List LD} (h : ∀ (pm cv ctv : Value), bindArgs (PySem.W.kla_fn "<lambda>" (X.env.qual ++ "<lambda>") d.params d.body d.scope (cloFrom X.env.cells d.scope.names []) pm cv ctv) ⟨[], []⟩ = pure []) (r : BindAll X ds) : BindAll X (d :: ds)
theorem BindAll.all : ∀ {ds : List LD}, BindAll X ds → ∀ d ∈ ds, ∀ (pm cv ctv : Value), bindArgs (PySem.W.kla_fn "<lambda>" (X.env.qual ++ "<lambda>") d.params d.body d.scope (cloFrom X.env.cells d.scope.names []) pm cv ctv) ⟨[], []⟩ = pure []
  | _, .nil, d, m => by cases m
  | _, .cons h r, d, m => by
    rcases List.mem_cons.mp m with e | m
    · rw [e]; exact h
    · exact BindAll.all r d m
theorem undB_nil : UndB X L m [] [] := fun k d fb h => by cases h
theorem undB_cons {d : LD} {ds : List LD} {fb : Sm} {fbs : List Sm} (h : ∀ (A : Around) (outer : List Env) (s : Shared) (H : Hp) (E : XK) (f c' : Addr), Room m (A.deeper (lamEnv X d.scope s.heap.objs.size f c')) → SE L (lamCx X A outer s H E d.scope f c') d.body fb) (r : UndB X L m ds fbs) : UndB X L m (d :: ds) (fb :: fbs) := fun k d' fb' h1 h2 => by
  cases k with
  | zero => cases h1; cases h2; exact h
  | succ k => exact r k d' fb' h1 h2
end
/-! the look -/
def Txt.exU (t : Txt) (P : Program) (xs ys : List Str) (K : PySem.W.Frag) : Bool := t.exR P K && undB K xs ys
theorem saysU_r {t : Txt} {P : Program} {xs ys : List Str} {w : World} {h : Heap} {K : PySem.W.Frag} (c : He.SaysX t.fa t.fn [] t.defns (t.exU P xs ys) w h K) : He.SaysX t.fa t.fn [] t.defns (t.exR P) w h K := ⟨c.t, (Bool.and_eq_true_iff.mp c.more).1, c.hd, c.out, c.empty⟩
theorem saysU_u {t : Txt} {P : Program} {xs ys : List Str} {w : World} {h : Heap} {K : PySem.W.Frag} (c : He.SaysX t.fa t.fn [] t.defns (t.exU P xs ys) w h K) : HasUnd K xs ys := ⟨(Bool.and_eq_true_iff.mp c.more).2⟩
end SP

namespace SP.Law
open PySem PySem.Spec PyProof.Rows L2 SeqAt SP
def top (i : Nat) : Stmt := PySem.Challenge.pw_saddlehall_k21_refusals_apart.main.body.getD i (.Pass ⟨0, 0, 0, 0⟩)
def clsB : Stmt → List Stmt
  | .ClassDef _ _ _ body _ _ _ _ _ _ _ => body
  | _ => []
def mth (i j : Nat) : Stmt := (clsB (top i)).getD j (.Pass ⟨0, 0, 0, 0⟩)
def dF (x : Str) (i : Nat) : He.DefD := ⟨(x, none), x, x, defArgs (top i), defBody (top i), defScope (top i), [], []⟩
def dM (c x r : Str) (i j : Nat) : He.DefD := ⟨(c, some x), x, r, defArgs (mth i j), defBody (mth i j), defScope (mth i j), [], []⟩
def f_read_line_nm : Nat → Nat → Str := fun _ _ => (("read_line" : Str) ++ ".<locals>.") ++ "<genexpr>"
def m_Strap_init_nm : Nat → Nat → Str := fun _ _ => (("Strap.__init__" : Str) ++ ".<locals>.") ++ "<genexpr>"
def m_Mule_init_nm : Nat → Nat → Str := fun _ _ => (("Mule.__init__" : Str) ++ ".<locals>.") ++ "<genexpr>"
def f_law_nm : Nat → Nat → Str := fun _ _ => (("law" : Str) ++ ".<locals>.") ++ "<lambda>"
def K_LETTERS : T := .tup [.tup [.str "A", .int 0, .int 10], .tup [.str "K", .int 6, .int 0], .tup [.str "E", .int 20, .int 0], .tup [.str "H", .int 34, .int 0], .tup [.str "C", .int 40, .int 10], .tup [.str "M", .int 34, .int 20], .tup [.str "B", .int 20, .int 20], .tup [.str "F", .int 6, .int 20]]
def TX : Txt where
  glos := ["told_off", "read_line", "letter_spot", "_law_dice", "_law_roll", "_law_rounds", "_law_under", "law", "Carriage", "Line", "Book", "Desk", "Nag", "Strap", "Mule", "BadSize", "BadPlan", "NoSuch", "NoRoom", "NoWay", "Tired", "BadText", "BadDeed", "LETTERS", "SaddleFault"]
  frees := ["ValueError", "abs", "any", "enumerate", "int", "isinstance", "len", "list", "min", "range", "sorted", "str", "sum", "super", "tuple"]
  clss := ["Carriage", "Line", "Book", "Desk", "Nag", "Strap", "Mule"]
  mks := ["Carriage", "Line", "Book", "Desk", "Nag", "Strap", "Mule"]
  flds := ["bears", "coins", "day", "deed", "deeds", "fore", "hind", "holes", "left", "length", "lines", "luggage", "name", "number", "right", "row", "seats", "skill", "text", "undone", "weight", "who"]
  meths := [("Carriage", "loaded"), ("Desk", "undo"), ("Strap", "around"), ("Strap", "hole_for")]
  excs := ["BadSize", "BadPlan", "NoSuch", "NoRoom", "NoWay", "Tired", "BadText", "BadDeed"]
  rais := ["BadDeed", "BadPlan", "BadSize", "NoRoom", "NoSuch", "NoWay", "Tired"]
  fn := [dF "told_off" 12, dM "Carriage" "__init__" "Carriage.__init__" 14 0, dM "Carriage" "loaded" "Carriage.loaded" 14 1, dF "read_line" 18, dM "Desk" "__init__" "Desk.__init__" 21 0, dM "Desk" "undo" "Desk.undo" 21 5, dM "Nag" "__init__" "Nag.__init__" 23 0, dF "letter_spot" 26, dM "Strap" "__init__" "Strap.__init__" 28 0, dM "Strap" "around" "Strap.around" 28 1, dM "Strap" "hole_for" "Strap.hole_for" 28 2, dM "Mule" "__init__" "Mule.__init__" 30 0, dF "_law_dice" 32, dF "_law_roll" 33, dF "_law_rounds" 34, dF "_law_under" 35, dF "law" 36]
  tf := [(("read_line", none), f_read_line_nm), (("Strap", some "__init__"), m_Strap_init_nm), (("Mule", some "__init__"), m_Mule_init_nm), (("law", none), f_law_nm)]
  kons := [("LETTERS", K_LETTERS)]
  eqs := []
theorem KMEM_LETTERS : ((("LETTERS" : Str), K_LETTERS) : Str × T) ∈ TX.kons := List.Mem.head _
theorem f_read_line_tf : (((("read_line", none) : He.Defn), f_read_line_nm) : He.Defn × (Nat → Nat → Str)) ∈ TX.tf := List.Mem.head _
theorem m_Strap_init_tf : (((("Strap", some "__init__") : He.Defn), m_Strap_init_nm) : He.Defn × (Nat → Nat → Str)) ∈ TX.tf := List.Mem.tail _ (List.Mem.head _)
theorem m_Mule_init_tf : (((("Mule", some "__init__") : He.Defn), m_Mule_init_nm) : He.Defn × (Nat → Nat → Str)) ∈ TX.tf := List.Mem.tail _ (List.Mem.tail _ (List.Mem.head _))
theorem f_law_tf : (((("law", none) : He.Defn), f_law_nm) : He.Defn × (Nat → Nat → Str)) ∈ TX.tf := List.Mem.tail _ (List.Mem.tail _ (List.Mem.tail _ (List.Mem.head _)))
def XS : List Str := ["BadSize", "BadPlan", "NoSuch", "NoRoom", "NoWay", "Tired", "BadText", "BadDeed"]
def YS : List Str := ["BadDeed", "BadPlan", "BadSize", "BadText", "NoRoom", "NoSuch", "NoWay", "Tired", "ValueError"]
def UE (k : Nat) : List Expr := undE (defBody (top 35)) k
def UL (K : PySem.W.Frag) : List IsD := (UE 0).map (isdOf K) ++ (UE 1).map (isdOf K) ++ (UE 2).map (isdOf K)
theorem UL_cv {K : PySem.W.Frag} : ∀ i ∈ UL K, i.cv = isCv K i.nm := fun i m => by
  have key : ∀ es : List Expr, i ∈ es.map (isdOf K) → i.cv = isCv K i.nm := fun es m => by
    obtain ⟨e, _, rfl⟩ := List.mem_map.mp m
    exact (isdOf_cv e).1
  rcases List.mem_append.mp m with m | m
  · rcases List.mem_append.mp m with m | m
    · exact key _ m
    · exact key _ m
  · exact key _ m
theorem und_c {K : PySem.W.Frag} {mg : Str → Option Value} {base : Heap} {X : Cx} {fd : FuncData} (E : Ev TX K mg base) (FU : FunD K "_law_under" "_law_under" (defArgs (top 35)) (defBody (top 35)) (defScope (top 35)) [] [] (He.ga K "_law_under") fd) (hK : X.K = K) (hmg : X.mg = mg) :
    ∃ (g : Addr) (pg : Arguments) (bg : List Stmt) (sg : Scope) (dV kV doc pm cdv ct oc : Value) (an od : Option Addr) (osl : Array (Option Value)) (Ng : List Str),
    X.mg "_law_under" = some (.ref g) ∧ PySem.W.keepIn X.K (.ref g) = true ∧ X.K.lookup g = some ⟨oc, od, .func (PySem.W.fnOf "_law_under" "_law_under" pg bg sg dV kV doc pm an cdv ct), osl⟩ ∧ PySem.W.codeIn X.K cdv "_law_under" = true ∧ L2.Binds X.K (PySem.W.fnOf "_law_under" "_law_under" pg bg sg dV kV doc pm an cdv ct) ["what"] [] ∧ FnScope Ng ["what"] sg ∧ Ng[0]? = some ("what" : Str) ∧ Vis sg "what" ∧
    ∀ d, GivesO X Ng "_law_under" sg g cdv bg "what" d (TUnd X.K (.ref (He.ga K "SaddleFault")) (UL K)) := by
  subst hK hmg
  have b := FU.bindsN (ps := ["what"]) fun _ _ _ _ _ _ us hl => match us, hl with | [_], _ => rfl
  obtain ⟨oc, od, dV, kV, doc, pm, an, cdv, ct, osl, rfl, lk, hcd, _, _⟩ := id FU.ex
  refine ⟨He.ga X.K "_law_under", _, _, _, _, _, _, _, _, _, _, _, _, _, ["what", "e", "some"], E.glo "_law_under" rfl, FU.kp, lk, hcd, b, ⟨rfl, rfl, rfl, by decide +kernel, rfl, by decide +kernel, by decide +kernel⟩, rfl, .inl rfl, fun d => ?_⟩
  exact und_gives (l1 := (UE 0).map (isdOf X.K)) (l2 := (UE 1).map (isdOf X.K)) (l3 := (UE 2).map (isdOf X.K)) (ie := 1) (is := 2) (en := "e") (sm := "some") (by decide) (fun _ => rfl) rfl rfl rfl rfl (by decide)
    (fun s H => ⟨rfl, by decide, .inl (E.glo "SaddleFault" rfl)⟩) (fun s H => rfl) (E.free "isinstance" rfl) (by decide) (by decide) (by decide) (by decide) (Nat.le_of_ble_eq_true rfl)
    (fun s H => isnm3 (isnm_of (X := (cxOf C8.CX0 X.prog X.w X.K X.mg X.base ["what", "e", "some"] "_law_under" (defScope (top 35)) (He.ga X.K "_law_under") cdv X.A X.stack s H C8.E0).nox) (es := UE 0) E rfl (E.free "ValueError" rfl) rfl) (isnm_of (X := (cxOf C8.CX0 X.prog X.w X.K X.mg X.base ["what", "e", "some"] "_law_under" (defScope (top 35)) (He.ga X.K "_law_under") cdv X.A X.stack s H C8.E0).nox) (es := UE 1) E rfl (E.free "ValueError" rfl) rfl) (isnm_of (X := (cxOf C8.CX0 X.prog X.w X.K X.mg X.base ["what", "e", "some"] "_law_under" (defScope (top 35)) (He.ga X.K "_law_under") cdv X.A X.stack s H C8.E0).nox) (es := UE 2) E rfl (E.free "ValueError" rfl) rfl)) (fun _ _ => rfl) (fun _ _ => rfl)
section
variable {P : Program} {w : World} {K : PySem.W.Frag} {mg : Str → Option Value} {base : Heap} [SP.HasRow P K] [SP.HasUnd K XS YS]
/-! _law_dice -/
def N_f_law_dice : List Str := ["cell"]
theorem nd_f_law_dice : N_f_law_dice.Nodup := by decide +kernel
theorem sc_f_law_dice : FnScope N_f_law_dice ["cell"] (defScope (top 32)) := ⟨rfl, rfl, rfl, by decide +kernel, rfl, by decide +kernel, by decide +kernel⟩
noncomputable def b_f_law_dice : Ss := (xSeq (xIf (tBl (sChain oLt oLt (sOp oSub (sC (.int 0)) (sC (.int 10))) (sVar 0) (sC (.int 10)))) (xSeq (xRet (thaw (nLst (aCons (sCall fAbs (aCons (sVar 0) aNil)) (aCons (sC (.int 0)) (aCons (sC (.int 2)) aNil)))))) xNil) xNil) (xSeq (xRet (thaw (nLst (aCons (sVar 0) (aCons (sOp oAdd (sC (.int 1)) (sOp oMod (sCall fInt (aCons (sVar 0) aNil)) (sC (.int 1009)))) (aCons (sCall fInt (aCons (sOp oGe (sVar 0) (sOp oPow (sC (.int 10)) (sC (.int 18)))) aNil)) aNil)))))) xNil))
noncomputable def F_f_law_dice : FS := runK 1 b_f_law_dice
theorem d_f_law_dice (E : Ev TX K mg base) {A : Around} {outer : List Env} {s : Shared} {H : Hp} {Ex : XK} {f : Addr} {cdv : Value} (hcode : cdv = .ref (He.codeOf K ("_law_dice", none))) (hr : Room 1 (A.deeper (envOfC "_law_dice" (defScope (top 32)) s.heap.objs.size f cdv))) :
    SSs (TX.L K (P, w)) (cxOf (CX P w) P w K mg base N_f_law_dice "_law_dice" (defScope (top 32)) f cdv A outer s H Ex) (defBody (top 32)) (b_f_law_dice) := (sss_cons (ss_if (st_chain os_lt os_lt nx_oLt nx_oLt (se_sub se_int se_int) (se_var 0) se_int) (sss_cons (ss_ret (SN.mut (sn_lst (sa_cons (se_abs rfl (E.free "abs" rfl) (sa_cons (se_var 0) sa_nil)) (sa_cons se_int (sa_cons se_int sa_nil))))))
    sss_nil) sss_nil)
    (sss_cons (ss_ret (SN.mut (sn_lst (sa_cons (se_var 0) (sa_cons (se_add se_int (se_mod (se_int1 rfl (E.free "int" rfl) (sa_cons (se_var 0) sa_nil)) se_int)) (sa_cons (se_int1 rfl (E.free "int" rfl) (sa_cons (se_ge (se_var 0) (se_pow se_int se_int)) sa_nil)) sa_nil))))))
    sss_nil))
theorem k_f_law_dice (E : Ev TX K mg base) : Dk P w K mg base (TX.L K (P, w)) ("_law_dice", none) 2 ["cell"] F_f_law_dice := by
  obtain ⟨fd, F⟩ : ∃ fd, FunD K "_law_dice" "_law_dice" (defArgs (top 32)) (defBody (top 32)) (defScope (top 32)) [] [] (He.fAd K ("_law_dice", none)) fd := E.sd.def_ 12 (d := dF "_law_dice" 32) rfl
  exact Dk.of F sc_f_law_dice (fun _ _ _ _ _ _ us hl => match us, hl with | [_], _ => rfl) fun A outer s H Ex cdv hcode hr => d_f_law_dice E hcode hr
/-! _law_rounds -/
def N_f_law_rounds : List Str := ["script", "most", "cells", "cell"]
theorem nd_f_law_rounds : N_f_law_rounds.Nodup := by decide +kernel
theorem sc_f_law_rounds : FnScope N_f_law_rounds ["script", "most"] (defScope (top 34)) := ⟨rfl, rfl, rfl, by decide +kernel, rfl, by decide +kernel, by decide +kernel⟩
noncomputable def b_f_law_rounds : Ss := (xSeq (xSet 2 (sSl (sVar 0) sNoPart (sPart (sVar 1)))) (xSeq (xIf (tBl (sOp oEq (sVar 2) (sLst aNil))) (xSeq (xSet 2 (sLst (aCons (sC (.int 0)) aNil))) xNil) xNil) (xSeq (xRet (froz (nLc (iSeq (sVar 2)) (gNm 3) tTrue (sCall F_f_law_dice (aCons (sVar 3) aNil)) [3]))) xNil)))
noncomputable def F_f_law_rounds : FS := runK 4 b_f_law_rounds
theorem d_f_law_rounds (E : Ev TX K mg base) (D_f_law_dice : Dk P w K mg base (TX.L K (P, w)) ("_law_dice", none) 2 ["cell"] F_f_law_dice) {A : Around} {outer : List Env} {s : Shared} {H : Hp} {Ex : XK} {f : Addr} {cdv : Value} (hcode : cdv = .ref (He.codeOf K ("_law_rounds", none))) (hr : Room 2 (A.deeper (envOfC "_law_rounds" (defScope (top 34)) s.heap.objs.size f cdv))) :
    SSs (TX.L K (P, w)) (cxOf (CX P w) P w K mg base N_f_law_rounds "_law_rounds" (defScope (top 34)) f cdv A outer s H Ex) (defBody (top 34)) (b_f_law_rounds) := (sss_cons (ss_set (i := 2) nd_f_law_rounds rfl (.inl rfl) (se_slice (se_var 0) so_none (so_some (se_var 1))))
    (sss_cons (ss_if (st_eq hr.units (se_var 2) (se_lst sa_nil)) (sss_cons (ss_set (i := 2) nd_f_law_rounds rfl (.inl rfl) (se_lst (sa_cons se_int sa_nil)))
    sss_nil) sss_nil)
    (sss_cons (ss_ret (SN.se (sn_lc (own := [("cell", 3)]) rfl nd_f_law_rounds (si_seq (se_var 2)) (blkOk_by rfl) (fun _ _ _ _ _ => (sgw_name nd_f_law_rounds rfl (.inl rfl) (by decide))) (fun _ _ _ _ _ => sts_nil) (fun _ _ _ _ _ => (se_callD D_f_law_dice (hr.mono (by decide)) rfl (E.glo "_law_dice" rfl) (sa_cons (se_var 3) sa_nil) (ar_cons ar_nil))))))
    sss_nil)))
theorem k_f_law_rounds (E : Ev TX K mg base) (D_f_law_dice : Dk P w K mg base (TX.L K (P, w)) ("_law_dice", none) 2 ["cell"] F_f_law_dice) : Dk P w K mg base (TX.L K (P, w)) ("_law_rounds", none) 3 ["script", "most"] F_f_law_rounds := by
  obtain ⟨fd, F⟩ : ∃ fd, FunD K "_law_rounds" "_law_rounds" (defArgs (top 34)) (defBody (top 34)) (defScope (top 34)) [] [] (He.fAd K ("_law_rounds", none)) fd := E.sd.def_ 14 (d := dF "_law_rounds" 34) rfl
  exact Dk.of F sc_f_law_rounds (fun _ _ _ _ _ _ us hl => match us, hl with | [_, _], _ => rfl) fun A outer s H Ex cdv hcode hr => d_f_law_rounds E D_f_law_dice hcode hr
/-! _law_roll -/
def N_f_law_roll : List Str := ["dice", "many", "found"]
theorem nd_f_law_roll : N_f_law_roll.Nodup := by decide +kernel
theorem sc_f_law_roll : FnScope N_f_law_roll ["dice", "many"] (defScope (top 33)) := ⟨rfl, rfl, rfl, by decide +kernel, rfl, by decide +kernel, by decide +kernel⟩
noncomputable def b_f_law_roll : Ss := (xSeq (xIf (tOr' (tBl (sOp oEq (sOp oIx (sVar 0) (sC (.int 2))) (sC (.int 2)))) (tAn (tBl (sOp oEq (sOp oIx (sVar 0) (sC (.int 2))) (sC (.int 1)))) (tBl (sOp oGt (sOp oIx (sVar 0) (sC (.int 0))) (sC (.int 0)))))) (xSeq (xSet 2 (sOp oMod (sCall fInt (aCons (sOp oIx (sVar 0) (sC (.int 0))) aNil)) (sVar 1))) (xSeq (xSubL (sVar 0) (sC (.int 0)) (sOp oDiv (sOp oIx (sVar 0) (sC (.int 0))) (sVar 1))) (xSeq (xRet (sVar 2)) xNil))) xNil) (xSeq (xSubL (sVar 0) (sC (.int 2)) (sC (.int 0))) (xSeq (xSubL (sVar 0) (sC (.int 0)) (sOp oMod (sCall fInt (aCons (sOp oAdd (sOp oAdd (sOp oMul (sOp oIx (sVar 0) (sC (.int 0))) (sC (.int 48271))) (sOp oMul (sOp oIx (sVar 0) (sC (.int 1))) (sC (.int 69621)))) (sC (.int 11))) aNil)) (sC (.int 2147483647)))) (xSeq (xSubL (sVar 0) (sC (.int 1)) (sOp oAdd (sOp oIx (sVar 0) (sC (.int 1))) (sC (.int 1)))) (xSeq (xRet (sOp oMod (sCall fInt (aCons (sOp oAdd (sOp oDiv (sOp oIx (sVar 0) (sC (.int 0))) (sC (.int 7))) (sOp oIx (sVar 0) (sC (.int 0)))) aNil)) (sVar 1))) xNil)))))
noncomputable def F_f_law_roll : FS := runC 3 b_f_law_roll
theorem d_f_law_roll (E : Ev TX K mg base) {A : Around} {outer : List Env} {s : Shared} {H : Hp} {Ex : XK} {f : Addr} {cdv : Value} (hcode : cdv = .ref (He.codeOf K ("_law_roll", none))) (hr : Room 1 (A.deeper (envOfC "_law_roll" (defScope (top 33)) s.heap.objs.size f cdv))) :
    SSs (TX.L K (P, w)) (cxOf (CX P w) P w K mg base N_f_law_roll "_law_roll" (defScope (top 33)) f cdv A outer s H Ex) (defBody (top 33)) (b_f_law_roll) := (sss_cons (ss_if (SW.st (sw_or (st_eq hr.units (se_ix hr.units (se_var 0) se_int) se_int) (sw_or1 (SW.st (sw_and (st_eq hr.units (se_ix hr.units (se_var 0) se_int) se_int) (sw_and1 (st_gt (se_ix hr.units (se_var 0) se_int) se_int))))))) (sss_cons (ss_set (i := 2) nd_f_law_roll rfl (.inl rfl) (se_mod (se_int1 rfl (E.free "int" rfl) (sa_cons (se_ix hr.units (se_var 0) se_int) sa_nil)) (se_var 1)))
    (sss_cons (ss_subL (se_var 0) se_int (se_fdiv (se_ix hr.units (se_var 0) se_int) (se_var 1)))
    (sss_cons (ss_ret (se_var 2))
    sss_nil))) sss_nil)
    (sss_cons (ss_subL (se_var 0) se_int se_int)
    (sss_cons (ss_subL (se_var 0) se_int (se_mod (se_int1 rfl (E.free "int" rfl) (sa_cons (se_add (se_add (se_mul (se_ix hr.units (se_var 0) se_int) se_int) (se_mul (se_ix hr.units (se_var 0) se_int) se_int)) se_int) sa_nil)) se_int))
    (sss_cons (ss_subL (se_var 0) se_int (se_add (se_ix hr.units (se_var 0) se_int) se_int))
    (sss_cons (ss_ret (se_mod (se_int1 rfl (E.free "int" rfl) (sa_cons (se_add (se_fdiv (se_ix hr.units (se_var 0) se_int) se_int) (se_ix hr.units (se_var 0) se_int)) sa_nil)) (se_var 1)))
    sss_nil)))))
theorem k_f_law_roll (E : Ev TX K mg base) : Dk P w K mg base (TX.L K (P, w)) ("_law_roll", none) 2 ["dice", "many"] F_f_law_roll := by
  obtain ⟨fd, F⟩ : ∃ fd, FunD K "_law_roll" "_law_roll" (defArgs (top 33)) (defBody (top 33)) (defScope (top 33)) [] [] (He.fAd K ("_law_roll", none)) fd := E.sd.def_ 13 (d := dF "_law_roll" 33) rfl
  exact Dk.close (Dk.of F sc_f_law_roll (fun _ _ _ _ _ _ us hl => match us, hl with | [_, _], _ => rfl) fun A outer s H Ex cdv hcode hr => d_f_law_roll E hcode hr)
/-! Desk.__init__ -/
def N_m_Desk_init : List Str := ["self"]
theorem nd_m_Desk_init : N_m_Desk_init.Nodup := by decide +kernel
theorem sc_m_Desk_init : FnScope N_m_Desk_init ["self"] (defScope (mth 21 0)) := ⟨rfl, rfl, rfl, by decide +kernel, rfl, by decide +kernel, by decide +kernel⟩
noncomputable def b_m_Desk_init : Ss := (xSeq (xFld TX.ic "text" (sVar 0) (sC (.str "1 bess comes 900\n1 bess eats 8\n2 bess rides 12"))) (xSeq (xFld TX.ic "deeds" (sVar 0) (thaw (nLst aNil))) (xSeq (xFld TX.ic "undone" (sVar 0) (thaw (nLst aNil))) xNil)))
noncomputable def F_m_Desk_init : FS := runK 1 b_m_Desk_init
theorem d_m_Desk_init (E : Ev TX K mg base) {A : Around} {outer : List Env} {s : Shared} {H : Hp} {Ex : XK} {f : Addr} {cdv : Value} (hcode : cdv = .ref (He.codeOf K ("Desk", some "__init__"))) (hr : Room 1 (A.deeper (envOfC "Desk.__init__" (defScope (mth 21 0)) s.heap.objs.size f cdv))) :
    SSs (TX.L K (P, w)) (cxOf (CX P w) P w K mg base N_m_Desk_init "Desk.__init__" (defScope (mth 21 0)) f cdv A outer s H Ex) (defBody (mth 21 0)) (b_m_Desk_init) := (sss_cons (ss_fld (E.fld rfl "text" rfl) (se_var 0) se_str)
    (sss_cons (ss_fld (E.fld rfl "deeds" rfl) (se_var 0) (SN.mut (sn_lst sa_nil)))
    (sss_cons (ss_fld (E.fld rfl "undone" rfl) (se_var 0) (SN.mut (sn_lst sa_nil)))
    sss_nil)))
theorem k_m_Desk_init (E : Ev TX K mg base) : Dk P w K mg base (TX.L K (P, w)) ("Desk", some "__init__") 2 ["self"] F_m_Desk_init := by
  obtain ⟨fd, F⟩ : ∃ fd, FunD K "__init__" "Desk.__init__" (defArgs (mth 21 0)) (defBody (mth 21 0)) (defScope (mth 21 0)) [] [] (He.fAd K ("Desk", some "__init__")) fd := E.sd.def_ 4 (d := dM "Desk" "__init__" "Desk.__init__" 21 0) rfl
  exact Dk.of F sc_m_Desk_init (fun _ _ _ _ _ _ us hl => match us, hl with | [_], _ => rfl) fun A outer s H Ex cdv hcode hr => d_m_Desk_init E hcode hr
/-! Desk.undo -/
def N_m_Desk_undo : List Str := ["self", "deed"]
theorem nd_m_Desk_undo : N_m_Desk_undo.Nodup := by decide +kernel
theorem sc_m_Desk_undo : FnScope N_m_Desk_undo ["self"] (defScope (mth 21 5)) := ⟨rfl, rfl, rfl, by decide +kernel, rfl, by decide +kernel, by decide +kernel⟩
noncomputable def b_m_Desk_undo : Ss := (xSeq (xIf (tBl (sOp oEqN (sFld TX.ic "deeds" (sVar 0)) (sLst aNil))) (xSeq (xRaise "BadDeed" (aCons (sC (.str "nothing to undo")) aNil)) xNil) xNil) (xSeq (xSet 1 (sBM mPop (sFld TX.ic "deeds" (sVar 0)) aNil)) (xSeq (xExpr (sBM mAppend (sFld TX.ic "undone" (sVar 0)) (aCons (sVar 1) aNil))) (xSeq (xFld TX.ic "text" (sVar 0) (sOp oIx (sVar 1) (sC (.int 0)))) xNil))))
noncomputable def F_m_Desk_undo : FS := runK 2 b_m_Desk_undo
theorem d_m_Desk_undo (E : Ev TX K mg base) {A : Around} {outer : List Env} {s : Shared} {H : Hp} {Ex : XK} {f : Addr} {cdv : Value} (hcode : cdv = .ref (He.codeOf K ("Desk", some "undo"))) (hr : Room 1 (A.deeper (envOfC "Desk.undo" (defScope (mth 21 5)) s.heap.objs.size f cdv))) :
    SSs (TX.L K (P, w)) (cxOf (CX P w) P w K mg base N_m_Desk_undo "Desk.undo" (defScope (mth 21 5)) f cdv A outer s H Ex) (defBody (mth 21 5)) (b_m_Desk_undo) := (sss_cons (ss_if (st_eqN hr.units (se_fld (E.fld rfl "deeds" rfl) (se_var 0)) (se_lst sa_nil)) (sss_cons (ss_raise rfl (E.xc rfl rfl "BadDeed" rfl rfl rfl) rfl (sa_cons se_str sa_nil))
    sss_nil) sss_nil)
    (sss_cons (ss_set (i := 1) nd_m_Desk_undo rfl (.inl rfl) (se_pop0 (se_fld (E.fld rfl "deeds" rfl) (se_var 0))))
    (sss_cons (ss_expr (se_append (se_fld (E.fld rfl "undone" rfl) (se_var 0)) (sa_cons (se_var 1) sa_nil)))
    (sss_cons (ss_fld (E.fld rfl "text" rfl) (se_var 0) (se_ix hr.units (se_var 1) se_int))
    sss_nil))))
theorem k_m_Desk_undo (E : Ev TX K mg base) : Dk P w K mg base (TX.L K (P, w)) ("Desk", some "undo") 2 ["self"] F_m_Desk_undo := by
  obtain ⟨fd, F⟩ : ∃ fd, FunD K "undo" "Desk.undo" (defArgs (mth 21 5)) (defBody (mth 21 5)) (defScope (mth 21 5)) [] [] (He.fAd K ("Desk", some "undo")) fd := E.sd.def_ 5 (d := dM "Desk" "undo" "Desk.undo" 21 5) rfl
  exact Dk.of F sc_m_Desk_undo (fun _ _ _ _ _ _ us hl => match us, hl with | [_], _ => rfl) fun A outer s H Ex cdv hcode hr => d_m_Desk_undo E hcode hr
/-! Nag.__init__ -/
def N_m_Nag_init : List Str := ["self", "name", "skill", "weight", "coins"]
theorem nd_m_Nag_init : N_m_Nag_init.Nodup := by decide +kernel
theorem sc_m_Nag_init : FnScope N_m_Nag_init ["self", "name", "skill", "weight", "coins"] (defScope (mth 23 0)) := ⟨rfl, rfl, rfl, by decide +kernel, rfl, by decide +kernel, by decide +kernel⟩
noncomputable def b_m_Nag_init : Ss := (xSeq (xIf (tOr' (tBl (sOp oEqC (sVar 1) (sC (.str "")))) (tOr' (tNt (tBl (sChain oLe oLe (sC (.int 1)) (sVar 2) (sC (.int 5))))) (tOr' (tBl (sOp oLt (sVar 3) (sC (.int 1)))) (tBl (sOp oLt (sVar 4) (sC (.int 0))))))) (xSeq (xRaise "BadPlan" (aCons (sC (.str "no nag")) aNil)) xNil) xNil) (xSeq (xFld TX.ic "name" (sVar 0) (sVar 1)) (xSeq (xFld TX.ic "skill" (sVar 0) (sVar 2)) (xSeq (xFld TX.ic "weight" (sVar 0) (sVar 3)) (xSeq (xFld TX.ic "coins" (sVar 0) (sVar 4)) xNil)))))
noncomputable def F_m_Nag_init : FS := runCC 5 b_m_Nag_init
theorem d_m_Nag_init (E : Ev TX K mg base) {A : Around} {outer : List Env} {s : Shared} {H : Hp} {Ex : XK} {f : Addr} {cdv : Value} (hcode : cdv = .ref (He.codeOf K ("Nag", some "__init__"))) (hr : Room 1 (A.deeper (envOfC "Nag.__init__" (defScope (mth 23 0)) s.heap.objs.size f cdv))) :
    SSs (TX.L K (P, w)) (cxOf (CX P w) P w K mg base N_m_Nag_init "Nag.__init__" (defScope (mth 23 0)) f cdv A outer s H Ex) (defBody (mth 23 0)) (b_m_Nag_init) := (sss_cons (ss_if (SW.st (sw_or (ST.sub (st_eq hr.units (se_var 1) se_str) (less_tBl (less_op (lo_Eq) _ _))) (sw_or (st_not (st_chain os_le os_le nx_oLe nx_oLe se_int (se_var 2) se_int)) (sw_or (st_lt (se_var 3) se_int) (sw_or1 (st_lt (se_var 4) se_int)))))) (sss_cons (ss_raise rfl (E.xc rfl rfl "BadPlan" rfl rfl rfl) rfl (sa_cons se_str sa_nil))
    sss_nil) sss_nil)
    (sss_cons (ss_fld (E.fld rfl "name" rfl) (se_var 0) (se_var 1))
    (sss_cons (ss_fld (E.fld rfl "skill" rfl) (se_var 0) (se_var 2))
    (sss_cons (ss_fld (E.fld rfl "weight" rfl) (se_var 0) (se_var 3))
    (sss_cons (ss_fld (E.fld rfl "coins" rfl) (se_var 0) (se_var 4))
    sss_nil)))))
theorem k_m_Nag_init (E : Ev TX K mg base) : Dk P w K mg base (TX.L K (P, w)) ("Nag", some "__init__") 2 ["self", "name", "skill", "weight", "coins"] F_m_Nag_init := by
  obtain ⟨fd, F⟩ : ∃ fd, FunD K "__init__" "Nag.__init__" (defArgs (mth 23 0)) (defBody (mth 23 0)) (defScope (mth 23 0)) [] [] (He.fAd K ("Nag", some "__init__")) fd := E.sd.def_ 6 (d := dM "Nag" "__init__" "Nag.__init__" 23 0) rfl
  exact Dk.less (Dk.close (Dk.of F sc_m_Nag_init (fun _ _ _ _ _ _ us hl => match us, hl with | [_, _, _, _, _], _ => rfl) fun A outer s H Ex cdv hcode hr => d_m_Nag_init E hcode hr)) (lf_runC _ _)
/-! told_off -/
def N_f_told_off : List Str := ["count", "by", "place"]
theorem nd_f_told_off : N_f_told_off.Nodup := by decide +kernel
theorem sc_f_told_off : FnScope N_f_told_off ["count", "by"] (defScope (top 12)) := ⟨rfl, rfl, rfl, by decide +kernel, rfl, by decide +kernel, by decide +kernel⟩
noncomputable def b_f_told_off : Ss := (xSeq (xIf (tOr' (tBl (sOp oLt (sVar 0) (sC (.int 0)))) (tBl (sOp oLt (sVar 1) (sC (.int 1))))) (xSeq (xRaise "BadSize" (aCons (sC (.str "nobody")) aNil)) xNil) xNil) (xSeq (xRet (sCall fTup (aCons (froz (nLc (iRange1 (aCons (sVar 0) aNil)) (gNm 2) tTrue (sOp oAdd (sC (.int 1)) (sOp oMod (sVar 2) (sVar 1))) [2])) aNil))) xNil))
noncomputable def F_f_told_off : FS := runCC 3 b_f_told_off
theorem d_f_told_off (E : Ev TX K mg base) {A : Around} {outer : List Env} {s : Shared} {H : Hp} {Ex : XK} {f : Addr} {cdv : Value} (hcode : cdv = .ref (He.codeOf K ("told_off", none))) (hr : Room 1 (A.deeper (envOfC "told_off" (defScope (top 12)) s.heap.objs.size f cdv))) :
    SSs (TX.L K (P, w)) (cxOf (CX P w) P w K mg base N_f_told_off "told_off" (defScope (top 12)) f cdv A outer s H Ex) (defBody (top 12)) (b_f_told_off) := (sss_cons (ss_if (SW.st (sw_or (st_lt (se_var 0) se_int) (sw_or1 (st_lt (se_var 1) se_int)))) (sss_cons (ss_raise rfl (E.xc rfl rfl "BadSize" rfl rfl rfl) rfl (sa_cons se_str sa_nil))
    sss_nil) sss_nil)
    (sss_cons (ss_ret (se_tuple1 rfl (E.free "tuple" rfl) (sa_cons (SN.se (sn_lc (own := [("place", 2)]) rfl nd_f_told_off (si_range1 rfl (E.free "range" rfl) (sa_cons (se_var 0) sa_nil)) (blkOk_by rfl) (fun _ _ _ _ _ => (sgw_name nd_f_told_off rfl (.inl rfl) (by decide))) (fun _ _ _ _ _ => sts_nil) (fun _ _ _ _ _ => (se_add se_int (se_mod (se_var 2) (se_var 1)))))) sa_nil)))
    sss_nil))
theorem k_f_told_off (E : Ev TX K mg base) : Dk P w K mg base (TX.L K (P, w)) ("told_off", none) 2 ["count", "by"] F_f_told_off := by
  obtain ⟨fd, F⟩ : ∃ fd, FunD K "told_off" "told_off" (defArgs (top 12)) (defBody (top 12)) (defScope (top 12)) [] [] (He.fAd K ("told_off", none)) fd := E.sd.def_ 0 (d := dF "told_off" 12) rfl
  exact Dk.less (Dk.close (Dk.of F sc_f_told_off (fun _ _ _ _ _ _ us hl => match us, hl with | [_, _], _ => rfl) fun A outer s H Ex cdv hcode hr => d_f_told_off E hcode hr)) (lf_runC _ _)
/-! read_line -/
def N_f_read_line : List Str := ["text", "words", "numbers", "found", "one", "sign"]
theorem nd_f_read_line : N_f_read_line.Nodup := by decide +kernel
theorem sc_f_read_line : FnScope N_f_read_line ["text"] (defScope (top 18)) := ⟨rfl, rfl, rfl, by decide +kernel, rfl, by decide +kernel, by decide +kernel⟩
noncomputable def b_f_read_line : Ss := (xSeq (xSet 1 (froz (sSM mSplit (sVar 0) (aCons (sC (.str " ")) aNil)))) (xSeq (xIf (tOr' (tBl (sOp (oInAC true) (sCall fLen (aCons (sVar 1) aNil)) (sTup (aCons (sC (.int 3)) (aCons (sC (.int 4)) aNil))))) (tBl (sOp oNeC (sOp oEqC (sCall fLen (aCons (sVar 1) aNil)) (sC (.int 3))) (sOp oEqC (sOp oIx (sVar 1) (sC (.int 2))) (sC (.str "leaves")))))) (xSeq (xRaiseR "BadText" (sC (.int 0))) xNil) xNil) (xSeq xStk (xSeq xStk (xSeq xStk (xSeq xStk (xSeq xStk xNil)))))))
noncomputable def F_f_read_line : FS := runCC 6 b_f_read_line
theorem d_f_read_line (E : Ev TX K mg base) {A : Around} {outer : List Env} {s : Shared} {H : Hp} {Ex : XK} {f : Addr} {cdv : Value} (hcode : cdv = .ref (He.codeOf K ("read_line", none))) (hr : Room 1 (A.deeper (envOfC "read_line" (defScope (top 18)) s.heap.objs.size f cdv))) :
    SSs (TX.L K (P, w)) (cxOf (CX P w) P w K mg base N_f_read_line "read_line" (defScope (top 18)) f cdv A outer s H Ex) (defBody (top 18)) (b_f_read_line) := (sss_cons (ss_set (i := 1) nd_f_read_line rfl (.inl rfl) (SN.se (sn_split (se_var 0) (sa_cons se_str sa_nil))))
    (sss_cons (ss_if (SW.st (sw_or (ST.sub (st_nin hr.units (se_len rfl (E.free "len" rfl) (sa_cons (se_var 1) sa_nil)) (se_tup (sa_cons se_int (sa_cons se_int sa_nil)))) (less_tBl (less_op (lo_InA _) _ _))) (sw_or1 (ST.sub (st_ne hr.units (SE.sub (se_eq hr.units (se_len rfl (E.free "len" rfl) (sa_cons (se_var 1) sa_nil)) se_int) (less_op (lo_Eq) _ _)) (SE.sub (se_eq hr.units (se_ix hr.units (se_var 1) se_int) se_str) (less_op (lo_Eq) _ _))) (less_tBl (less_op (lo_Ne) _ _)))))) (sss_cons (ss_raiseR (fI := He.ma K (He.ga K "BadText") "__init__") rfl (E.cl "BadText" rfl) (HasRow.ok (P := P) (K := K)) (E.glo "BadText" rfl) (E.free "super" rfl) hr rfl se_int)
    sss_nil) sss_nil)
    (sss_cons ss_stk
    (sss_cons ss_stk
    (sss_cons ss_stk
    (sss_cons ss_stk
    (sss_cons ss_stk
    sss_nil)))))))
theorem k_f_read_line (E : Ev TX K mg base) : Dk P w K mg base (TX.L K (P, w)) ("read_line", none) 2 ["text"] F_f_read_line := by
  obtain ⟨fd, F⟩ : ∃ fd, FunD K "read_line" "read_line" (defArgs (top 18)) (defBody (top 18)) (defScope (top 18)) [] [] (He.fAd K ("read_line", none)) fd := E.sd.def_ 3 (d := dF "read_line" 18) rfl
  exact Dk.less (Dk.close (Dk.of F sc_f_read_line (fun _ _ _ _ _ _ us hl => match us, hl with | [_], _ => rfl) fun A outer s H Ex cdv hcode hr => d_f_read_line E hcode hr)) (lf_runC _ _)
/-! Carriage.loaded -/
def N_m_Carriage_loaded : List Str := ["self", "people", "bags"]
theorem nd_m_Carriage_loaded : N_m_Carriage_loaded.Nodup := by decide +kernel
theorem sc_m_Carriage_loaded : FnScope N_m_Carriage_loaded ["self", "people", "bags"] (defScope (mth 14 1)) := ⟨rfl, rfl, rfl, by decide +kernel, rfl, by decide +kernel, by decide +kernel⟩
noncomputable def b_m_Carriage_loaded : Ss := (xSeq (xIf (tOr' (tBl (sOp oGt (sCall fLen (aCons (sVar 1) aNil)) (sFld TX.ic "seats" (sVar 0)))) (tBl (sOp oGt (sCall fSum (aCons (sVar 2) aNil)) (sFld TX.ic "luggage" (sVar 0))))) (xSeq (xRaise "NoRoom" (aCons (sC (.str "too much")) aNil)) xNil) xNil) (xSeq (xRet (sOp oAdd (sOp oAdd (sFld TX.ic "weight" (sVar 0)) (sCall fSum (aCons (sVar 1) aNil))) (sCall fSum (aCons (sVar 2) aNil)))) xNil))
noncomputable def F_m_Carriage_loaded : FS := runCC 3 b_m_Carriage_loaded
theorem d_m_Carriage_loaded (E : Ev TX K mg base) {A : Around} {outer : List Env} {s : Shared} {H : Hp} {Ex : XK} {f : Addr} {cdv : Value} (hcode : cdv = .ref (He.codeOf K ("Carriage", some "loaded"))) (hr : Room 1 (A.deeper (envOfC "Carriage.loaded" (defScope (mth 14 1)) s.heap.objs.size f cdv))) :
    SSs (TX.L K (P, w)) (cxOf (CX P w) P w K mg base N_m_Carriage_loaded "Carriage.loaded" (defScope (mth 14 1)) f cdv A outer s H Ex) (defBody (mth 14 1)) (b_m_Carriage_loaded) := (sss_cons (ss_if (SW.st (sw_or (st_gt (se_len rfl (E.free "len" rfl) (sa_cons (se_var 1) sa_nil)) (se_fld (E.fld rfl "seats" rfl) (se_var 0))) (sw_or1 (st_gt (se_sum1 rfl rfl (E.free "sum" rfl) (sa_cons (se_var 2) sa_nil)) (se_fld (E.fld rfl "luggage" rfl) (se_var 0)))))) (sss_cons (ss_raise rfl (E.xc rfl rfl "NoRoom" rfl rfl rfl) rfl (sa_cons se_str sa_nil))
    sss_nil) sss_nil)
    (sss_cons (ss_ret (se_add (se_add (se_fld (E.fld rfl "weight" rfl) (se_var 0)) (se_sum1 rfl rfl (E.free "sum" rfl) (sa_cons (se_var 1) sa_nil))) (se_sum1 rfl rfl (E.free "sum" rfl) (sa_cons (se_var 2) sa_nil))))
    sss_nil))
theorem k_m_Carriage_loaded (E : Ev TX K mg base) : Dk P w K mg base (TX.L K (P, w)) ("Carriage", some "loaded") 2 ["self", "people", "bags"] F_m_Carriage_loaded := by
  obtain ⟨fd, F⟩ : ∃ fd, FunD K "loaded" "Carriage.loaded" (defArgs (mth 14 1)) (defBody (mth 14 1)) (defScope (mth 14 1)) [] [] (He.fAd K ("Carriage", some "loaded")) fd := E.sd.def_ 2 (d := dM "Carriage" "loaded" "Carriage.loaded" 14 1) rfl
  exact Dk.less (Dk.close (Dk.of F sc_m_Carriage_loaded (fun _ _ _ _ _ _ us hl => match us, hl with | [_, _, _], _ => rfl) fun A outer s H Ex cdv hcode hr => d_m_Carriage_loaded E hcode hr)) (lf_runC _ _)
/-! Carriage.__init__ -/
def N_m_Carriage_init : List Str := ["self", "weight", "seats", "luggage", "fore", "hind"]
theorem nd_m_Carriage_init : N_m_Carriage_init.Nodup := by decide +kernel
theorem sc_m_Carriage_init : FnScope N_m_Carriage_init ["self", "weight", "seats", "luggage", "fore", "hind"] (defScope (mth 14 0)) := ⟨rfl, rfl, rfl, by decide +kernel, rfl, by decide +kernel, by decide +kernel⟩
noncomputable def b_m_Carriage_init : Ss := (xSeq (xIf (tOr' (tBl (sOp oLt (sCall fMin3 (aCons (sVar 1) (aCons (sVar 4) (aCons (sVar 5) aNil)))) (sC (.int 1)))) (tBl (sOp oLt (sCall fMin2 (aCons (sVar 2) (aCons (sVar 3) aNil))) (sC (.int 0))))) (xSeq (xRaise "BadPlan" (aCons (sC (.str "no carriage")) aNil)) xNil) xNil) (xSeq (xFld TX.ic "weight" (sVar 0) (sVar 1)) (xSeq (xFld TX.ic "seats" (sVar 0) (sVar 2)) (xSeq (xFld TX.ic "luggage" (sVar 0) (sVar 3)) (xSeq (xFld TX.ic "fore" (sVar 0) (sVar 4)) (xSeq (xFld TX.ic "hind" (sVar 0) (sVar 5)) xNil))))))
noncomputable def F_m_Carriage_init : FS := runCC 6 b_m_Carriage_init
theorem d_m_Carriage_init (E : Ev TX K mg base) {A : Around} {outer : List Env} {s : Shared} {H : Hp} {Ex : XK} {f : Addr} {cdv : Value} (hcode : cdv = .ref (He.codeOf K ("Carriage", some "__init__"))) (hr : Room 1 (A.deeper (envOfC "Carriage.__init__" (defScope (mth 14 0)) s.heap.objs.size f cdv))) :
    SSs (TX.L K (P, w)) (cxOf (CX P w) P w K mg base N_m_Carriage_init "Carriage.__init__" (defScope (mth 14 0)) f cdv A outer s H Ex) (defBody (mth 14 0)) (b_m_Carriage_init) := (sss_cons (ss_if (SW.st (sw_or (st_lt (se_min3 rfl rfl (E.free "min" rfl) (sa_cons (se_var 1) (sa_cons (se_var 4) (sa_cons (se_var 5) sa_nil)))) se_int) (sw_or1 (st_lt (se_min2 rfl rfl (E.free "min" rfl) (sa_cons (se_var 2) (sa_cons (se_var 3) sa_nil))) se_int)))) (sss_cons (ss_raise rfl (E.xc rfl rfl "BadPlan" rfl rfl rfl) rfl (sa_cons se_str sa_nil))
    sss_nil) sss_nil)
    (sss_cons (ss_fld (E.fld rfl "weight" rfl) (se_var 0) (se_var 1))
    (sss_cons (ss_fld (E.fld rfl "seats" rfl) (se_var 0) (se_var 2))
    (sss_cons (ss_fld (E.fld rfl "luggage" rfl) (se_var 0) (se_var 3))
    (sss_cons (ss_fld (E.fld rfl "fore" rfl) (se_var 0) (se_var 4))
    (sss_cons (ss_fld (E.fld rfl "hind" rfl) (se_var 0) (se_var 5))
    sss_nil))))))
theorem k_m_Carriage_init (E : Ev TX K mg base) : Dk P w K mg base (TX.L K (P, w)) ("Carriage", some "__init__") 2 ["self", "weight", "seats", "luggage", "fore", "hind"] F_m_Carriage_init := by
  obtain ⟨fd, F⟩ : ∃ fd, FunD K "__init__" "Carriage.__init__" (defArgs (mth 14 0)) (defBody (mth 14 0)) (defScope (mth 14 0)) [] [] (He.fAd K ("Carriage", some "__init__")) fd := E.sd.def_ 1 (d := dM "Carriage" "__init__" "Carriage.__init__" 14 0) rfl
  exact Dk.less (Dk.close (Dk.of F sc_m_Carriage_init (fun _ _ _ _ _ _ us hl => match us, hl with | [_, _, _, _, _, _], _ => rfl) fun A outer s H Ex cdv hcode hr => d_m_Carriage_init E hcode hr)) (lf_runC _ _)
/-! letter_spot -/
def N_f_letter_spot : List Str := ["letter", "name", "along", "across"]
theorem nd_f_letter_spot : N_f_letter_spot.Nodup := by decide +kernel
theorem sc_f_letter_spot : FnScope N_f_letter_spot ["letter"] (defScope (top 26)) := ⟨rfl, rfl, rfl, by decide +kernel, rfl, by decide +kernel, by decide +kernel⟩
noncomputable def b_f_letter_spot : Ss := (xSeq (xFgt [1, 2, 3]) (xSeq (xFor (iSeq (sC K_LETTERS)) (gTp [(gNm 1), (gNm 2), (gNm 3)]) (xSeq (xIf (tBl (sOp oEqC (sVar 1) (sVar 0))) (xSeq (xRet (sTup (aCons (sVar 2) (aCons (sVar 3) aNil)))) xNil) xNil) (xSeq (xFgt [1, 2, 3]) xNil))) (xSeq (xRaise "NoSuch" (aCons (sVar 0) aNil)) xNil)))
noncomputable def F_f_letter_spot : FS := runCC 4 b_f_letter_spot
theorem d_f_letter_spot (E : Ev TX K mg base) {A : Around} {outer : List Env} {s : Shared} {H : Hp} {Ex : XK} {f : Addr} {cdv : Value} (hcode : cdv = .ref (He.codeOf K ("letter_spot", none))) (hr : Room 1 (A.deeper (envOfC "letter_spot" (defScope (top 26)) s.heap.objs.size f cdv))) :
    SSs (TX.L K (P, w)) (cxOf (CX P w) P w K mg base N_f_letter_spot "letter_spot" (defScope (top 26)) f cdv A outer s H Ex) (defBody (top 26)) (b_f_letter_spot) := (sss_fgt [1, 2, 3] (sss_cons (ss_for rfl (si_seq (se_konE E (x := "LETTERS") (v := K_LETTERS) KMEM_LETTERS rfl rfl)) (sg_tup rfl (sgs_cons (sg_name nd_f_letter_spot rfl (.inl rfl)) (sgs_cons (sg_name nd_f_letter_spot rfl (.inl rfl)) (sgs_cons (sg_name nd_f_letter_spot rfl (.inl rfl)) sgs_nil))) rfl) (sss_cons (ss_if (ST.sub (st_eq hr.units (se_var 1) (se_var 0)) (less_tBl (less_op (lo_Eq) _ _))) (sss_cons (ss_ret (se_tup (sa_cons (se_var 2) (sa_cons (se_var 3) sa_nil))))
    sss_nil) sss_nil)
    (sss_fgt [1, 2, 3] sss_nil)))
    (sss_cons (ss_raise rfl (E.xc rfl rfl "NoSuch" rfl rfl rfl) rfl (sa_cons (se_var 0) sa_nil))
    sss_nil)))
theorem k_f_letter_spot (E : Ev TX K mg base) : Dk P w K mg base (TX.L K (P, w)) ("letter_spot", none) 2 ["letter"] F_f_letter_spot := by
  obtain ⟨fd, F⟩ : ∃ fd, FunD K "letter_spot" "letter_spot" (defArgs (top 26)) (defBody (top 26)) (defScope (top 26)) [] [] (He.fAd K ("letter_spot", none)) fd := E.sd.def_ 7 (d := dF "letter_spot" 26) rfl
  exact Dk.less (Dk.close (Dk.of F sc_f_letter_spot (fun _ _ _ _ _ _ us hl => match us, hl with | [_], _ => rfl) fun A outer s H Ex cdv hcode hr => d_f_letter_spot E hcode hr)) (lf_runC _ _)
/-! Strap.around -/
def N_m_Strap_around : List Str := ["self", "number"]
theorem nd_m_Strap_around : N_m_Strap_around.Nodup := by decide +kernel
theorem sc_m_Strap_around : FnScope N_m_Strap_around ["self", "number"] (defScope (mth 28 1)) := ⟨rfl, rfl, rfl, by decide +kernel, rfl, by decide +kernel, by decide +kernel⟩
noncomputable def b_m_Strap_around : Ss := (xSeq (xIf (tNt (tBl (sChain oLe oLt (sC (.int 0)) (sVar 1) (sCall fLen (aCons (sFld TX.ic "holes" (sVar 0)) aNil))))) (xSeq (xRaise "NoSuch" (aCons (sC (.str "no hole")) aNil)) xNil) xNil) (xSeq (xRet (sOp oSub (sFld TX.ic "length" (sVar 0)) (sOp oIx (sFld TX.ic "holes" (sVar 0)) (sVar 1)))) xNil))
noncomputable def F_m_Strap_around : FS := runCC 2 b_m_Strap_around
theorem d_m_Strap_around (E : Ev TX K mg base) {A : Around} {outer : List Env} {s : Shared} {H : Hp} {Ex : XK} {f : Addr} {cdv : Value} (hcode : cdv = .ref (He.codeOf K ("Strap", some "around"))) (hr : Room 1 (A.deeper (envOfC "Strap.around" (defScope (mth 28 1)) s.heap.objs.size f cdv))) :
    SSs (TX.L K (P, w)) (cxOf (CX P w) P w K mg base N_m_Strap_around "Strap.around" (defScope (mth 28 1)) f cdv A outer s H Ex) (defBody (mth 28 1)) (b_m_Strap_around) := (sss_cons (ss_if (st_not (st_chain os_le os_lt nx_oLe nx_oLt se_int (se_var 1) (se_len rfl (E.free "len" rfl) (sa_cons (se_fld (E.fld rfl "holes" rfl) (se_var 0)) sa_nil)))) (sss_cons (ss_raise rfl (E.xc rfl rfl "NoSuch" rfl rfl rfl) rfl (sa_cons se_str sa_nil))
    sss_nil) sss_nil)
    (sss_cons (ss_ret (se_sub (se_fld (E.fld rfl "length" rfl) (se_var 0)) (se_ix hr.units (se_fld (E.fld rfl "holes" rfl) (se_var 0)) (se_var 1))))
    sss_nil))
theorem k_m_Strap_around (E : Ev TX K mg base) : Dk P w K mg base (TX.L K (P, w)) ("Strap", some "around") 2 ["self", "number"] F_m_Strap_around := by
  obtain ⟨fd, F⟩ : ∃ fd, FunD K "around" "Strap.around" (defArgs (mth 28 1)) (defBody (mth 28 1)) (defScope (mth 28 1)) [] [] (He.fAd K ("Strap", some "around")) fd := E.sd.def_ 9 (d := dM "Strap" "around" "Strap.around" 28 1) rfl
  exact Dk.less (Dk.close (Dk.of F sc_m_Strap_around (fun _ _ _ _ _ _ us hl => match us, hl with | [_, _], _ => rfl) fun A outer s H Ex cdv hcode hr => d_m_Strap_around E hcode hr)) (lf_runC _ _)
/-! Strap.hole_for -/
def N_m_Strap_hole_for : List Str := ["self", "girth", "slack", "fits", "k"]
theorem nd_m_Strap_hole_for : N_m_Strap_hole_for.Nodup := by decide +kernel
theorem sc_m_Strap_hole_for : FnScope N_m_Strap_hole_for ["self", "girth", "slack"] (defScope (mth 28 2)) := ⟨rfl, rfl, rfl, by decide +kernel, rfl, by decide +kernel, by decide +kernel⟩
noncomputable def b_m_Strap_hole_for : Ss := (xSeq (xSet 3 (froz (nLc (iRange1 (aCons (sCall fLen (aCons (sFld TX.ic "holes" (sVar 0)) aNil)) aNil)) (gNm 4) (tBl (sOp oGe (sMeth "Strap" "around" F_m_Strap_around (sVar 0) (aCons (sVar 4) aNil)) (sOp oAdd (sVar 1) (sVar 2)))) (sVar 4) [4]))) (xSeq (xIf (tBl (sOp oEqC (sVar 3) (sLst aNil))) (xSeq (xRaise "NoWay" (aCons (sC (.str "too short")) aNil)) xNil) xNil) (xSeq (xRet (sOp oIx (sVar 3) (sNeg (sC (.int 1))))) xNil)))
noncomputable def F_m_Strap_hole_for : FS := runCC 5 b_m_Strap_hole_for
theorem d_m_Strap_hole_for (E : Ev TX K mg base) (D_m_Strap_around : Dk P w K mg base (TX.L K (P, w)) ("Strap", some "around") 2 ["self", "number"] F_m_Strap_around) {A : Around} {outer : List Env} {s : Shared} {H : Hp} {Ex : XK} {f : Addr} {cdv : Value} (hcode : cdv = .ref (He.codeOf K ("Strap", some "hole_for"))) (hr : Room 2 (A.deeper (envOfC "Strap.hole_for" (defScope (mth 28 2)) s.heap.objs.size f cdv))) :
    SSs (TX.L K (P, w)) (cxOf (CX P w) P w K mg base N_m_Strap_hole_for "Strap.hole_for" (defScope (mth 28 2)) f cdv A outer s H Ex) (defBody (mth 28 2)) (b_m_Strap_hole_for) := (sss_cons (ss_setLcF (own := [("k", 4)]) rfl nd_m_Strap_hole_for rfl rfl (sw_true rfl rfl rfl rfl) (si_range1 rfl (E.free "range" rfl) (sa_cons (se_len rfl (E.free "len" rfl) (sa_cons (se_fld (E.fld rfl "holes" rfl) (se_var 0)) sa_nil)) sa_nil)) (blkOk_by rfl) (fun _ _ _ _ _ => (sgw_name nd_m_Strap_hole_for rfl (.inl rfl) (by decide))) (fun _ _ _ _ _ => (sts_one (st_ge (se_methD D_m_Strap_around (E.cl "Strap" rfl) (E.clsok "Strap" rfl) (E.meth "Strap" "around" rfl) (hr.mono (by decide)) (se_var 0) (sa_cons (se_var 4) sa_nil) (ar_cons ar_nil)) (se_add (se_var 1) (se_var 2))))) (fun _ _ _ _ _ => (se_var 4)))
    (sss_cons (ss_if (ST.sub (st_eq hr.units (se_var 3) (se_lst sa_nil)) (less_tBl (less_op (lo_Eq) _ _))) (sss_cons (ss_raise rfl (E.xc rfl rfl "NoWay" rfl rfl rfl) rfl (sa_cons se_str sa_nil))
    sss_nil) sss_nil)
    (sss_cons (ss_ret (se_ix hr.units (se_var 3) (se_neg se_int)))
    sss_nil)))
theorem k_m_Strap_hole_for (E : Ev TX K mg base) (D_m_Strap_around : Dk P w K mg base (TX.L K (P, w)) ("Strap", some "around") 2 ["self", "number"] F_m_Strap_around) : Dk P w K mg base (TX.L K (P, w)) ("Strap", some "hole_for") 3 ["self", "girth", "slack"] F_m_Strap_hole_for := by
  obtain ⟨fd, F⟩ : ∃ fd, FunD K "hole_for" "Strap.hole_for" (defArgs (mth 28 2)) (defBody (mth 28 2)) (defScope (mth 28 2)) [] [] (He.fAd K ("Strap", some "hole_for")) fd := E.sd.def_ 10 (d := dM "Strap" "hole_for" "Strap.hole_for" 28 2) rfl
  exact Dk.less (Dk.close (Dk.of F sc_m_Strap_hole_for (fun _ _ _ _ _ _ us hl => match us, hl with | [_, _, _], _ => rfl) fun A outer s H Ex cdv hcode hr => d_m_Strap_hole_for E D_m_Strap_around hcode hr)) (lf_runC _ _)
/-! Strap.__init__ -/
def N_m_Strap_init : List Str := ["self", "length", "holes", "hole", "k"]
theorem nd_m_Strap_init : N_m_Strap_init.Nodup := by decide +kernel
theorem sc_m_Strap_init : FnScope N_m_Strap_init ["self", "length", "holes"] (defScope (mth 28 0)) := ⟨rfl, rfl, rfl, by decide +kernel, rfl, by decide +kernel, by decide +kernel⟩
noncomputable def b_m_Strap_init : Ss := (xSeq (xIf (tOr' (tBl (sOp oLt (sVar 1) (sC (.int 1)))) (tVal (sTruG true (iSeq (sVar 2)) (gNm 3) tTrue (sNot (sChain oLt oLt (sC (.int 0)) (sVar 3) (sVar 1))) [3]))) (xSeq (xRaise "BadSize" (aCons (sC (.str "no strap, or hole")) aNil)) xNil) xNil) (xSeq (xIf (tVal (sTruG true (iRange2 (aCons (sC (.int 1)) (aCons (sCall fLen (aCons (sVar 2) aNil)) aNil))) (gNm 4) tTrue (sOp oLe (sOp oIx (sVar 2) (sVar 4)) (sOp oIx (sVar 2) (sOp oSub (sVar 4) (sC (.int 1))))) [4])) (xSeq (xRaise "BadPlan" (aCons (sC (.str "not rising")) aNil)) xNil) xNil) (xSeq (xFld TX.ic "length" (sVar 0) (sVar 1)) (xSeq (xFld TX.ic "holes" (sVar 0) (sCall fTup (aCons (sVar 2) aNil))) xNil))))
noncomputable def F_m_Strap_init : FS := runCC 5 b_m_Strap_init
theorem d_m_Strap_init (E : Ev TX K mg base) {A : Around} {outer : List Env} {s : Shared} {H : Hp} {Ex : XK} {f : Addr} {cdv : Value} (hcode : cdv = .ref (He.codeOf K ("Strap", some "__init__"))) (hr : Room 1 (A.deeper (envOfC "Strap.__init__" (defScope (mth 28 0)) s.heap.objs.size f cdv))) :
    SSs (TX.L K (P, w)) (cxOf (CX P w) P w K mg base N_m_Strap_init "Strap.__init__" (defScope (mth 28 0)) f cdv A outer s H Ex) (defBody (mth 28 0)) (b_m_Strap_init) := (sss_cons (ss_if (SW.st (sw_or (st_lt (se_var 1) se_int) (sw_or1 (st_val (se_anyG (k := 0) (own := [("hole", 3)]) rfl (hr.mono (by decide)) rfl (E.free "any" rfl) nd_m_Strap_init (gscp_by rfl) (E.ctab rfl rfl rfl (p := ("Strap", some "__init__")) (nm := m_Strap_init_nm) m_Strap_init_tf hcode rfl) (si_seq (se_var 2)) (fun _ _ _ _ _ _ _ hr0 => (sgw_name nd_m_Strap_init rfl (.inl rfl) (by decide))) (fun _ _ _ _ _ _ _ hr0 => sts_nil) (fun _ _ _ _ _ _ _ hr0 => (se_not (se_chain os_lt os_lt nx_oLt nx_oLt se_int (se_var 3) (se_var 1))))))))) (sss_cons (ss_raise rfl (E.xc rfl rfl "BadSize" rfl rfl rfl) rfl (sa_cons se_str sa_nil))
    sss_nil) sss_nil)
    (sss_cons (ss_if (st_val (se_anyG (k := 0) (own := [("k", 4)]) rfl (hr.mono (by decide)) rfl (E.free "any" rfl) nd_m_Strap_init (gscp_by rfl) (E.ctab rfl rfl rfl (p := ("Strap", some "__init__")) (nm := m_Strap_init_nm) m_Strap_init_tf hcode rfl) (si_range2 rfl (E.free "range" rfl) (sa_cons se_int (sa_cons (se_len rfl (E.free "len" rfl) (sa_cons (se_var 2) sa_nil)) sa_nil))) (fun _ _ _ _ _ _ _ hr0 => (sgw_name nd_m_Strap_init rfl (.inl rfl) (by decide))) (fun _ _ _ _ _ _ _ hr0 => sts_nil) (fun _ _ _ _ _ _ _ hr0 => (se_le (se_ix hr0.units (se_var 2) (se_var 4)) (se_ix hr0.units (se_var 2) (se_sub (se_var 4) se_int)))))) (sss_cons (ss_raise rfl (E.xc rfl rfl "BadPlan" rfl rfl rfl) rfl (sa_cons se_str sa_nil))
    sss_nil) sss_nil)
    (sss_cons (ss_fld (E.fld rfl "length" rfl) (se_var 0) (se_var 1))
    (sss_cons (ss_fld (E.fld rfl "holes" rfl) (se_var 0) (se_tuple1 rfl (E.free "tuple" rfl) (sa_cons (se_var 2) sa_nil)))
    sss_nil))))
theorem k_m_Strap_init (E : Ev TX K mg base) : Dk P w K mg base (TX.L K (P, w)) ("Strap", some "__init__") 2 ["self", "length", "holes"] F_m_Strap_init := by
  obtain ⟨fd, F⟩ : ∃ fd, FunD K "__init__" "Strap.__init__" (defArgs (mth 28 0)) (defBody (mth 28 0)) (defScope (mth 28 0)) [] [] (He.fAd K ("Strap", some "__init__")) fd := E.sd.def_ 8 (d := dM "Strap" "__init__" "Strap.__init__" 28 0) rfl
  exact Dk.less (Dk.close (Dk.of F sc_m_Strap_init (fun _ _ _ _ _ _ us hl => match us, hl with | [_, _, _], _ => rfl) fun A outer s H Ex cdv hcode hr => d_m_Strap_init E hcode hr)) (lf_runC _ _)
/-! Mule.__init__ -/
def N_m_Mule_init : List Str := ["self", "name", "bears", "left", "right", "weight"]
theorem nd_m_Mule_init : N_m_Mule_init.Nodup := by decide +kernel
theorem sc_m_Mule_init : FnScope N_m_Mule_init ["self", "name", "bears", "left", "right"] (defScope (mth 30 0)) := ⟨rfl, rfl, rfl, by decide +kernel, rfl, by decide +kernel, by decide +kernel⟩
noncomputable def b_m_Mule_init : Ss := (xSeq (xIf (tOr' (tBl (sOp oEqC (sVar 1) (sC (.str "")))) (tOr' (tBl (sOp oLt (sVar 2) (sC (.int 1)))) (tVal (sTruG true (iSeq (sOp oAdd (froz (sCall fLst (aCons (sVar 3) aNil))) (froz (sCall fLst (aCons (sVar 4) aNil))))) (gNm 5) tTrue (sOp oLt (sVar 5) (sC (.int 1))) [5])))) (xSeq (xRaise "BadPlan" (aCons (sC (.str "no mule")) aNil)) xNil) xNil) (xSeq (xIf (tBl (sOp oGt (sOp oAdd (sCall fSum (aCons (sVar 3) aNil)) (sCall fSum (aCons (sVar 4) aNil))) (sVar 2))) (xSeq (xRaise "Tired" (aCons (sVar 1) aNil)) xNil) xNil) (xSeq (xFld TX.ic "name" (sVar 0) (sVar 1)) (xSeq (xFld TX.ic "bears" (sVar 0) (sVar 2)) (xSeq (xFld TX.ic "left" (sVar 0) (sCall fTup (aCons (sVar 3) aNil))) (xSeq (xFld TX.ic "right" (sVar 0) (sCall fTup (aCons (sVar 4) aNil))) xNil))))))
noncomputable def F_m_Mule_init : FS := runCC 6 b_m_Mule_init
theorem d_m_Mule_init (E : Ev TX K mg base) {A : Around} {outer : List Env} {s : Shared} {H : Hp} {Ex : XK} {f : Addr} {cdv : Value} (hcode : cdv = .ref (He.codeOf K ("Mule", some "__init__"))) (hr : Room 1 (A.deeper (envOfC "Mule.__init__" (defScope (mth 30 0)) s.heap.objs.size f cdv))) :
    SSs (TX.L K (P, w)) (cxOf (CX P w) P w K mg base N_m_Mule_init "Mule.__init__" (defScope (mth 30 0)) f cdv A outer s H Ex) (defBody (mth 30 0)) (b_m_Mule_init) := (sss_cons (ss_if (SW.st (sw_or (ST.sub (st_eq hr.units (se_var 1) se_str) (less_tBl (less_op (lo_Eq) _ _))) (sw_or (st_lt (se_var 2) se_int) (sw_or1 (st_val (se_anyG (k := 0) (own := [("weight", 5)]) rfl (hr.mono (by decide)) rfl (E.free "any" rfl) nd_m_Mule_init (gscp_by rfl) (E.ctab rfl rfl rfl (p := ("Mule", some "__init__")) (nm := m_Mule_init_nm) m_Mule_init_tf hcode rfl) (si_seq (se_add (SN.se (sn_list1 rfl rfl (E.free "list" rfl) (sa_cons (se_var 3) sa_nil))) (SN.se (sn_list1 rfl rfl (E.free "list" rfl) (sa_cons (se_var 4) sa_nil))))) (fun _ _ _ _ _ _ _ hr0 => (sgw_name nd_m_Mule_init rfl (.inl rfl) (by decide))) (fun _ _ _ _ _ _ _ hr0 => sts_nil) (fun _ _ _ _ _ _ _ hr0 => (se_lt (se_var 5) se_int)))))))) (sss_cons (ss_raise rfl (E.xc rfl rfl "BadPlan" rfl rfl rfl) rfl (sa_cons se_str sa_nil))
    sss_nil) sss_nil)
    (sss_cons (ss_if (st_gt (se_add (se_sum1 rfl rfl (E.free "sum" rfl) (sa_cons (se_var 3) sa_nil)) (se_sum1 rfl rfl (E.free "sum" rfl) (sa_cons (se_var 4) sa_nil))) (se_var 2)) (sss_cons (ss_raise rfl (E.xc rfl rfl "Tired" rfl rfl rfl) rfl (sa_cons (se_var 1) sa_nil))
    sss_nil) sss_nil)
    (sss_cons (ss_fld (E.fld rfl "name" rfl) (se_var 0) (se_var 1))
    (sss_cons (ss_fld (E.fld rfl "bears" rfl) (se_var 0) (se_var 2))
    (sss_cons (ss_fld (E.fld rfl "left" rfl) (se_var 0) (se_tuple1 rfl (E.free "tuple" rfl) (sa_cons (se_var 3) sa_nil)))
    (sss_cons (ss_fld (E.fld rfl "right" rfl) (se_var 0) (se_tuple1 rfl (E.free "tuple" rfl) (sa_cons (se_var 4) sa_nil)))
    sss_nil))))))
theorem k_m_Mule_init (E : Ev TX K mg base) : Dk P w K mg base (TX.L K (P, w)) ("Mule", some "__init__") 2 ["self", "name", "bears", "left", "right"] F_m_Mule_init := by
  obtain ⟨fd, F⟩ : ∃ fd, FunD K "__init__" "Mule.__init__" (defArgs (mth 30 0)) (defBody (mth 30 0)) (defScope (mth 30 0)) [] [] (He.fAd K ("Mule", some "__init__")) fd := E.sd.def_ 11 (d := dM "Mule" "__init__" "Mule.__init__" 30 0) rfl
  exact Dk.less (Dk.close (Dk.of F sc_m_Mule_init (fun _ _ _ _ _ _ us hl => match us, hl with | [_, _, _, _, _], _ => rfl) fun A outer s H Ex cdv hcode hr => d_m_Mule_init E hcode hr)) (lf_runC _ _)
/-! law -/
def N_f_law : List Str := ["script", "dice", "many", "desk", "whats", "k", "j"]
theorem nd_f_law : N_f_law.Nodup := by decide +kernel
theorem sc_f_law : FnScope N_f_law ["script"] (defScope (top 36)) := ⟨rfl, rfl, rfl, by decide +kernel, rfl, by decide +kernel, by decide +kernel⟩
noncomputable def b_f_law : Ss := (xSeq (xFgt [1, 2, 3, 4, 5]) (xSeq (xFor (iSeq (sCall F_f_law_rounds (aCons (sVar 0) (aCons (sC (.int 1)) aNil)))) (gNm 1) (xSeq (xAsg (gTp [(gNm 2), (gNm 3)]) (sTup (aCons (sOp oAdd (sC (.int 1)) (sCall F_f_law_roll (aCons (sVar 1) (aCons (sC (.int 90)) aNil)))) (aCons (sMake "Desk" F_m_Desk_init aNil) aNil)))) (xUnd 4 5 (sCall F_f_law_roll (aCons (sVar 1) (aCons (sC (.int 8)) aNil))) [(sMeth "Desk" "undo" F_m_Desk_undo (sVar 3) aNil), (sCloseC (sMake "Nag" F_m_Nag_init (aCons (sC (.str "a")) (aCons (sOp oAdd (sC (.int 5)) (sVar 2)) (aCons (sC (.int 1)) (aCons (sC (.int 1)) aNil)))))), (sCall F_f_told_off (aCons (sOp oSub (sC (.int 0)) (sVar 2)) (aCons (sC (.int 1)) aNil))), (sCall F_f_read_line (aCons (sOp oMulS (sC (.str "x")) (sVar 2)) aNil)), (sMeth "Carriage" "loaded" F_m_Carriage_loaded (sCloseC (sMake "Carriage" F_m_Carriage_init (aCons (sC (.int 1)) (aCons (sC (.int 1)) (aCons (sVar 2) (aCons (sC (.int 1)) (aCons (sC (.int 1)) aNil))))))) (aCons (sLst aNil) (aCons (sLst (aCons (sOp oAdd (sVar 2) (sC (.int 1))) aNil)) aNil))), (sCall F_f_letter_spot (aCons (sOp oMulS (sC (.str "x")) (sVar 2)) aNil)), (sMeth "Strap" "hole_for" F_m_Strap_hole_for (sCloseC (sMake "Strap" F_m_Strap_init (aCons (sOp oAdd (sVar 2) (sC (.int 1))) (aCons (sLst (aCons (sVar 2) aNil)) aNil)))) (aCons (sVar 2) (aCons (sC (.int 2)) aNil))), (sCloseC (sMake "Mule" F_m_Mule_init (aCons (sC (.str "a")) (aCons (sVar 2) (aCons (sLst (aCons (sOp oAdd (sVar 2) (sC (.int 1))) aNil)) (aCons (sLst aNil) aNil))))))] (undBs XS YS) (sOp oAdd (froz (nLc (iRange1 (aCons (sC (.int 8)) aNil)) (gNm 6) tTrue (sOp oEqC (sVar 6) (sVar 5)) [6])) (sLst (aCons (sC (.bl true)) aNil))) (xSeq (xRet (sC (.bl false))) xNil) (xSeq (xFgt [1, 2, 3, 4, 5]) xNil)))) (xSeq (xRet (sC (.bl true))) xNil)))
noncomputable def F_f_law : FS := runK 7 b_f_law
theorem d_f_law (E : Ev TX K mg base) {fdU : FuncData} (FU : FunD K "_law_under" "_law_under" (defArgs (top 35)) (defBody (top 35)) (defScope (top 35)) [] [] (He.ga K "_law_under") fdU) (D_f_law_roll : Dk P w K mg base (TX.L K (P, w)) ("_law_roll", none) 2 ["dice", "many"] F_f_law_roll) (D_f_law_rounds : Dk P w K mg base (TX.L K (P, w)) ("_law_rounds", none) 3 ["script", "most"] F_f_law_rounds) (D_f_letter_spot : Dk P w K mg base (TX.L K (P, w)) ("letter_spot", none) 2 ["letter"] F_f_letter_spot) (D_f_read_line : Dk P w K mg base (TX.L K (P, w)) ("read_line", none) 2 ["text"] F_f_read_line) (D_f_told_off : Dk P w K mg base (TX.L K (P, w)) ("told_off", none) 2 ["count", "by"] F_f_told_off) (D_m_Carriage_init : Dk P w K mg base (TX.L K (P, w)) ("Carriage", some "__init__") 2 ["self", "weight", "seats", "luggage", "fore", "hind"] F_m_Carriage_init) (D_m_Carriage_loaded : Dk P w K mg base (TX.L K (P, w)) ("Carriage", some "loaded") 2 ["self", "people", "bags"] F_m_Carriage_loaded) (D_m_Desk_init : Dk P w K mg base (TX.L K (P, w)) ("Desk", some "__init__") 2 ["self"] F_m_Desk_init) (D_m_Desk_undo : Dk P w K mg base (TX.L K (P, w)) ("Desk", some "undo") 2 ["self"] F_m_Desk_undo) (D_m_Mule_init : Dk P w K mg base (TX.L K (P, w)) ("Mule", some "__init__") 2 ["self", "name", "bears", "left", "right"] F_m_Mule_init) (D_m_Nag_init : Dk P w K mg base (TX.L K (P, w)) ("Nag", some "__init__") 2 ["self", "name", "skill", "weight", "coins"] F_m_Nag_init) (D_m_Strap_hole_for : Dk P w K mg base (TX.L K (P, w)) ("Strap", some "hole_for") 3 ["self", "girth", "slack"] F_m_Strap_hole_for) (D_m_Strap_init : Dk P w K mg base (TX.L K (P, w)) ("Strap", some "__init__") 2 ["self", "length", "holes"] F_m_Strap_init) {A : Around} {outer : List Env} {s : Shared} {H : Hp} {Ex : XK} {f : Addr} {cdv : Value} (hcode : cdv = .ref (He.codeOf K ("law", none))) (hr : Room 6 (A.deeper (envOfC "law" (defScope (top 36)) s.heap.objs.size f cdv))) :
    SSs (TX.L K (P, w)) (cxOf (CX P w) P w K mg base N_f_law "law" (defScope (top 36)) f cdv A outer s H Ex) (defBody (top 36)) (b_f_law) := (sss_fgt [1, 2, 3, 4, 5] (sss_cons (ss_for rfl (si_seq (se_callD D_f_law_rounds (hr.mono (by decide)) rfl (E.glo "_law_rounds" rfl) (sa_cons (se_var 0) (sa_cons se_int sa_nil)) (ar_cons (ar_cons ar_nil)))) (sg_name nd_f_law rfl (.inl rfl)) (sss_cons (ss_asg (se_tup (sa_cons (se_add se_int (se_callD D_f_law_roll (hr.mono (by decide)) rfl (E.glo "_law_roll" rfl) (sa_cons (se_var 1) (sa_cons se_int sa_nil)) (ar_cons (ar_cons ar_nil)))) (sa_cons (se_makeD0 D_m_Desk_init (E.cl "Desk" rfl) (E.mkx "Desk" rfl) (hr.mono (by decide)) rfl (E.glo "Desk" rfl)) sa_nil))) (sg_tup rfl (sgs_cons (sg_name nd_f_law rfl (.inr rfl)) (sgs_cons (sg_name nd_f_law rfl (.inr rfl)) sgs_nil)) rfl))
    (sss_und (ds := (lamL (stAt (forBd (stAt (defBody (top 36)) 0)) 1))) (m := 4) (x := "_law_under") (a := "what") (cS := .ref (He.ga K "SaddleFault")) (l := UL K) ⟨rfl, rfl, .inl rfl, (by first | exact .inl rfl | exact .inr (.inl rfl)), by decide, by decide, by decide, by decide, by decide, by decide, by decide, rfl, hr.mono (by decide), LdAll.all (.cons ⟨(E.ctab rfl rfl rfl (p := ("law", none)) (nm := f_law_nm) f_law_tf hcode rfl), rfl, LamX.lamS_by rfl⟩ (.cons ⟨(E.ctab rfl rfl rfl (p := ("law", none)) (nm := f_law_nm) f_law_tf hcode rfl), rfl, LamX.lamS_by rfl⟩ (.cons ⟨(E.ctab rfl rfl rfl (p := ("law", none)) (nm := f_law_nm) f_law_tf hcode rfl), rfl, LamX.lamS_by rfl⟩ (.cons ⟨(E.ctab rfl rfl rfl (p := ("law", none)) (nm := f_law_nm) f_law_tf hcode rfl), rfl, LamX.lamS_by rfl⟩ (.cons ⟨(E.ctab rfl rfl rfl (p := ("law", none)) (nm := f_law_nm) f_law_tf hcode rfl), rfl, LamX.lamS_by rfl⟩ (.cons ⟨(E.ctab rfl rfl rfl (p := ("law", none)) (nm := f_law_nm) f_law_tf hcode rfl), rfl, LamX.lamS_by rfl⟩ (.cons ⟨(E.ctab rfl rfl rfl (p := ("law", none)) (nm := f_law_nm) f_law_tf hcode rfl), rfl, LamX.lamS_by rfl⟩ (.cons ⟨(E.ctab rfl rfl rfl (p := ("law", none)) (nm := f_law_nm) f_law_tf hcode rfl), rfl, LamX.lamS_by rfl⟩ .nil)))))))), BindAll.all (.cons (fun _ _ _ => rfl) (.cons (fun _ _ _ => rfl) (.cons (fun _ _ _ => rfl) (.cons (fun _ _ _ => rfl) (.cons (fun _ _ _ => rfl) (.cons (fun _ _ _ => rfl) (.cons (fun _ _ _ => rfl) (.cons (fun _ _ _ => rfl) .nil)))))))), und_c E FU rfl rfl⟩ (undOk (t := TX) (K := K) (pw := (P, w)) (xs := XS) (ys := YS) (l := UL K) rfl UL_cv) (undB_cons (fun _ _ _ _ _ _ _ hr4 => (se_methD0 D_m_Desk_undo (E.cl "Desk" rfl) (E.clsok "Desk" rfl) (E.meth "Desk" "undo" rfl) (hr4.mono (by decide)) (se_var 3))) (undB_cons (fun _ _ _ _ _ _ _ hr4 => (SE.sub (SE.close (se_makeD D_m_Nag_init (E.cl "Nag" rfl) (E.mkx "Nag" rfl) (hr4.mono (by decide)) rfl (E.glo "Nag" rfl) (sa_cons se_str (sa_cons (se_add se_int (se_var 2)) (sa_cons se_int (sa_cons se_int sa_nil)))) (ar_cons (ar_cons (ar_cons (ar_cons ar_nil)))))) (ls_Close _))) (undB_cons (fun _ _ _ _ _ _ _ hr4 => (se_callD D_f_told_off (hr4.mono (by decide)) rfl (E.glo "told_off" rfl) (sa_cons (se_sub se_int (se_var 2)) (sa_cons se_int sa_nil)) (ar_cons (ar_cons ar_nil)))) (undB_cons (fun _ _ _ _ _ _ _ hr4 => (se_callD D_f_read_line (hr4.mono (by decide)) rfl (E.glo "read_line" rfl) (sa_cons (se_mulS se_str (se_var 2)) sa_nil) (ar_cons ar_nil))) (undB_cons (fun _ _ _ _ _ _ _ hr4 => (se_methD D_m_Carriage_loaded (E.cl "Carriage" rfl) (E.clsok "Carriage" rfl) (E.meth "Carriage" "loaded" rfl) (hr4.mono (by decide)) (SE.sub (SE.close (se_makeD D_m_Carriage_init (E.cl "Carriage" rfl) (E.mkx "Carriage" rfl) (hr4.mono (by decide)) rfl (E.glo "Carriage" rfl) (sa_cons se_int (sa_cons se_int (sa_cons (se_var 2) (sa_cons se_int (sa_cons se_int sa_nil))))) (ar_cons (ar_cons (ar_cons (ar_cons (ar_cons ar_nil))))))) (ls_Close _)) (sa_cons (se_lst sa_nil) (sa_cons (se_lst (sa_cons (se_add (se_var 2) se_int) sa_nil)) sa_nil)) (ar_cons (ar_cons ar_nil)))) (undB_cons (fun _ _ _ _ _ _ _ hr4 => (se_callD D_f_letter_spot (hr4.mono (by decide)) rfl (E.glo "letter_spot" rfl) (sa_cons (se_mulS se_str (se_var 2)) sa_nil) (ar_cons ar_nil))) (undB_cons (fun _ _ _ _ _ _ _ hr4 => (se_methD D_m_Strap_hole_for (E.cl "Strap" rfl) (E.clsok "Strap" rfl) (E.meth "Strap" "hole_for" rfl) (hr4.mono (by decide)) (SE.sub (SE.close (se_makeD D_m_Strap_init (E.cl "Strap" rfl) (E.mkx "Strap" rfl) (hr4.mono (by decide)) rfl (E.glo "Strap" rfl) (sa_cons (se_add (se_var 2) se_int) (sa_cons (se_lst (sa_cons (se_var 2) sa_nil)) sa_nil)) (ar_cons (ar_cons ar_nil)))) (ls_Close _)) (sa_cons (se_var 2) (sa_cons se_int sa_nil)) (ar_cons (ar_cons ar_nil)))) (undB_cons (fun _ _ _ _ _ _ _ hr4 => (SE.sub (SE.close (se_makeD D_m_Mule_init (E.cl "Mule" rfl) (E.mkx "Mule" rfl) (hr4.mono (by decide)) rfl (E.glo "Mule" rfl) (sa_cons se_str (sa_cons (se_var 2) (sa_cons (se_lst (sa_cons (se_add (se_var 2) se_int) sa_nil)) (sa_cons (se_lst sa_nil) sa_nil)))) (ar_cons (ar_cons (ar_cons (ar_cons ar_nil)))))) (ls_Close _))) undB_nil)))))))) hr.units nd_f_law rfl (by first | exact .inl rfl | exact .inr rfl) (by first | exact .inl rfl | exact .inr rfl) (by decide) rfl (Nat.le_of_ble_eq_true rfl) (se_callD D_f_law_roll (hr.mono (by decide)) rfl (E.glo "_law_roll" rfl) (sa_cons (se_var 1) (sa_cons se_int sa_nil)) (ar_cons (ar_cons ar_nil))) (se_add (SN.se (sn_lc (own := [("j", 6)]) rfl nd_f_law (si_range1 rfl (E.free "range" rfl) (sa_cons se_int sa_nil)) (blkOk_by rfl) (fun _ _ _ _ _ => (sgw_name nd_f_law rfl (.inl rfl) (by decide))) (fun _ _ _ _ _ => sts_nil) (fun _ _ _ _ _ => (SE.sub (se_eq hr.units (se_var 6) (se_var 5)) (less_op (lo_Eq) _ _))))) (se_lst (sa_cons se_bl sa_nil))) (sss_cons (ss_ret se_bl)
    sss_nil)
    (sss_fgt [1, 2, 3, 4, 5] sss_nil) rfl (by with_unfolding_all rfl) rfl rfl)))
    (sss_cons (ss_ret se_bl)
    sss_nil)))
theorem law_fn {fd : FuncData} (F : FunD K "law" "law" (defArgs (top 36)) (defBody (top 36)) (defScope (top 36)) [] [] (He.fAd K ("law", none)) fd) (E : Ev TX K mg base) : FnOk P w K mg base (CX P w) 7 (He.fAd K ("law", none)) fd ["script"] (spS K (TX.L K (P, w)) 1 F_f_law) := by
  obtain ⟨fdU, FU⟩ : ∃ fdU, FunD K "_law_under" "_law_under" (defArgs (top 35)) (defBody (top 35)) (defScope (top 35)) [] [] (He.fAd K ("_law_under", none)) fdU := E.sd.def_ 15 (d := dF "_law_under" 35) rfl
  have D_f_law_dice : Dk P w K mg base (TX.L K (P, w)) ("_law_dice", none) 2 ["cell"] F_f_law_dice := k_f_law_dice E
  have D_f_law_rounds : Dk P w K mg base (TX.L K (P, w)) ("_law_rounds", none) 3 ["script", "most"] F_f_law_rounds := k_f_law_rounds E D_f_law_dice
  have D_f_law_roll : Dk P w K mg base (TX.L K (P, w)) ("_law_roll", none) 2 ["dice", "many"] F_f_law_roll := k_f_law_roll E
  have D_m_Desk_init : Dk P w K mg base (TX.L K (P, w)) ("Desk", some "__init__") 2 ["self"] F_m_Desk_init := k_m_Desk_init E
  have D_m_Desk_undo : Dk P w K mg base (TX.L K (P, w)) ("Desk", some "undo") 2 ["self"] F_m_Desk_undo := k_m_Desk_undo E
  have D_m_Nag_init : Dk P w K mg base (TX.L K (P, w)) ("Nag", some "__init__") 2 ["self", "name", "skill", "weight", "coins"] F_m_Nag_init := k_m_Nag_init E
  have D_f_told_off : Dk P w K mg base (TX.L K (P, w)) ("told_off", none) 2 ["count", "by"] F_f_told_off := k_f_told_off E
  have D_f_read_line : Dk P w K mg base (TX.L K (P, w)) ("read_line", none) 2 ["text"] F_f_read_line := k_f_read_line E
  have D_m_Carriage_loaded : Dk P w K mg base (TX.L K (P, w)) ("Carriage", some "loaded") 2 ["self", "people", "bags"] F_m_Carriage_loaded := k_m_Carriage_loaded E
  have D_m_Carriage_init : Dk P w K mg base (TX.L K (P, w)) ("Carriage", some "__init__") 2 ["self", "weight", "seats", "luggage", "fore", "hind"] F_m_Carriage_init := k_m_Carriage_init E
  have D_f_letter_spot : Dk P w K mg base (TX.L K (P, w)) ("letter_spot", none) 2 ["letter"] F_f_letter_spot := k_f_letter_spot E
  have D_m_Strap_around : Dk P w K mg base (TX.L K (P, w)) ("Strap", some "around") 2 ["self", "number"] F_m_Strap_around := k_m_Strap_around E
  have D_m_Strap_hole_for : Dk P w K mg base (TX.L K (P, w)) ("Strap", some "hole_for") 3 ["self", "girth", "slack"] F_m_Strap_hole_for := k_m_Strap_hole_for E D_m_Strap_around
  have D_m_Strap_init : Dk P w K mg base (TX.L K (P, w)) ("Strap", some "__init__") 2 ["self", "length", "holes"] F_m_Strap_init := k_m_Strap_init E
  have D_m_Mule_init : Dk P w K mg base (TX.L K (P, w)) ("Mule", some "__init__") 2 ["self", "name", "bears", "left", "right"] F_m_Mule_init := k_m_Mule_init E
  exact @Dk.fn P w K mg base (TX.L K (P, w)) ("law", none) 6 N_f_law ["script"] "law" "law" (defArgs (top 36)) (defBody (top 36)) (defScope (top 36)) fd b_f_law F sc_f_law (fun A outer s H Ex cdv hcode hr => d_f_law E FU D_f_law_roll D_f_law_rounds D_f_letter_spot D_f_read_line D_f_told_off D_m_Carriage_init D_m_Carriage_loaded D_m_Desk_init D_m_Desk_undo D_m_Mule_init D_m_Nag_init D_m_Strap_hole_for D_m_Strap_init hcode hr)
end
abbrev RW : PySem.W.OpenRow := PySem.W.OpenLaw.row PySem.Challenge.rw_saddlehall_k21_refusals_apart
abbrev hk : PySem.W.Hook := PySem.RowX.hookY 6 TX.fa TX.fn [] TX.defns (TX.exU (PySem.Challenge.rw_saddlehall_k21_refusals_apart).prog XS YS)
def ob (s : PySem.W.SharedT) : He.AlX := PySem.RowX.obsY 6 TX.fa TX.fn [] TX.defns (TX.exU (PySem.Challenge.rw_saddlehall_k21_refusals_apart).prog XS YS) (HandSHeadRun.getT s)
theorem ob_eq (s : PySem.W.SharedT) : ob s = hk.obs s.abs := PySem.RowX.obsY_eq (HandSHeadRun.getT_eq s)
def loose : List Str := (List.append ["_wall", "__name__", "SaddleFault", "BadSize", "BadPlan", "NoSuch", "NoRoom", "NoWay", "Tired", "BadText", "BadDeed", "__name__", "told_off", "__name__", "Carriage", "__name__", "DEEDS", "Line", "read_line", "Book", "__name__", "Desk", "__name__", "Nag", "__name__"] ["LETTERS", "letter_spot", "__name__", "Strap", "__name__", "Mule", "__name__", "_law_dice", "_law_roll", "_law_rounds", "_law_under"])
theorem run (w : World) : HandSHeadRun.RunEq RW (PySem.W.view RW.prog [36]) hk ob 20000 loose w := by
  intro os
  kernel_rfl
end SP.Law

namespace SP.Law
open SP PySem PySem.Spec L2
local macro_rules | `(tactic| array_get_dec) => `(tactic| first
  | (with_reducible apply SP.walk_D)
  | exact (rfl : (_ : Option (SP.TEnv × SP.Store)) = _)
  | exact (rfl : (_ : Bool) = _)
  | exact (rfl : (_ : Option SP.T) = _)
  | exact (rfl : (_ : Option (List SP.T)) = _)
  | exact (rfl : (_ : Option (Str × List (Str × SP.T))) = _)
  | exact (rfl : (_ : Option Bool) = _)
  | (with_reducible apply SP.c_Val)
  | (with_reducible apply SP.e_If)
  | (with_reducible apply Exists.intro)
  | (with_reducible apply And.intro)
  | (with_reducible exact SP.dt_nil)
  | (with_reducible refine SP.dt_cons ?_ ?_)
  | (with_reducible refine SP.dt_map ?_)
  | (with_reducible refine SP.dt_app ?_ ?_)
  | (with_reducible apply SP.Dt.int)
  | (with_reducible apply SP.Dt.str)
  | (with_reducible apply SP.Dt.bl)
  | (with_reducible apply SP.Dt.non)
  | (with_reducible apply SP.Dt.tup)
  | (with_reducible apply SP.Dt.lst)
  | (with_reducible apply SP.cl_int)
  | (with_reducible apply SP.cl_str)
  | (with_reducible apply SP.cl_bl)
  | (with_reducible apply SP.cl_non)
  | (with_reducible apply SP.cl_nil)
  | (with_reducible apply SP.cl_cons)
  | (with_reducible apply SP.cl_map)
  | (with_reducible apply SP.cl_app)
  | (with_reducible apply SP.cl_tup)
  | (with_reducible apply SP.cl_lst)
  | (with_reducible apply SP.cl_eD)
  | (with_reducible apply SP.DatE.int)
  | (with_reducible apply SP.DatE.str)
  | (with_reducible apply SP.DatE.bl)
  | (with_reducible apply SP.DatsE.nil)
  | (with_reducible apply SP.DatsE.cons)
  | (with_reducible apply SP.DatsE.map)
  | (with_reducible apply SP.DatE.tup)
  | (with_reducible apply SP.ce_nil)
  | (with_reducible apply SP.ce_none)
  | (with_reducible apply SP.ce_some)
  | (with_reducible apply SP.cf_nil)
  | (with_reducible apply SP.cf_cons)
  | (apply SP.cl_ins)
  | (apply SP.clf_cons)
  | exact SP.clf_nil
  | with_reducible assumption
  | ((apply SP.small_sz); (try simp only [List.length_map, List.length_cons, List.length_nil, List.length_append, List.length_take, List.length_drop, SP.ri_len, SP.mapS_len]) <;> omega)
  | (with_reducible apply SP.clo_pure)
  | (intro _)
  | omega
  | ((simp only [List.length_map, List.length_cons, List.length_nil]) <;> omega)
  | (with_reducible apply_assumption)
  | exact (rfl : (_ : Int) = _)
  | exact (rfl : (_ : SP.Dc) = _))
local macro_rules | `(tactic| array_get_dec) => `(tactic| first
  | (with_reducible apply SP.op_add)
  | (with_reducible apply SP.op_sub)
  | (with_reducible apply SP.o_mulI)
  | (with_reducible apply SP.o_divI)
  | (with_reducible apply SP.o_modI)
  | (with_reducible apply SP.op_lt)
  | (with_reducible apply SP.op_gt)
  | (with_reducible apply SP.op_ge)
  | (with_reducible apply SP.op_le)
  | (with_reducible apply SP.o_ltS)
  | (with_reducible apply SP.o_eqI)
  | (with_reducible apply SP.o_neI)
  | (with_reducible apply SP.o_eqS)
  | (with_reducible apply SP.o_neS)
  | (with_reducible apply SP.o_isN)
  | (with_reducible apply SP.o_isNot)
  | (with_reducible apply SP.o_mulT)
  | (with_reducible apply SP.o_addS)
  | (with_reducible apply SP.o_addT)
  | (with_reducible apply SP.o_addL)
  | (with_reducible apply SP.o_inLS)
  | (with_reducible apply SP.o_ninLS)
  | (with_reducible apply SP.o_inTS)
  | (with_reducible apply SP.o_ninTS)
  | (with_reducible apply SP.o_inLI)
  | (with_reducible apply SP.o_ninLI)
  | (with_reducible apply SP.o_inTI)
  | (with_reducible apply SP.o_ninTI)
  | (with_reducible apply SP.o_inD)
  | (with_reducible apply SP.o_ninD)
  | (with_reducible apply SP.o_ixTm)
  | (with_reducible apply SP.o_ixLm)
  | (with_reducible apply SP.o_ixD)
  | exact SP.o_ixT rfl
  | exact SP.o_ixL rfl
  | (with_reducible apply SP.f_abs)
  | (with_reducible apply SP.f_max2)
  | (with_reducible apply SP.f_min2)
  | (with_reducible apply SP.f_int)
  | (with_reducible apply SP.f_intB)
  | (with_reducible apply SP.f_lenM)
  | (with_reducible apply SP.f_lenMT)
  | (with_reducible apply SP.f_lenL)
  | (with_reducible apply SP.f_lenT)
  | (with_reducible apply SP.f_lenE)
  | (with_reducible apply SP.f_sumL)
  | (with_reducible apply SP.f_sumT)
  | (with_reducible apply SP.f_tup)
  | (with_reducible apply SP.f_tupT)
  | (with_reducible apply SP.f_lst)
  | (with_reducible apply SP.f_lstT)
  | (with_reducible apply SP.f_lstE)
  | (with_reducible apply SP.f_dictF)
  | (with_reducible apply SP.f_min3)
  | (with_reducible apply SP.f_strS)
  | (with_reducible apply SP.f_str)
  | (with_reducible apply SP.f_minI)
  | (with_reducible apply SP.f_maxI)
  | (with_reducible apply SP.f_minTI)
  | (with_reducible apply SP.f_maxTI)
  | (with_reducible apply SP.f_sortD)
  | (with_reducible apply SP.p_no)
  | (with_reducible apply SP.p_some)
  | (with_reducible apply SP.cut_toM)
  | (with_reducible apply SP.cut_fromM)
  | (with_reducible apply SP.cut_midM)
  | (with_reducible apply SP.cut_to)
  | (with_reducible apply SP.cut_from)
  | (with_reducible apply SP.i_enumT)
  | (with_reducible apply SP.i_enumL)
  | (apply SP.f_cutT)
  | (apply SP.f_cutL)
  | (apply SP.f_cutF)
  | (apply SP.f_tup)
  | (apply SP.f_tupT)
  | (apply SP.f_lst)
  | (apply SP.f_lstT)
  | (apply SP.f_lenT)
  | (apply SP.f_lenL))
local macro_rules | `(tactic| array_get_dec) => `(tactic| first
  | ((with_reducible apply SP.e_V); exact rfl)
  | (with_reducible apply SP.e_C)
  | (with_reducible apply SP.a_nil)
  | (with_reducible apply SP.a_cons)
  | (with_reducible apply SP.e_Op)
  | (with_reducible apply SP.e_Call)
  | (with_reducible apply SP.e_Tup)
  | (with_reducible apply SP.e_Lst)
  | (with_reducible apply SP.e_nLst)
  | (with_reducible apply SP.e_nDct)
  | (with_reducible apply SP.e_froz)
  | (with_reducible apply SP.e_thaw)
  | (with_reducible apply SP.c_Bl)
  | (with_reducible apply SP.c_An)
  | (with_reducible apply SP.c_Or)
  | (with_reducible apply SP.c_Nt)
  | (with_reducible apply SP.e_lc)
  | (with_reducible apply SP.e_any)
  | (with_reducible apply SP.e_all)
  | (with_reducible apply SP.e_sumG)
  | (with_reducible apply SP.e_lcf)
  | (with_reducible apply SP.e_anyF)
  | (with_reducible apply SP.e_allF)
  | (with_reducible apply SP.e_sumGF)
  | (with_reducible apply SP.i_seq)
  | (with_reducible apply SP.i_range1)
  | (with_reducible apply SP.i_range2)
  | (with_reducible apply SP.e_Chain)
  | (with_reducible apply SP.e_Fld)
  | (with_reducible apply SP.e_Meth)
  | (with_reducible apply SP.e_Make)
  | (with_reducible apply SP.e_Sl)
  | (with_reducible apply SP.e_Neg)
  | (with_reducible apply SP.e_Rep)
  | (with_reducible apply SP.e_Rg2)
  | (with_reducible apply SP.e_Rg1)
  | (with_reducible apply SP.e_Not)
  | (with_reducible apply SP.e_And)
  | (with_reducible apply SP.e_Or))
local macro_rules | `(tactic| sizeOf_list_dec) => `(tactic| repeat' array_get_dec)
local macro_rules | `(tactic| clean_wf) => `(tactic| simp only [env0, SP.upd, SP.wipeT, List.map_cons, List.map_nil, List.length_cons, List.length_nil, List.replicate, List.replicate_zero, Nat.sub_self, Nat.zero_add, List.cons_append, List.nil_append, ap_set0, ap_sets, List.zip_cons_cons, List.zip_nil_right, List.zip_nil_left, List.foldl_cons, List.foldl_nil])
local macro_rules | `(tactic| bv_omega) => `(tactic| first | rfl | assumption | omega | (simp; done) | (simp; omega) | (simp [*]; done) | (simp [*]; omega) | (simp_all; done) | (simp_all; omega))
local macro_rules | `(tactic| array_mem_dec) => `(tactic| repeat (first
  | ((with_reducible apply SP.g_fgt); (try clean_wf))
  | ((with_reducible apply SP.g_set); (· (sizeOf_list_dec; done)); (try clean_wf))
  | ((with_reducible apply SP.g_par); (· (sizeOf_list_dec; done)); (· exact rfl); (try clean_wf))
  | ((with_reducible apply SP.g_asg); (· (sizeOf_list_dec; done)); (· exact rfl); (try clean_wf))
  | ((with_reducible apply SP.g_expr); · (sizeOf_list_dec; done))
  | ((with_reducible apply SP.g_aug); (· exact rfl); (· (sizeOf_list_dec; done)); (· exact rfl); (try clean_wf))
  | (with_reducible apply SP.g_asc)
  | (with_reducible apply SP.g_skip)
  | ((with_reducible apply SP.g_raise); (· (sizeOf_list_dec; done)); (· (sizeOf_list_dec; done)); (· exact rfl))
  | ((with_reducible apply SP.s_fldL); (· (sizeOf_list_dec; done)); (· exact rfl); (· exact rfl); (· exact Nat.le_of_ble_eq_true rfl))
  | ((with_reducible apply SP.s_fgt); (try clean_wf))
  | ((with_reducible apply SP.s_set); (· (sizeOf_list_dec; done)); (try clean_wf))
  | ((with_reducible apply SP.s_par); (· (sizeOf_list_dec; done)); (· exact rfl); (try clean_wf))
  | ((with_reducible apply SP.s_asg); (· (sizeOf_list_dec; done)); (· exact rfl); (try clean_wf))
  | ((with_reducible apply SP.s_expr); · (sizeOf_list_dec; done))
  | ((with_reducible apply SP.s_aug); (· exact rfl); (· (sizeOf_list_dec; done)); (· exact rfl); (try clean_wf))
  | (with_reducible apply SP.s_asc)
  | (with_reducible apply SP.s_skip)
  | ((with_reducible apply SP.s_ret); · (sizeOf_list_dec; done))
  | ((with_reducible apply SP.s_raise) <;> (sizeOf_list_dec; done))))
theorem law_roll {d d' : Dc} {r : Store} {m v : Int} (e1 : dv m d = v) (e2 : dn m d = d') (h : 0 < m) (h2 : m < 2 ^ 60) : F_f_law_roll [.obj 0, .int m] (some (eDc d) :: r) = .ok (.int v) (some (eDc d') :: r) := by subst e1 e2; exact roll_0 h h2
theorem law_rounds (l : List Int) (t : T) (ht : t = .lst (l.map .int) ∨ t = .fz (l.map .int)) : ∃ d, F_f_law_rounds [t, .int 1] [] = .ok (.lst [.obj 0]) [some (eDc d)] := rounds_at l t ht
abbrev Sq (d : Dc) (r : Store) : Store := some (eDc d) :: r
theorem roll_at {d d' : Dc} {r : Store} {ρ : TEnv} {i : Nat} {m v : Int} (h0 : ρ[i]? = some (some (.obj 0))) (e1 : dv m d = v) (e2 : dn m d = d') (h1 : 0 < m) (h2 : m < 2 ^ 60) : sCall F_f_law_roll (aCons (sVar i) (aCons (sC (.int m)) aNil)) ρ (Sq d r) = .ok (.int v) (Sq d' r) :=
  e_Call (a_cons (e_V h0) (a_cons e_C a_nil)) (law_roll e1 e2 h1 h2)
def okF : R Bool → Bool
  | .ok b _ => !b
  | _ => false
noncomputable def fbs : List Sm := [(sMeth "Desk" "undo" F_m_Desk_undo (sVar 3) aNil), (sCloseC (sMake "Nag" F_m_Nag_init (aCons (sC (.str "a")) (aCons (sOp oAdd (sC (.int 5)) (sVar 2)) (aCons (sC (.int 1)) (aCons (sC (.int 1)) aNil)))))), (sCall F_f_told_off (aCons (sOp oSub (sC (.int 0)) (sVar 2)) (aCons (sC (.int 1)) aNil))), (sCall F_f_read_line (aCons (sOp oMulS (sC (.str "x")) (sVar 2)) aNil)), (sMeth "Carriage" "loaded" F_m_Carriage_loaded (sCloseC (sMake "Carriage" F_m_Carriage_init (aCons (sC (.int 1)) (aCons (sC (.int 1)) (aCons (sVar 2) (aCons (sC (.int 1)) (aCons (sC (.int 1)) aNil))))))) (aCons (sLst aNil) (aCons (sLst (aCons (sOp oAdd (sVar 2) (sC (.int 1))) aNil)) aNil))), (sCall F_f_letter_spot (aCons (sOp oMulS (sC (.str "x")) (sVar 2)) aNil)), (sMeth "Strap" "hole_for" F_m_Strap_hole_for (sCloseC (sMake "Strap" F_m_Strap_init (aCons (sOp oAdd (sVar 2) (sC (.int 1))) (aCons (sLst (aCons (sVar 2) aNil)) aNil)))) (aCons (sVar 2) (aCons (sC (.int 2)) aNil))), (sCloseC (sMake "Mule" F_m_Mule_init (aCons (sC (.str "a")) (aCons (sVar 2) (aCons (sLst (aCons (sOp oAdd (sVar 2) (sC (.int 1))) aNil)) (aCons (sLst aNil) aNil))))))]
noncomputable def f2 : Sm := (sOp oAdd (froz (nLc (iRange1 (aCons (sC (.int 8)) aNil)) (gNm 6) tTrue (sOp oEqC (sVar 6) (sVar 5)) [6])) (sLst (aCons (sC (.bl true)) aNil)))
def dq : Store := [some (.ins "Desk" [("text", .str "1 bess comes 900\n1 bess eats 8\n2 bess rides 12"), ("deeds", .obj 2), ("undone", .obj 3)]), some (.lst []), some (.lst [])]
theorem desk_new (d : Dc) (ρ : TEnv) : sMake "Desk" F_m_Desk_init aNil ρ (Sq d []) = .ok (.obj 1) (Sq d dq) := by kernel_rfl
noncomputable def condN (d : Dc) (t : Option T) (k n : Nat) : Bool := match fbs[k]? with
  | some fb => okF (tBl (sOp oNeC (froz (nUnd (undBs XS YS) fb)) f2) [t, some (.obj 0), some (.int (1 + (n : Int))), some (.obj 1), none, some (.int (.ofNat k)), none] (Sq d dq))
  | none => false
theorem tab0_0 (d : Dc) (t : Option T) : ((List.range 30).all fun n => condN d t 0 (0 + n)) = true := by kernel_rfl
theorem tab0_1 (d : Dc) (t : Option T) : ((List.range 30).all fun n => condN d t 0 (30 + n)) = true := by kernel_rfl
theorem tab0_2 (d : Dc) (t : Option T) : ((List.range 30).all fun n => condN d t 0 (60 + n)) = true := by kernel_rfl
theorem tab1_0 (d : Dc) (t : Option T) : ((List.range 30).all fun n => condN d t 1 (0 + n)) = true := by kernel_rfl
theorem tab1_1 (d : Dc) (t : Option T) : ((List.range 30).all fun n => condN d t 1 (30 + n)) = true := by kernel_rfl
theorem tab1_2 (d : Dc) (t : Option T) : ((List.range 30).all fun n => condN d t 1 (60 + n)) = true := by kernel_rfl
theorem tab2_0 (d : Dc) (t : Option T) : ((List.range 30).all fun n => condN d t 2 (0 + n)) = true := by kernel_rfl
theorem tab2_1 (d : Dc) (t : Option T) : ((List.range 30).all fun n => condN d t 2 (30 + n)) = true := by kernel_rfl
theorem tab2_2 (d : Dc) (t : Option T) : ((List.range 30).all fun n => condN d t 2 (60 + n)) = true := by kernel_rfl
theorem tab3_0 (d : Dc) (t : Option T) : ((List.range 30).all fun n => condN d t 3 (0 + n)) = true := by kernel_rfl
theorem tab3_1 (d : Dc) (t : Option T) : ((List.range 30).all fun n => condN d t 3 (30 + n)) = true := by kernel_rfl
theorem tab3_2 (d : Dc) (t : Option T) : ((List.range 30).all fun n => condN d t 3 (60 + n)) = true := by kernel_rfl
theorem tab4_0 (d : Dc) (t : Option T) : ((List.range 30).all fun n => condN d t 4 (0 + n)) = true := by kernel_rfl
theorem tab4_1 (d : Dc) (t : Option T) : ((List.range 30).all fun n => condN d t 4 (30 + n)) = true := by kernel_rfl
theorem tab4_2 (d : Dc) (t : Option T) : ((List.range 30).all fun n => condN d t 4 (60 + n)) = true := by kernel_rfl
theorem tab5_0 (d : Dc) (t : Option T) : ((List.range 30).all fun n => condN d t 5 (0 + n)) = true := by kernel_rfl
theorem tab5_1 (d : Dc) (t : Option T) : ((List.range 30).all fun n => condN d t 5 (30 + n)) = true := by kernel_rfl
theorem tab5_2 (d : Dc) (t : Option T) : ((List.range 30).all fun n => condN d t 5 (60 + n)) = true := by kernel_rfl
theorem tab6_0 (d : Dc) (t : Option T) : ((List.range 30).all fun n => condN d t 6 (0 + n)) = true := by kernel_rfl
theorem tab6_1 (d : Dc) (t : Option T) : ((List.range 30).all fun n => condN d t 6 (30 + n)) = true := by kernel_rfl
theorem tab6_2 (d : Dc) (t : Option T) : ((List.range 30).all fun n => condN d t 6 (60 + n)) = true := by kernel_rfl
theorem tab7_0 (d : Dc) (t : Option T) : ((List.range 30).all fun n => condN d t 7 (0 + n)) = true := by kernel_rfl
theorem tab7_1 (d : Dc) (t : Option T) : ((List.range 30).all fun n => condN d t 7 (30 + n)) = true := by kernel_rfl
theorem tab7_2 (d : Dc) (t : Option T) : ((List.range 30).all fun n => condN d t 7 (60 + n)) = true := by kernel_rfl
theorem tab_all (d : Dc) (t : Option T) {k n : Nat} (hk : k < 8) (hn : n < 90) : condN d t k n = true := by
  have key : ∀ {k c : Nat}, ((List.range 30).all fun n => condN d t k (c + n)) = true → ∀ {n : Nat}, c ≤ n → n < c + 30 → condN d t k n = true := fun {k c} h {n} h1 h2 => by
    have z := List.all_eq_true.mp h (n - c) (List.mem_range.mpr (by omega))
    rwa [show c + (n - c) = n from by omega] at z
  match k, hk with
  | 0, _ =>
    by_cases h1 : n < 30
    · exact key (c := 0) (tab0_0 d t) (by omega) (by omega)
    · by_cases h2 : n < 60
      · exact key (c := 30) (tab0_1 d t) (by omega) (by omega)
      · exact key (c := 60) (tab0_2 d t) (by omega) (by omega)
  | 1, _ =>
    by_cases h1 : n < 30
    · exact key (c := 0) (tab1_0 d t) (by omega) (by omega)
    · by_cases h2 : n < 60
      · exact key (c := 30) (tab1_1 d t) (by omega) (by omega)
      · exact key (c := 60) (tab1_2 d t) (by omega) (by omega)
  | 2, _ =>
    by_cases h1 : n < 30
    · exact key (c := 0) (tab2_0 d t) (by omega) (by omega)
    · by_cases h2 : n < 60
      · exact key (c := 30) (tab2_1 d t) (by omega) (by omega)
      · exact key (c := 60) (tab2_2 d t) (by omega) (by omega)
  | 3, _ =>
    by_cases h1 : n < 30
    · exact key (c := 0) (tab3_0 d t) (by omega) (by omega)
    · by_cases h2 : n < 60
      · exact key (c := 30) (tab3_1 d t) (by omega) (by omega)
      · exact key (c := 60) (tab3_2 d t) (by omega) (by omega)
  | 4, _ =>
    by_cases h1 : n < 30
    · exact key (c := 0) (tab4_0 d t) (by omega) (by omega)
    · by_cases h2 : n < 60
      · exact key (c := 30) (tab4_1 d t) (by omega) (by omega)
      · exact key (c := 60) (tab4_2 d t) (by omega) (by omega)
  | 5, _ =>
    by_cases h1 : n < 30
    · exact key (c := 0) (tab5_0 d t) (by omega) (by omega)
    · by_cases h2 : n < 60
      · exact key (c := 30) (tab5_1 d t) (by omega) (by omega)
      · exact key (c := 60) (tab5_2 d t) (by omega) (by omega)
  | 6, _ =>
    by_cases h1 : n < 30
    · exact key (c := 0) (tab6_0 d t) (by omega) (by omega)
    · by_cases h2 : n < 60
      · exact key (c := 30) (tab6_1 d t) (by omega) (by omega)
      · exact key (c := 60) (tab6_2 d t) (by omega) (by omega)
  | 7, _ =>
    by_cases h1 : n < 30
    · exact key (c := 0) (tab7_0 d t) (by omega) (by omega)
    · by_cases h2 : n < 60
      · exact key (c := 30) (tab7_1 d t) (by omega) (by omega)
      · exact key (c := 60) (tab7_2 d t) (by omega) (by omega)
theorem cond_ok (d : Dc) (t : Option T) {k n : Nat} (hk : k < 8) (hn : n < 90) : ∃ fb q', fbs[k]? = some fb ∧ tBl (sOp oNe (froz (nUnd (undBs XS YS) fb)) f2) [t, some (.obj 0), some (.int (1 + (n : Int))), some (.obj 1), none, some (.int (.ofNat k)), none] (Sq d dq) = .ok false q' := by
  have h := tab_all d t hk hn
  unfold condN at h
  cases e : fbs[k]? with
  | none => rw [e] at h; cases h
  | some fb =>
    rw [e] at h
    simp only at h
    rcases less_tBl (less_op lo_Ne (froz (nUnd (undBs XS YS) fb)) f2) [t, some (.obj 0), some (.int (1 + (n : Int))), some (.obj 1), none, some (.int (.ofNat k)), none] (Sq d dq) with z | z
    · rw [z] at h; cases h
    · rw [z] at h
      cases e2 : tBl (sOp oNe (froz (nUnd (undBs XS YS) fb)) f2) [t, some (.obj 0), some (.int (1 + (n : Int))), some (.obj 1), none, some (.int (.ofNat k)), none] (Sq d dq) with
      | ok b q' =>
        rw [e2] at h
        cases b with
        | false => exact ⟨fb, q', rfl, e2⟩
        | true => cases h
      | exc c fs q' => rw [e2] at h; cases h
      | stuck => rw [e2] at h; cases h
theorem law_body {d : Dc} (t : Option T) : ∃ ρ' q', (xSeq (xAsg (gTp [(gNm 2), (gNm 3)]) (sTup (aCons (sOp oAdd (sC (.int 1)) (sCall F_f_law_roll (aCons (sVar 1) (aCons (sC (.int 90)) aNil)))) (aCons (sMake "Desk" F_m_Desk_init aNil) aNil)))) (xUnd 4 5 (sCall F_f_law_roll (aCons (sVar 1) (aCons (sC (.int 8)) aNil))) [(sMeth "Desk" "undo" F_m_Desk_undo (sVar 3) aNil), (sCloseC (sMake "Nag" F_m_Nag_init (aCons (sC (.str "a")) (aCons (sOp oAdd (sC (.int 5)) (sVar 2)) (aCons (sC (.int 1)) (aCons (sC (.int 1)) aNil)))))), (sCall F_f_told_off (aCons (sOp oSub (sC (.int 0)) (sVar 2)) (aCons (sC (.int 1)) aNil))), (sCall F_f_read_line (aCons (sOp oMulS (sC (.str "x")) (sVar 2)) aNil)), (sMeth "Carriage" "loaded" F_m_Carriage_loaded (sCloseC (sMake "Carriage" F_m_Carriage_init (aCons (sC (.int 1)) (aCons (sC (.int 1)) (aCons (sVar 2) (aCons (sC (.int 1)) (aCons (sC (.int 1)) aNil))))))) (aCons (sLst aNil) (aCons (sLst (aCons (sOp oAdd (sVar 2) (sC (.int 1))) aNil)) aNil))), (sCall F_f_letter_spot (aCons (sOp oMulS (sC (.str "x")) (sVar 2)) aNil)), (sMeth "Strap" "hole_for" F_m_Strap_hole_for (sCloseC (sMake "Strap" F_m_Strap_init (aCons (sOp oAdd (sVar 2) (sC (.int 1))) (aCons (sLst (aCons (sVar 2) aNil)) aNil)))) (aCons (sVar 2) (aCons (sC (.int 2)) aNil))), (sCloseC (sMake "Mule" F_m_Mule_init (aCons (sC (.str "a")) (aCons (sVar 2) (aCons (sLst (aCons (sOp oAdd (sVar 2) (sC (.int 1))) aNil)) (aCons (sLst aNil) aNil))))))] (undBs XS YS) (sOp oAdd (froz (nLc (iRange1 (aCons (sC (.int 8)) aNil)) (gNm 6) tTrue (sOp oEqC (sVar 6) (sVar 5)) [6])) (sLst (aCons (sC (.bl true)) aNil))) (xSeq (xRet (sC (.bl false))) xNil) (xSeq (xFgt [1, 2, 3, 4, 5]) xNil))) [t, some (.obj 0), none, none, none, none, none] [some (eDc d)] = .nx ρ' q' := by
  obtain ⟨v, d1, x1, y1, l1, u1⟩ := roll_all 90 d (by decide)
  obtain ⟨k, d2, x2, y2, l2, u2⟩ := roll_all 8 d1 (by decide)
  obtain ⟨n, rfl⟩ := Int.eq_ofNat_of_zero_le l1
  obtain ⟨j, rfl⟩ := Int.eq_ofNat_of_zero_le l2
  obtain ⟨fb, q', e1, e2⟩ := cond_ok d2 t (k := j) (n := n) (by omega) (by omega)
  refine ⟨[t, none, none, none, none, none, none], q', ?_⟩
  have ha : sTup (aCons (sOp oAdd (sC (.int 1)) (sCall F_f_law_roll (aCons (sVar 1) (aCons (sC (.int 90)) aNil)))) (aCons (sMake "Desk" F_m_Desk_init aNil) aNil)) [t, some (.obj 0), none, none, none, none, none] (Sq d []) = .ok (.tup [.int (1 + (n : Int)), .obj 1]) (Sq d1 dq) :=
    e_Tup (a_cons (e_Op e_C (roll_at rfl x1 y1 (by decide) (by decide)) op_add) (a_cons (desk_new d1 _) a_nil)) (Nat.le_of_ble_eq_true rfl)
  have hu : xUnd 4 5 (sCall F_f_law_roll (aCons (sVar 1) (aCons (sC (.int 8)) aNil))) fbs (undBs XS YS) f2 (xSeq (xRet (sC (.bl false))) xNil) (xSeq (xFgt [1, 2, 3, 4, 5]) xNil) [t, some (.obj 0), some (.int (1 + (n : Int))), some (.obj 1), none, none, none] (Sq d1 dq) = .nx [t, none, none, none, none, none, none] q' := by
    unfold xUnd
    rw [roll_at (ρ := [t, some (.obj 0), some (.int (1 + (n : Int))), some (.obj 1), none, none, none].set 4 none) (i := 1) rfl x2 y2 (by decide) (by decide), to_ok]
    show (match fbs[j]? with | some fb => _ | none => _) = _
    rw [e1]
    show (xIf (tBl (sOp oNe (froz (nUnd (undBs XS YS) fb)) f2)) (xSeq (xRet (sC (.bl false))) xNil) xNil [t, some (.obj 0), some (.int (1 + (n : Int))), some (.obj 1), none, some (.int (.ofNat j)), none] (Sq d2 dq)).then _ = _
    unfold xIf
    rw [e2]
    rfl
  exact s_asg (t := .tup [.int (1 + (n : Int)), .obj 1]) (q1 := Sq d1 dq) (ρ2 := [t, some (.obj 0), some (.int (1 + (n : Int))), some (.obj 1), none, none, none]) (q2 := Sq d1 dq) ha rfl hu
theorem law_ok : LawOk F_f_law := by
  intro ns t ht _ _
  obtain ⟨d, e⟩ := law_rounds ns t ht
  obtain ⟨ρ', q', b⟩ := law_body (d := d) (some t)
  refine ⟨q', ?_⟩
  unfold F_f_law b_f_law
  apply run_K
  array_mem_dec
  apply s_for
  · apply i_seq
    · apply e_Call
      · sizeOf_list_dec
      · exact e
    · rfl
  · unfold forT
    simp only [gNm]
    clean_wf
    simp only [b]
    rfl
  · apply s_ret
    sizeOf_list_dec
end SP.Law
set_option maxHeartbeats 0
open PySem PySem.W PySem.Calls PyProof.Rows in
theorem PySem.Challenge.cw_saddlehall_k21_refusals_apart_holds : PySem.Challenge.rw_saddlehall_k21_refusals_apart.Holds := by
  w_on; o_law
  refine HandSHeadRun.head_any (r := OpenLaw.row PySem.Challenge.rw_saddlehall_k21_refusals_apart) (q := view (OpenLaw.row PySem.Challenge.rw_saddlehall_k21_refusals_apart).prog [36]) (H := SP.Law.hk) (ob := SP.Law.ob) (M := 20000) (loose := SP.Law.loose) (d := HandSHeadRun.topDef (OpenLaw.row PySem.Challenge.rw_saddlehall_k21_refusals_apart).prog 36) (kwd := []) SP.Law.ob_eq
    (by kernel_rfl) (fun s => by kernel_rfl) SP.Law.run (by kernel_rfl) (by kernel_rfl) (by kernel_rfl) (by rfl) (by first | assumption | decide +kernel) (by decide +kernel) ⟨rfl, rfl, rfl, rfl, rfl, by decide +kernel⟩ ?hw ?hc
  case hw => w_witness2
  case hc =>
    refine LamX.walk_ofTsE (l := PySem.Challenge.rw_saddlehall_k21_refusals_apart) (n := 63) (k := 7) (x := "script") (CX := fun w => L2.CX (PySem.Challenge.rw_saddlehall_k21_refusals_apart).prog w) rfl (by decide) (by kernel_rfl) ⟨rfl, by decide, by decide⟩ ?F ?X
    case X =>
      rintro w H s e s' ⟨_, _, _, _, _, _, _, _, _, _, _, _, z⟩
      exact z
    case F =>
      intro w mg fa h Y G hmg0
      obtain ⟨K, KX, c⟩ := Y
      have hmg : mg ("law" : PySem.Str) = some (.ref fa) := by
        have e : (HandSHeadRun.topDef (OpenLaw.row PySem.Challenge.rw_saddlehall_k21_refusals_apart).prog 36).name = ("law" : PySem.Str) := by kernel_rfl
        rw [← e]
        exact hmg0
      obtain ⟨fd, F⟩ : ∃ fd, L2.FunD K "law" "law" (L2.defArgs (SP.Law.top 36)) (L2.defBody (SP.Law.top 36)) (L2.defScope (SP.Law.top 36)) [] [] (He.fAd K ("law", none)) fd := c.t.d.def_ 16 (d := SP.Law.dF "law" 36) rfl
      have e : fa = He.fAd K ("law", none) := by
        have z := hmg.symm.trans (He.glo_ok KX G (c.t.d.facts (f := .glo "law") (List.mem_append_left _ (List.mem_map.mpr ⟨"law", by decide +kernel, rfl⟩))))
        cases z
        rfl
      subst e
      have b := L2.FunD.bindsA (ps := ["script"]) F fun _ _ _ _ _ _ us hl => match us, hl with | [_], _ => rfl
      haveI := SP.says_r (SP.saysU_r c); haveI := SP.saysU_u c; exact ⟨K, KX, SP.law_at KX G (SP.says_l (SP.saysU_r c)) (fun s v => b s [v] rfl) (fun base E => SP.Law.law_fn F E) SP.Law.law_ok⟩
