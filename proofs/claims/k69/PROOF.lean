import PyProof.Rows.All
import Wide.All
import OpenK.AllK
import Wide.FinOn
import HandS.Base
import HandS.Call
import HandS.List
import HandS.Comp
import HandS.Ends
import HandS.Iter
import HandS.Conv
import HandS.TupAny
import HandS.TupMul
import HandS.WideBits
import KE.DataFind
import HandS.Exc
import HandS.Words
import HandS.WordsExc
import HandS.ExcOwn
import HandS.CallSlots
import HandS.Defaults
import HandS.Flow
import KE.KDictKeyed
import HandS.IsInst
import HandS.Deep
import KE.SortData
import HandS.Codes
import HandS.TupSets
import PySem.Challenge.RW_noughtways_k69_lengths_of_pairs
import KE.KStateDown
import HandS.More
import HandS.Head0
import HandS.Head1
import HandS.Head2
import HandS.HeadEnd
import HandS.HeadHook1
import HandS.HeadHook2
set_option Elab.async false
set_option linter.all false
set_option maxRecDepth 100000
set_option maxHeartbeats 0
/-! Mo0: tuples that are known to have no dict of their own: how they are made, count. -/
namespace Mo
open PySem PySem.Spec PyProof.Rows L2
/-- a tuple as it is made -/
def tObj (us : List Value) : Obj := { cls := .type "tuple", data := .seq us.toArray }
/-- a tuple without a dict -/
def TpN (K : PySem.W.Frag) (H : Hp) (a : Addr) (xs : List V) : Prop :=
  (∃ o, H a = some (.frz o (.tup xs)) ∧ o.dict = none) ∨
    ∃ (o : Obj) (its : Array Value) (n : Nat), K.lookup a = some o ∧ o.cls = .type "tuple" ∧ o.dict = none ∧ o.data = .seq its n ∧ its.size ≤ sizeLine ∧ Vals xs its.toList
theorem TpN.sq {K : PySem.W.Frag} {H : Hp} {a : Addr} {xs : List V} (h : TpN K H a xs) : SqT K H a xs := by
  rcases h with ⟨o, h, _⟩ | ⟨o, its, n, h1, h2, _, h3, h4, h5⟩
  · exact .inl (.inr ⟨o, h⟩)
  · exact .inr ⟨o, its, n, h1, h2, h3, h4, h5⟩
theorem TpN.new {K : PySem.W.Frag} {H : Hp} {p : Addr} {xs : List V} {us : List Value} : TpN K (upd H p (.frz (tObj us) (.tup xs))) p xs := .inl ⟨_, upd_same, rfl⟩
theorem TpN.up {K : PySem.W.Frag} {H : Hp} {a p : Addr} {xs : List V} {o : HO} (h : TpN K H a xs) (n : H p = none) : TpN K (upd H p o) a xs := by
  rcases h with ⟨u, h, e⟩ | h
  · exact .inl ⟨u, by rw [upd_ne (ne_of_none h n)]; exact h, e⟩
  · exact .inr h
/-- what a new tuple asks of what follows -/
def NewT (H : Hp) (xs : List V) (Q : VK) : Prop := ∀ (us : List Value) (p : Addr), H p = none → Q (.ref p) (upd H p (.frz (tObj us) (.tup xs)))
section
variable {X : Cx} {pins : List (Addr × Obj)} {σ : L2.St} {H : Hp} {s : Shared} {xs : List V} {us : List Value} {Q : VK}
theorem newT (I : Inv X pins σ H s) (r : Vals xs us) (z : xs.length ≤ sizeLine) (q : NewT H xs Q) : EP X pins σ Q (.ref s.heap.objs.size) { s with heap := s.heap.push (tObj us) } := by
  have g : (s.heap.push (tObj us)).get? s.heap.objs.size = some (tObj us) := Heap.get?_push_size _ rfl
  exact ⟨.ref s.heap.objs.size, _, I.laid (t' := s.toks) (o := .frz (tObj us) (.tup xs)) (fun b u e => Heap.get?_push_of_some _ e) (Nat.le_refl _) ⟨g, z, us, r, _, g, rfl, _, rfl⟩, rfl, q us _ (I.hok.fresh (Nat.le_refl _))⟩
end
section
variable {X : Cx} {es : List Expr} {t : TA} {pos : Pos}
theorem pe_tupN {k} (h : PA X es t) : PE X (.Tuple es k pos) (fun σ H Q => t σ H fun xs H1 => xs.length ≤ sizeLine ∧ NewT H1 xs Q) :=
  ⟨fun pins s σ H Q I hq => wpAny_Tuple_spliced (thn (h.run pos pins s σ H _ I hq) fun us s1 ⟨xs, H1, I1, r, z, q⟩ => ⟨by rw [← r.length]; exact z, newT I1 r z q⟩)⟩
def rCatN (K : PySem.W.Frag) : R2 := fun x y H Q => ∃ a b xs ys, x = .ref a ∧ y = .ref b ∧ SqT K H a xs ∧ SqT K H b ys ∧ xs.length + ys.length ≤ sizeLine ∧
  (xs = [] → Q (.ref b) H) ∧ (ys = [] → Q (.ref a) H) ∧ NewT H (xs ++ ys) Q
theorem op_catN : OpR X (binaryOp .Add) (rCatN X.K) := by
  intro pins s σ H x y v u Q I rx ry ⟨a, b, xs, ys, ex, ey, ha, hb, hz, q0, q1, q2⟩
  subst ex ey
  cases rx
  cases ry
  obtain ⟨us, r1, p1, _⟩ := I.tuple ha
  obtain ⟨ws, r2, p2, _⟩ := I.tuple hb
  by_cases hx : xs = []
  · subst hx
    cases r1
    exact cat_tup0 p1 p2 ⟨.ref b, H, I, rfl, q0 rfl⟩
  · refine HT.cat_tup p1 p2 (fun z => hx (r1.nil_iff.mp z)) (fun z => ⟨.ref a, H, I, rfl, q1 (r2.nil_iff.mp z)⟩) (fun _ => newT I (r1.append r2) (by rw [List.length_append]; exact hz) q2) ?_
    have l1 := r1.length
    have l2 := r2.length
    omega
/-- tuple(x) of a list, of a tuple -/
theorem callT_of : CallR X (.type "tuple") (fun xs H Q => ∃ p ys, xs = [.ref p] ∧ ((SqL X.K H p ys ∧ NewT H ys Q) ∨ (SqT X.K H p ys ∧ Q (.ref p) H))) := by
  intro pins s σ H xs us Q I r ⟨p, ys, e, h⟩
  subst e
  rw [Vals.ref1 r]
  rcases h with ⟨hq, q⟩ | ⟨hq, q⟩
  · obtain ⟨ws, r', pl, hz⟩ := I.list hq
    have l := r'.length
    refine call_tuple_list pl.isList (fun h' kp => ?_) (by rw [List.size_toArray]; omega)
    have I1 : Inv X pins σ H { s with heap := h' } := I.kept (t' := s.toks) kp
    exact newT I1 r' hz q
  · obtain ⟨ws, r', pl, hz⟩ := I.tuple hq
    exact call_tuple_same pl ⟨.ref p, H, I, rfl, q⟩
theorem call_divmodN : CallR X (.builtin "divmod") (fun xs H Q => ∃ i j, xs = [.int i, .int j] ∧ CDivP i j ∧ NewT H [.int (i / j), .int (i % j)] Q) := by
  intro pins s σ H xs us Q I r ⟨i, j, e, c, q⟩
  subst e
  obtain ⟨t, u, rfl⟩ := Vals.int2 r
  have c1 := c.1
  refine divmod_int (by omega) ?_ (.inl c.2)
  rw [Int.fdiv_eq_ediv_of_nonneg i (Int.le_of_lt c1), Int.fmod_eq_emod_of_nonneg i (Int.le_of_lt c1)]
  have g : (s.heap.push (tObj [.int (i / j) s.toks, .int (i % j) (s.toks + 1)])).get? s.heap.objs.size = some (tObj [.int (i / j) s.toks, .int (i % j) (s.toks + 1)]) := Heap.get?_push_size _ rfl
  exact ⟨.ref s.heap.objs.size, _, I.laid (o := .frz (tObj [.int (i / j) s.toks, .int (i % j) (s.toks + 1)]) (.tup [.int (i / j), .int (i % j)])) (fun b u e => Heap.get?_push_of_some _ e) (Nat.le_refl _) ⟨g, by show 2 ≤ sizeLine; decide, _, .cons ⟨_, rfl⟩ (.cons ⟨_, rfl⟩ .nil), _, g, rfl, _, rfl⟩, rfl, q _ _ (I.hok.fresh (Nat.le_refl _))⟩
def rSlN (K : PySem.W.Frag) : V → Option Int → Option Int → Hp → VK → Prop := fun x lo hi H Q => ∃ a xs, x = .ref a ∧ SqT K H a xs ∧
  (HT.sIx xs.length 0 lo = 0 ∧ HT.sIx xs.length xs.length hi = xs.length → Q (.ref a) H) ∧ NewT H (cutV xs lo hi) Q
theorem sl_tupN : SlR X (rSlN X.K) := by
  intro pins s σ H x v vl vu lo hi sl Q I rx hs pl pu ⟨a, xs, ex, hx, q1, q2⟩
  subst ex
  cases rx
  obtain ⟨us, r, ht, hz⟩ := I.tuple hx
  have hl : us.toArray.size = xs.length := by rw [List.size_toArray]; exact r.length.symm
  refine ⟨"tuple", _, PyProof.Rows.slot_tuple_getitem.lookup, ht.typeIs, ?_⟩
  by_cases hw : HT.sIx xs.length 0 lo = 0 ∧ HT.sIx xs.length xs.length hi = xs.length
  · exact getItem_tuple_whole ht hs pl pu (by rw [hl]; exact hw) ⟨.ref a, H, I, rfl, q1 hw⟩
  · refine HT.getItem_tuple_cut ht hs pl pu (by rw [hl]; exact hw) ?_ (by rw [hl]; exact hz)
    rw [hl]
    exact newT I ((r.drop _).take _) (Nat.le_trans (cutV_length xs lo hi) hz) q2
theorem pe_tupRgN {e : Expr} {te : L2.St → Hp → (Int → Int → Hp → Prop) → Prop} {p pos : Pos} (hc : X.calm = true) (hg : Gl X "tuple") (hm : X.mg "tuple" = none) (he : PRg X e te) (na : starEach [e] X.env = (false, eval e X.env) :: starEach [] X.env := by rfl) :
    PE X (.Call (.Name "tuple" p) [e] [] pos) (fun σ H Q => te σ H fun a b H1 => RgOk a b ∧ NewT H1 (rgV a b) Q) := by
  refine ⟨fun pins s σ H Q I h => Call_ (ld_blt I hg hm PyProof.Rows.boot_tuple (PyProof.Rows.callWith_type1 (args_cons (thn (he pins s σ H _ I h) fun x s1 ⟨r, a, b, t, u, v, H1, ex, hr, I1, ok, q⟩ => args_nil ?_) na) na))⟩
  subst ex
  obtain ⟨b1, b2, b3, b4, b5⟩ := ok
  refine call_tuple_range (n := (b - a).toNat) (I1.ok.hd hc) hr (small_one b1 b2 b3 b4) (rangeSize_nat a b) b5 fun h' tk acc hk hi => ?_
  have I2 : Inv X pins σ H1 { s1 with heap := h', toks := tk } := I1.kept hk
  have := newT I2 (us := acc.toList) (vals_rg hi) (by rw [rgV_length, sizeLine_eq]; omega) q
  unfold tObj at this
  rw [Array.toArray_toList] at this
  exact this
/-! ### enumerate: the pairs without a dict -/
def IteN (K : PySem.W.Frag) (a : Addr) : It :=
  ⟨(Ite K a).go, fun i H v H' => ∃ (us : List Value) (T : Addr) (x : V), v = .ref T ∧ H T = none ∧ H' = upd H T (.frz (tObj us) (.tup [.int (i : Nat), x])) ∧ ∀ xs, SqL K H a xs → xs[i]? = some x, (Ite K a).stop⟩
theorem turn_enumN {P : Program} {w : World} {K : PySem.W.Frag} {elts : List Expr} {kk : Nat} {tpos : Pos} (a e it : Addr) :
    Turn P w K (.Tuple elts kk tpos) (IteN K a) [e, it] e (fun i h => (∃ old, IsEnum h e it ((i : Nat) : Int) old) ∧ h.IsListIter it a i ∧ e ≠ it) where
  mem := (turn_enum (P := P) (w := w) (K := K) (elts := elts) (kk := kk) (tpos := tpos) a e it).mem
  obj := (turn_enum (P := P) (w := w) (K := K) (elts := elts) (kk := kk) (tpos := tpos) a e it).obj
  keep := (turn_enum (P := P) (w := w) (K := K) (elts := elts) (kk := kk) (tpos := tpos) a e it).keep
  done := (turn_enum (P := P) (w := w) (K := K) (elts := elts) (kk := kk) (tpos := tpos) a e it).done
  self := (turn_enum (P := P) (w := w) (K := K) (elts := elts) (kk := kk) (tpos := tpos) a e it).self
  item := by
    intro X hP hw hK hc i pins s σ H E I hf st hg
    subst hP hw hK
    obtain ⟨⟨old, he⟩, hit, hne⟩ := st
    obtain ⟨xs, x, hq, hx⟩ := hg
    obtain ⟨ws, rv, p, hz⟩ := I.list hq
    obtain ⟨u, hu, ru⟩ := rv.get hx
    have le : e < s.heap.objs.size := Heap.lt_size he
    have li : it < s.heap.objs.size := by obtain ⟨_, q, _⟩ := hit; exact Heap.lt_size q
    refine wpAny_pyNext_enum_item he hit p.isList (x := u) (by simpa using hu) hne fun h' ho hit' hT hsz hk => ⟨_, rfl, wpAny_letOwnedTupleGo_enum (s := { s with heap := h', toks := s.toks + 1 }) ho fun h2 he' sb => ?_⟩
    have g : h2.get? s.heap.objs.size = some (tObj [.int i s.toks, u]) := (sb.2 _ (Nat.ne_of_gt le)).trans hT
    have new : ObjOk X.prog X.w (upd H s.heap.objs.size (.frz (tObj [.int i s.toks, u]) (.tup [.int (i : Nat), x]))) h2 s.heap.objs.size (.frz (tObj [.int i s.toks, u]) (.tup [.int (i : Nat), x])) :=
      ⟨g, by show 2 ≤ sizeLine; decide, [.int i s.toks, u], .cons ⟨_, rfl⟩ (.cons ru .nil), _, g, rfl, _, rfl⟩
    have kp : ∀ b ob, b ∉ [e, it] → s.heap.get? b = some ob → h2.get? b = some ob := fun b ob hb q => (sb.2 b (fun z => hb (by simp [z]))).trans (hk b ob (fun z => hb (by simp [z])) (fun z => hb (by simp [z])) q)
    have I1 : Inv X pins σ (upd H s.heap.objs.size (.frz (tObj [.int i s.toks, u]) (.tup [.int (i : Nat), x]))) { s with heap := h2, toks := s.toks + 1 } := I.turnedNew (ch := [e, it]) kp hf (Nat.le_refl _) new
    refine ⟨.ref s.heap.objs.size, _, I1, rfl, ⟨_, _, x, rfl, I.hok.fresh (Nat.le_refl _), rfl, fun ys hy => by rw [I.list_inj hy hq]; exact hx⟩, ⟨⟨u, ?_⟩, hit'.at fun o q => (sb.2 it (Ne.symm hne)).trans q, hne⟩, fun b hb => ?_⟩
    · rw [show ((i + 1 : Nat) : Int) = (i : Int) + 1 by omega]
      exact he'
    · have hb' : b < s.heap.objs.size := by
        rcases (show b = e ∨ b = it by simpa using hb) with z | z <;> rw [z] <;> assumption
      rw [upd_ne (Nat.ne_of_lt hb')]
      exact (hf b hb).1
def iEnumN (K : PySem.W.Frag) (ta : TA) : TI := fun σ H R => ta σ H fun vs H1 => ∃ a xs, vs = [.ref a] ∧ SqL K H1 a xs ∧ R (IteN K a) H1
theorem pi_enumN {e : Expr} {ta : TA} {p pos tpos : Pos} {elts : List Expr} {kk : Nat} (hg : Gl X "enumerate") (hm : X.mg "enumerate" = none) (ha : PA X [e] ta) (hs : starEach [e] X.env = [(false, eval e X.env)] := by rfl) :
    PI X (.Tuple elts kk tpos) (.Call (.Name "enumerate" p) [e] [] pos) (iEnumN X.K ta) := by
  refine ⟨fun pins s σ H R I h => Call_ (ld_blt I hg hm boot_enumerate (PyProof.Rows.callWith_type1 (thn (ha.run pos pins s σ H _ I h) fun us s1 ⟨vs, H1, I1, r1, a, xs, ex, hq, q⟩ => ?_) hs rfl))⟩
  subst ex
  rw [Vals.ref1 r1]
  obtain ⟨ws, rv, pl, hz⟩ := I1.list hq
  refine call_enumerate_list pl.isList fun h' he hit hsz hk => wpAny_pyIter_enum he ?_
  have I2 : Inv X pins σ H1 { s1 with heap := h' } := I1.kept (t' := s1.toks) hk
  refine ⟨s1.heap.objs.size + 1, [s1.heap.objs.size + 1, s1.heap.objs.size], _, _, H1, rfl, I2, turn_enumN a _ _, ⟨⟨.none, he⟩, hit, Nat.succ_ne_self _⟩, fun b hb => ?_, q⟩
  have le : s1.heap.objs.size ≤ b := by
    rcases (show b = s1.heap.objs.size + 1 ∨ b = s1.heap.objs.size by simpa using hb) with z | z
    · rw [z]; exact Nat.le_succ _
    · rw [z]; exact Nat.le_refl _
  exact I1.fpOk le (I1.hok.fresh le)
end
end Mo

/-! MoA: data that values stand for (RelD), what is owned, states of a body told as data. -/
namespace Mo
open PySem PySem.Spec PyProof.Rows L2

/-- the ground: program, world, written part, module names -/
structure Gd where
  P : Program
  w : World
  K : PySem.W.Frag
  mg : Str → Option Value
abbrev gd (X : Cx) : Gd := ⟨X.prog, X.w, X.K, X.mg⟩

def keyD : Key → PyData
  | .inl i => .int i
  | .inr x => .str x
/-- a dict with tuples as keys: the keys, where they stand, the values -/
def dN (g : Gd) (a : Addr) (xs : List (NestedKey × Addr × V)) : HO := .ext fun h =>
  xs.length ≤ sizeLine ∧ (a == sysModules) = false ∧ (xs.map (·.1)).Nodup ∧ ∃ us : List Value, Vals (xs.map (·.2.2)) us ∧ ∃ o es ep, h.get? a = some o ∧ o.ExactDict ∧ o.data = .dict es ep ∧
    es.toList = (List.zipWith (fun (x : NestedKey × Addr × V) u => (x.1, x.2.1, u)) xs us).map (entryOfKey (nestedKind g.P g.w))

/-- a list that stands in the written part -/
def LsK (K : PySem.W.Frag) (a : Addr) (xs : List V) : Prop := ∃ (o : Obj) (its : Array Value) (n : Nat), K.lookup a = some o ∧ o.cls = .type "list" ∧ o.dict = none ∧ o.data = .seq its n ∧ its.size ≤ sizeLine ∧ Vals xs its.toList
mutual
/-- the value stands for the datum; E: addresses that no list or dict within may stand at -/
inductive RelD (g : Gd) (E : Addr → Prop) (H : Hp) : V → PyData → Prop
  | non : RelD g E H .non .none
  | bl (b : Bool) : RelD g E H (.bl b) (.bool b)
  | int (i : Int) : RelD g E H (.int i) (.int i)
  | str (x : Str) : RelD g E H (.str x) (.str x)
  | tup {a : Addr} {xs : List V} {ds : List PyData} : TpN g.K H a xs → RelDs g E H xs ds → RelD g E H (.ref a) (.tuple ds)
  | lst {a : Addr} {xs : List V} {ds : List PyData} : ¬ E a → Rd H a (.lst xs) → RelDs g E H xs ds → RelD g E H (.ref a) (.list ds)
  | kls {a : Addr} {xs : List V} {ds : List PyData} : LsK g.K a xs → RelDs g E H xs ds → RelD g E H (.ref a) (.list ds)
  | dct {a : Addr} {xs : List (NestedKey × Addr × V)} {kvs : List (PyData × PyData)} : ¬ E a → H a = some (dN g a xs) → RelKs g E H xs kvs → RelD g E H (.ref a) (.dict kvs)
  | dck {a : Addr} {xs : List (Key × V)} {kvs : List (PyData × PyData)} : ¬ E a → H a = some (.dK xs) → xs ≠ [] → RelKk g E H xs kvs → RelD g E H (.ref a) (.dict kvs)
inductive RelDs (g : Gd) (E : Addr → Prop) (H : Hp) : List V → List PyData → Prop
  | nil : RelDs g E H [] []
  | cons {v : V} {vs : List V} {d : PyData} {ds : List PyData} : RelD g E H v d → RelDs g E H vs ds → RelDs g E H (v :: vs) (d :: ds)
inductive RelKs (g : Gd) (E : Addr → Prop) (H : Hp) : List (NestedKey × Addr × V) → List (PyData × PyData) → Prop
  | nil : RelKs g E H [] []
  | cons {k : NestedKey} {a : Addr} {v : V} {xs : List (NestedKey × Addr × V)} {dv : PyData} {kvs : List (PyData × PyData)} : k.depth ≤ 8 → RelD g E H (.ref a) k.data → RelD g E H v dv → RelKs g E H xs kvs →
      RelKs g E H ((k, a, v) :: xs) ((k.data, dv) :: kvs)
inductive RelKk (g : Gd) (E : Addr → Prop) (H : Hp) : List (Key × V) → List (PyData × PyData) → Prop
  | nil : RelKk g E H [] []
  | cons {k : Key} {v : V} {xs : List (Key × V)} {dv : PyData} {kvs : List (PyData × PyData)} : RelD g E H v dv → RelKk g E H xs kvs → RelKk g E H ((k, v) :: xs) ((keyD k, dv) :: kvs)
end

/-- what H tracks as it is now, H' has but for what stands at M -/
def Keep (M : Addr → Prop) (H H' : Hp) : Prop := ∀ a o, H a = some o → ¬ M a → H' a = some o
abbrev Ex (H H' : Hp) : Prop := ∀ a o, H a = some o → H' a = some o
theorem Ex.refl (H : Hp) : Ex H H := fun _ _ h => h
theorem Ex.trans {H H1 H2 : Hp} (a : Ex H H1) (b : Ex H1 H2) : Ex H H2 := fun x o h => b x o (a x o h)
theorem Ex.keep {M : Addr → Prop} {H H' : Hp} (e : Ex H H') : Keep M H H' := fun a o h _ => e a o h
theorem Ex.new {H : Hp} {p : Addr} {o : HO} (h : H p = none) : Ex H (upd H p o) := fun a u e => by
  rw [upd_ne (ne_of_none e h)]
  exact e
theorem Ex.back {H H' : Hp} {p : Addr} (e : Ex H H') (h : H' p = none) : H p = none := by
  cases h1 : H p with
  | none => rfl
  | some o => rw [e p o h1] at h; cases h
theorem Ex.upd {H : Hp} {p : Addr} {o : HO} (h : H p = none) : Ex H (upd H p o) := Ex.new h

/-- what may change: a list, a dict -/
def Ch (H : Hp) (a : Addr) : Prop := (∃ xs, H a = some (.lst xs)) ∨ (∃ g xs, H a = some (dN g a xs)) ∨ ∃ xs, H a = some (.dK xs)
theorem Ch.noT {H : Hp} {a : Addr} (h : Ch H a) {xs : List V} : H a ≠ some (.tup xs) := by
  intro e
  rcases h with ⟨ys, h⟩ | ⟨g, ys, h⟩ | ⟨ys, h⟩
  · rw [h] at e; cases e
  · rw [h] at e; cases e
  · rw [h] at e; cases e
theorem Ch.noF {H : Hp} {a : Addr} (h : Ch H a) {o : Obj} {u : HO} : H a ≠ some (.frz o u) := by
  intro e
  rcases h with ⟨ys, h⟩ | ⟨g, ys, h⟩ | ⟨ys, h⟩
  · rw [h] at e; cases e
  · rw [h] at e; cases e
  · rw [h] at e; cases e
theorem keep_sqT {K : PySem.W.Frag} {M : Addr → Prop} {H H' : Hp} {a : Addr} {xs : List V} (k : Keep M H H') (hm : ∀ b, M b → Ch H b) (h : TpN K H a xs) : TpN K H' a xs := by
  rcases h with ⟨o, h, e⟩ | h
  · exact .inl ⟨o, k _ _ h fun m => (hm a m).noF h, e⟩
  · exact .inr h
theorem keep_rdL {M : Addr → Prop} {H H' : Hp} {a : Addr} {xs : List V} (k : Keep M H H') (hm : ∀ b, M b → Ch H b) (ha : ¬ M a) (h : Rd H a (.lst xs)) : Rd H' a (.lst xs) := by
  rcases h with h | ⟨o, h⟩
  · exact .inl (k _ _ h ha)
  · exact .inr ⟨o, k _ _ h ha⟩
section
variable {g : Gd} {E E' M : Addr → Prop} {H H' : Hp}
mutual
/-- what stands apart from what changes, stays -/
theorem RelD.keep (k : Keep M H H') (hm : ∀ b, M b → Ch H b) (hE : ∀ b, M b → E b) (hE' : ∀ b, E' b → (H b).isSome = true → E b) : ∀ {v : V} {d : PyData}, RelD g E H v d → RelD g E' H' v d
  | _, _, .non => .non
  | _, _, .bl b => .bl b
  | _, _, .int i => .int i
  | _, _, .str x => .str x
  | _, _, .tup h hs => .tup (keep_sqT k hm h) (RelDs.keep k hm hE hE' hs)
  | _, _, .lst n h hs => .lst (fun e => n (hE' _ e (by rcases h with h | ⟨o, h⟩ <;> rw [h] <;> rfl))) (keep_rdL k hm (fun m => n (hE _ m)) h) (RelDs.keep k hm hE hE' hs)
  | _, _, .kls h hs => .kls h (RelDs.keep k hm hE hE' hs)
  | _, _, .dct n h hs => .dct (fun e => n (hE' _ e (by rw [h]; rfl))) (k _ _ h fun m => n (hE _ m)) (RelKs.keep k hm hE hE' hs)
  | _, _, .dck n h z hs => .dck (fun e => n (hE' _ e (by rw [h]; rfl))) (k _ _ h fun m => n (hE _ m)) z (RelKk.keep k hm hE hE' hs)
theorem RelDs.keep (k : Keep M H H') (hm : ∀ b, M b → Ch H b) (hE : ∀ b, M b → E b) (hE' : ∀ b, E' b → (H b).isSome = true → E b) : ∀ {v : List V} {d : List PyData}, RelDs g E H v d → RelDs g E' H' v d
  | _, _, .nil => .nil
  | _, _, .cons h hs => .cons (RelD.keep k hm hE hE' h) (RelDs.keep k hm hE hE' hs)
theorem RelKs.keep (k : Keep M H H') (hm : ∀ b, M b → Ch H b) (hE : ∀ b, M b → E b) (hE' : ∀ b, E' b → (H b).isSome = true → E b) : ∀ {v : List (NestedKey × Addr × V)} {d : List (PyData × PyData)}, RelKs g E H v d → RelKs g E' H' v d
  | _, _, .nil => .nil
  | _, _, .cons dp h1 h2 hs => .cons dp (RelD.keep k hm hE hE' h1) (RelD.keep k hm hE hE' h2) (RelKs.keep k hm hE hE' hs)
theorem RelKk.keep (k : Keep M H H') (hm : ∀ b, M b → Ch H b) (hE : ∀ b, M b → E b) (hE' : ∀ b, E' b → (H b).isSome = true → E b) : ∀ {v : List (Key × V)} {d : List (PyData × PyData)}, RelKk g E H v d → RelKk g E' H' v d
  | _, _, .nil => .nil
  | _, _, .cons h hs => .cons (RelD.keep k hm hE hE' h) (RelKk.keep k hm hE hE' hs)
end
theorem RelKk.ex (e : Ex H H') {v} {d} (h : RelKk g E H v d) : RelKk g E H' v d := h.keep (M := fun _ => False) e.keep (fun _ q => q.elim) (fun _ q => q.elim) fun _ q _ => q
theorem RelKk.sub (s : ∀ b, E' b → E b) {v} {d} (h : RelKk g E H v d) : RelKk g E' H v d := h.keep (M := fun _ => False) (Ex.refl H).keep (fun _ q => q.elim) (fun _ q => q.elim) fun b q _ => s b q
theorem RelD.ex (e : Ex H H') {v : V} {d : PyData} (h : RelD g E H v d) : RelD g E H' v d := h.keep (M := fun _ => False) e.keep (fun _ q => q.elim) (fun _ q => q.elim) fun _ q _ => q
theorem RelDs.ex (e : Ex H H') {v : List V} {d : List PyData} (h : RelDs g E H v d) : RelDs g E H' v d := h.keep (M := fun _ => False) e.keep (fun _ q => q.elim) (fun _ q => q.elim) fun _ q _ => q
theorem RelKs.ex (e : Ex H H') {v} {d} (h : RelKs g E H v d) : RelKs g E H' v d := h.keep (M := fun _ => False) e.keep (fun _ q => q.elim) (fun _ q => q.elim) fun _ q _ => q
/-- fewer addresses shut out -/
theorem RelD.sub (s : ∀ b, E' b → E b) {v : V} {d : PyData} (h : RelD g E H v d) : RelD g E' H v d := h.keep (M := fun _ => False) (Ex.refl H).keep (fun _ q => q.elim) (fun _ q => q.elim) fun b q _ => s b q
theorem RelDs.sub (s : ∀ b, E' b → E b) {v : List V} {d : List PyData} (h : RelDs g E H v d) : RelDs g E' H v d := h.keep (M := fun _ => False) (Ex.refl H).keep (fun _ q => q.elim) (fun _ q => q.elim) fun b q _ => s b q
theorem RelKs.sub (s : ∀ b, E' b → E b) {v} {d} (h : RelKs g E H v d) : RelKs g E' H v d := h.keep (M := fun _ => False) (Ex.refl H).keep (fun _ q => q.elim) (fun _ q => q.elim) fun b q _ => s b q
theorem RelDs.length : ∀ {v : List V} {d : List PyData}, RelDs g E H v d → v.length = d.length
  | _, _, .nil => rfl
  | _, _, .cons _ t => congrArg Nat.succ (RelDs.length t)
theorem RelDs.get : ∀ {v : List V} {d : List PyData} {i : Nat} {x : PyData}, RelDs g E H v d → d[i]? = some x → ∃ u, v[i]? = some u ∧ RelD g E H u x
  | _, _, _, _, .nil, e => by simp at e
  | _, _, 0, _, .cons r _, e => by simp at e; subst e; exact ⟨_, rfl, r⟩
  | _, _, i + 1, x, .cons _ t, e => by
    obtain ⟨u, h1, h2⟩ := RelDs.get (i := i) (x := x) t (by simpa using e)
    exact ⟨u, by simpa using h1, h2⟩
theorem RelDs.getV : ∀ {v : List V} {d : List PyData} {i : Nat} {x : V}, RelDs g E H v d → v[i]? = some x → ∃ u, d[i]? = some u ∧ RelD g E H x u
  | _, _, _, _, .nil, e => by simp at e
  | _, _, 0, _, .cons r _, e => by simp at e; subst e; exact ⟨_, rfl, r⟩
  | _, _, i + 1, x, .cons _ t, e => by
    obtain ⟨u, h1, h2⟩ := RelDs.getV (i := i) (x := x) t (by simpa using e)
    exact ⟨u, by simpa using h1, h2⟩
theorem RelDs.append : ∀ {v w : List V} {d e : List PyData}, RelDs g E H v d → RelDs g E H w e → RelDs g E H (v ++ w) (d ++ e)
  | _, _, _, _, .nil, h => h
  | _, _, _, _, .cons r t, h => .cons r (RelDs.append t h)
theorem RelDs.take : ∀ {v : List V} {d : List PyData} (n : Nat), RelDs g E H v d → RelDs g E H (v.take n) (d.take n)
  | _, _, 0, _ => .nil
  | _, _, _ + 1, .nil => .nil
  | _, _, n + 1, .cons r t => .cons r (RelDs.take n t)
theorem RelDs.drop : ∀ {v : List V} {d : List PyData} (n : Nat), RelDs g E H v d → RelDs g E H (v.drop n) (d.drop n)
  | _, _, 0, r => r
  | _, _, _ + 1, .nil => .nil
  | _, _, n + 1, .cons _ t => RelDs.drop n t
theorem RelDs.set {x : V} {y : PyData} (r : RelD g E H x y) : ∀ {v : List V} {d : List PyData} (i : Nat), RelDs g E H v d → RelDs g E H (v.set i x) (d.set i y)
  | _, _, _, .nil => .nil
  | _, _, 0, .cons _ t => .cons r t
  | _, _, i + 1, .cons q t => .cons q (RelDs.set r i t)
theorem RelDs.one {x : V} {y : PyData} (r : RelD g E H x y) : RelDs g E H [x] [y] := .cons r .nil
theorem RelDs.rep {v : List V} {d : List PyData} (h : RelDs g E H v d) : ∀ k : Nat, RelDs g E H (List.replicate k v).flatten (List.replicate k d).flatten
  | 0 => .nil
  | k + 1 => by
    rw [List.replicate_succ, List.replicate_succ, List.flatten_cons, List.flatten_cons]
    exact h.append (RelDs.rep h k)
theorem RelDs.dropLast {v : List V} {d : List PyData} (h : RelDs g E H v d) : RelDs g E H v.dropLast d.dropLast := by
  rw [List.dropLast_eq_take, List.dropLast_eq_take, h.length]
  exact h.take _
theorem RelDs.eraseIdx : ∀ {v : List V} {d : List PyData} (i : Nat), RelDs g E H v d → RelDs g E H (v.eraseIdx i) (d.eraseIdx i)
  | _, _, _, .nil => .nil
  | _, _, 0, .cons _ t => t
  | _, _, i + 1, .cons q t => .cons q (RelDs.eraseIdx i t)
theorem RelDs.reverse : ∀ {v : List V} {d : List PyData}, RelDs g E H v d → RelDs g E H v.reverse d.reverse
  | _, _, .nil => .nil
  | _, _, .cons q t => by
    rw [List.reverse_cons, List.reverse_cons]
    exact (RelDs.reverse t).append (.one q)
end
/-! no list or dict within -/
mutual
def noL : PyData → Bool
  | .list _ => false
  | .dict _ => false
  | .tuple ds => noLs ds
  | _ => true
def noLs : List PyData → Bool
  | [] => true
  | d :: ds => noL d && noLs ds
end
mutual
theorem RelD.free {g : Gd} {E E' : Addr → Prop} {H : Hp} : ∀ {v : V} {d : PyData}, RelD g E H v d → noL d = true → RelD g E' H v d
  | _, _, .non, _ => .non
  | _, _, .bl b, _ => .bl b
  | _, _, .int i, _ => .int i
  | _, _, .str x, _ => .str x
  | _, _, .tup h hs, e => .tup h (RelDs.free hs (by simpa [noL] using e))
  | _, _, .lst .., e => by simp [noL] at e
  | _, _, .kls .., e => by simp [noL] at e
  | _, _, .dct .., e => by simp [noL] at e
  | _, _, .dck .., e => by simp [noL] at e
theorem RelDs.free {g : Gd} {E E' : Addr → Prop} {H : Hp} : ∀ {v : List V} {d : List PyData}, RelDs g E H v d → noLs d = true → RelDs g E' H v d
  | _, _, .nil, _ => .nil
  | _, d :: ds, .cons h hs, e => by
    have e' : noL d = true ∧ noLs ds = true := by simpa [noLs] using e
    exact .cons (RelD.free h e'.1) (RelDs.free hs e'.2)
end
/-- the root may be owned -/
inductive RelW (g : Gd) (E : Addr → Prop) (H : Hp) : V → PyData → Prop
  | of {v : V} {d : PyData} : RelD g E H v d → RelW g E H v d
  | lst {a : Addr} {xs : List V} {ds : List PyData} : Rd H a (.lst xs) → RelDs g E H xs ds → RelW g E H (.ref a) (.list ds)
  | dct {a : Addr} {xs : List (NestedKey × Addr × V)} {kvs : List (PyData × PyData)} : H a = some (dN g a xs) → RelKs g E H xs kvs → RelW g E H (.ref a) (.dict kvs)
  | dck {a : Addr} {xs : List (Key × V)} {kvs : List (PyData × PyData)} : H a = some (.dK xs) → xs ≠ [] → RelKk g E H xs kvs → RelW g E H (.ref a) (.dict kvs)
theorem RelW.ex {g : Gd} {E : Addr → Prop} {H H' : Hp} (e : Ex H H') {v : V} {d : PyData} : RelW g E H v d → RelW g E H' v d
  | .of h => .of (h.ex e)
  | .lst h hs => .lst (keep_rdL (M := fun _ => False) e.keep (fun _ q => q.elim) (fun q => q) h) (hs.ex e)
  | .dct h hs => .dct (e _ _ h) (hs.ex e)
  | .dck h z hs => .dck (e _ _ h) z (hs.ex e)
/-- an owned object -/
inductive OwnAt (g : Gd) (E : Addr → Prop) (H : Hp) (a : Addr) : PyData → Prop
  | lst {xs : List V} {ds : List PyData} : H a = some (.lst xs) → RelDs g E H xs ds → OwnAt g E H a (.list ds)
  | dct {xs : List (NestedKey × Addr × V)} {kvs : List (PyData × PyData)} : H a = some (dN g a xs) → RelKs g E H xs kvs → OwnAt g E H a (.dict kvs)
  | dck {xs : List (Key × V)} {kvs : List (PyData × PyData)} : H a = some (.dK xs) → xs ≠ [] → RelKk g E H xs kvs → OwnAt g E H a (.dict kvs)
theorem OwnAt.w {g : Gd} {E : Addr → Prop} {H : Hp} {a : Addr} {d : PyData} : OwnAt g E H a d → RelW g E H (.ref a) d
  | .lst h hs => .lst (.inl h) hs
  | .dct h hs => .dct h hs
  | .dck h z hs => .dck h z hs
theorem OwnAt.ch {g : Gd} {E : Addr → Prop} {H : Hp} {a : Addr} {d : PyData} : OwnAt g E H a d → Ch H a
  | .lst h _ => .inl ⟨_, h⟩
  | .dct h _ => .inr (.inl ⟨_, _, h⟩)
  | .dck h _ _ => .inr (.inr ⟨_, h⟩)
theorem OwnAt.some {g : Gd} {E : Addr → Prop} {H : Hp} {a : Addr} {d : PyData} (h : OwnAt g E H a d) : (H a).isSome = true := by
  cases h with
  | lst h _ => rw [h]; rfl
  | dct h _ => rw [h]; rfl
  | dck h _ _ => rw [h]; rfl
/-- let go: the root is shut out no more -/
theorem OwnAt.rel {g : Gd} {E E' : Addr → Prop} {H : Hp} {a : Addr} {d : PyData} (h : OwnAt g E H a d) (s : ∀ b, E' b → E b) (n : ¬ E' a) : RelD g E' H (.ref a) d := by
  cases h with
  | lst h hs => exact .lst n (.inl h) (hs.sub s)
  | dct h hs => exact .dct n h (hs.sub s)
  | dck h z hs => exact .dck n h z (hs.sub s)
theorem OwnAt.keep {g : Gd} {E E' M : Addr → Prop} {H H' : Hp} (k : Keep M H H') (hm : ∀ b, M b → Ch H b) (hE : ∀ b, M b → E b) (hE' : ∀ b, E' b → (H b).isSome = true → E b) {a : Addr} (ha : ¬ M a) {d : PyData} (h : OwnAt g E H a d) : OwnAt g E' H' a d := by
  cases h with
  | lst h hs => exact .lst (k _ _ h ha) (hs.keep k hm hE hE')
  | dct h hs => exact .dct (k _ _ h ha) (hs.keep k hm hE hE')
  | dck h z hs => exact .dck (k _ _ h ha) z (hs.keep k hm hE hE')
end Mo
namespace Mo
open PySem PySem.Spec PyProof.Rows L2
/-! ### slots, results -/
/-- what is known of a name's slot: nothing; a value that stands for a datum; an object of the body's own; one of the caller's, lent -/
inductive Sl where
  | un
  | val (d : PyData)
  | own (d : PyData)
  | lent (d : PyData)
  | adr (a : Addr)
abbrev Env' := List Sl
/-- an exception: its class's name, its fields -/
structure Exn where
  cls : Str
  fields : List (Str × PyData)
inductive Res (α : Type) where
  | ok (a : α)
  | exc (x : Exn) (G : Env')
  | bad
/-- an expression's meaning -/
abbrev M := Env' → Res (PyData × Env')
/-- an owned object's address -/
def Own (G : Env') (σ : L2.St) (a : Addr) : Prop := ∃ (i : Nat) (d : PyData), (G[i]? = some (.own d) ∨ G[i]? = some (.lent d)) ∧ σ[i]? = some (some (.ref a))
/-- the base: what the callers own; where lent objects stand; the heap at the entry -/
structure Bs where
  E : Addr → Prop
  L : Nat → Addr
  H0 : Hp
def Ow (B : Bs) (G : Env') (σ : L2.St) (a : Addr) : Prop := B.E a ∨ Own G σ a
def Lent (G : Env') (B : Bs) (a : Addr) : Prop := ∃ (i : Nat) (d : PyData), G[i]? = some (.lent d) ∧ B.L i = a
structure Sta (g : Gd) (B : Bs) (G : Env') (σ : L2.St) (H : Hp) : Prop where
  len : G.length = σ.length
  val : ∀ (i : Nat) d, G[i]? = some (.val d) → ∃ v, σ[i]? = some (some v) ∧ RelD g (Ow B G σ) H v d
  own : ∀ (i : Nat) d, G[i]? = some (.own d) → ∃ a, σ[i]? = some (some (.ref a)) ∧ ¬ B.E a ∧ B.H0 a = none ∧ OwnAt g (Ow B G σ) H a d
  lent : ∀ (i : Nat) d, G[i]? = some (.lent d) → σ[i]? = some (some (.ref (B.L i))) ∧ ¬ B.E (B.L i) ∧ OwnAt g (Ow B G σ) H (B.L i) d
  adr : ∀ (i : Nat) a, G[i]? = some (.adr a) → σ[i]? = some (some (.ref a))
  uni : ∀ (i j : Nat) (a : Addr), (∃ d, G[i]? = some (.own d) ∨ G[i]? = some (.lent d)) → (∃ d, G[j]? = some (.own d) ∨ G[j]? = some (.lent d)) → σ[i]? = some (some (.ref a)) → σ[j]? = some (some (.ref a)) → i = j
  ent : ∀ a o, B.H0 a = some o → ¬ Lent G B a → H a = some o
  etr : ∀ a, B.E a → (H a).isSome = true
section
variable {g : Gd} {B : Bs} {G G' G1 G2 : Env'} {σ : L2.St} {H H' H1 H2 : Hp}
theorem Sta.ownAt (S : Sta g B G σ H) {a : Addr} (h : Own G σ a) : ∃ d, OwnAt g (Ow B G σ) H a d := by
  obtain ⟨i, d, h | h, e⟩ := h
  · obtain ⟨b, e1, _, _, o⟩ := S.own i d h
    rw [e] at e1; cases e1
    exact ⟨d, o⟩
  · obtain ⟨e1, _, o⟩ := S.lent i d h
    rw [e] at e1
    have e2 : a = B.L i := by injection e1 with e1; injection e1 with e1; injection e1
    subst e2
    exact ⟨d, o⟩
theorem Sta.ownCh (S : Sta g B G σ H) {a : Addr} (h : Own G σ a) : Ch H a := let ⟨_, o⟩ := S.ownAt h; o.ch
theorem Sta.owTr (S : Sta g B G σ H) {a : Addr} (h : Ow B G σ a) : (H a).isSome = true := by
  rcases h with h | h
  · exact S.etr a h
  · obtain ⟨_, o⟩ := S.ownAt h
    exact o.some
theorem Sta.fresh (S : Sta g B G σ H) {p : Addr} (h : H p = none) : ¬ Ow B G σ p := fun q => by
  have := S.owTr q
  rw [h] at this
  cases this
/-- the heap grows -/
theorem Sta.ex (S : Sta g B G σ H) (e : Ex H H') : Sta g B G σ H' where
  len := S.len
  val := fun i d h => let ⟨v, e1, r⟩ := S.val i d h; ⟨v, e1, r.ex e⟩
  own := fun i d h => let ⟨a, e1, n, z, r⟩ := S.own i d h; ⟨a, e1, n, z, r.keep (M := fun _ => False) e.keep (fun _ q => q.elim) (fun _ q => q.elim) (fun _ q _ => q) (fun q => q)⟩
  lent := fun i d h => let ⟨e1, n, r⟩ := S.lent i d h; ⟨e1, n, r.keep (M := fun _ => False) e.keep (fun _ q => q.elim) (fun _ q => q.elim) (fun _ q _ => q) (fun q => q)⟩
  adr := S.adr
  uni := S.uni
  ent := fun a o h n => e a o (S.ent a o h n)
  etr := fun a h => by
    have := S.etr a h
    cases q : H a with
    | none => rw [q] at this; cases this
    | some o => rw [e a o q]; rfl
/-- what an expression leaves -/
structure Post (g : Gd) (B : Bs) (p : Bool) (G G' : Env') (σ : L2.St) (H H' : Hp) : Prop where
  sta : Sta g B G' σ H'
  pres : ∀ v d, RelD g (Ow B G σ) H v d → RelD g (Ow B G' σ) H' v d
  sub : ∀ a, Own G' σ a → Own G σ a
  kpE : ∀ a o, B.E a → H a = some o → H' a = some o
  lnt : ∀ (i : Nat), (∃ d, G'[i]? = some (.lent d)) ↔ (∃ d, G[i]? = some (.lent d))
  dom : ∀ a, (H a).isSome = true → (H' a).isSome = true
  sam : ∀ (i : Nat) (s : Sl), G[i]? = some s → (∀ d, s ≠ .own d) → (∀ d, s ≠ .lent d) → G'[i]? = some s
  pur : p = true → G' = G ∧ Ex H H'
theorem Ex.dom {H H' : Hp} (e : Ex H H') : ∀ a, (H a).isSome = true → (H' a).isSome = true := fun a h => by
  obtain ⟨u, q⟩ := Option.isSome_iff_exists.mp h
  rw [e a u q]; rfl
theorem Post.pure (S : Sta g B G σ H) (e : Ex H H') {p : Bool} : Post g B p G G σ H H' := ⟨S.ex e, fun _ _ h => h.ex e, fun _ h => h, fun a o _ h => e a o h, fun _ => Iff.rfl, e.dom, fun _ _ h _ _ => h, fun _ => ⟨rfl, e⟩⟩
theorem Post.back {p : Bool} {a : Addr} (P : Post g B p G G' σ H H') (n : H' a = none) : H a = none := by
  cases q : H a with
  | none => rfl
  | some o =>
    have := P.dom a (by rw [q]; rfl)
    rw [n] at this
    cases this
theorem Post.refl (S : Sta g B G σ H) {p : Bool} : Post g B p G G σ H H := .pure S (Ex.refl H)
theorem Post.trans {p q : Bool} (a : Post g B p G G1 σ H H1) (b : Post g B q G1 G2 σ H1 H2) : Post g B (p && q) G G2 σ H H2 :=
  ⟨b.sta, fun v d h => b.pres v d (a.pres v d h), fun x h => a.sub x (b.sub x h), fun x o h e => b.kpE x o h (a.kpE x o h e), fun i => (b.lnt i).trans (a.lnt i), fun x h => b.dom x (a.dom x h), fun i s h n1 n2 => b.sam i s (a.sam i s h n1 n2) n1 n2, fun e => by
    rw [Bool.and_eq_true] at e
    obtain ⟨e1, e2⟩ := a.pur e.1
    obtain ⟨e3, e4⟩ := b.pur e.2
    exact ⟨e3.trans e1, Ex.trans e2 e4⟩⟩
theorem Post.weak {p : Bool} (a : Post g B p G G1 σ H H1) : Post g B false G G1 σ H H1 := ⟨a.sta, a.pres, a.sub, a.kpE, a.lnt, a.dom, a.sam, fun e => by cases e⟩
theorem Post.to {p q : Bool} (a : Post g B p G G1 σ H H1) (h : q = true → p = true) : Post g B q G G1 σ H H1 := ⟨a.sta, a.pres, a.sub, a.kpE, a.lnt, a.dom, a.sam, fun e => a.pur (h e)⟩
theorem Post.trans' {p q : Bool} (a : Post g B p G G1 σ H H1) (b : Post g B q G1 G2 σ H1 H2) : Post g B false G G2 σ H H2 := (a.trans b).weak
/-- then the heap grows -/
theorem Post.ex {p : Bool} (a : Post g B p G G1 σ H H1) (e : Ex H1 H2) : Post g B p G G1 σ H H2 :=
  (a.trans (Post.pure (p := true) a.sta e)).to fun h => by rw [h]; rfl
end
/-- strong (it may be kept), or a view -/
inductive Fl | s | v
def Fl.isS : Fl → Bool
  | .s => true
  | .v => false
def RelF (g : Gd) : Fl → (Addr → Prop) → Hp → V → PyData → Prop
  | .s => RelD g
  | .v => RelW g
theorem RelF.w {g : Gd} {fl : Fl} {E : Addr → Prop} {H : Hp} {v : V} {d : PyData} (h : RelF g fl E H v d) : RelW g E H v d := by
  cases fl with
  | s => exact .of h
  | v => exact h
/-- carried over a later evaluation -/
theorem RelF.over {g : Gd} {fl : Fl} {B : Bs} {p : Bool} {G G' : Env'} {σ : L2.St} {H H' : Hp} {v : V} {d : PyData} (h : RelF g fl (Ow B G σ) H v d) (q : Post g B p G G' σ H H') (c : fl.isS = true ∨ p = true) : RelF g fl (Ow B G' σ) H' v d := by
  cases fl with
  | s => exact q.pres v d h
  | v =>
    rcases c with c | c
    · cases c
    · obtain ⟨e, x⟩ := q.pur c
      rw [e]
      exact RelW.ex x h
/-- what is wanted of an exception -/
def ExcAt (g : Gd) (E : Addr → Prop) (H : Hp) (x : Exn) (cls : Value) (dx : Option Addr) : Prop :=
  (x.fields.all fun p => noL p.2) = true ∧ ∃ C, cls = .ref C ∧ g.mg x.cls = some (.ref C) ∧ ((x.fields = [] ∧ dx = none) ∨ (x.fields ≠ [] ∧ ∃ a fs, dx = some a ∧ H a = some (.xd fs) ∧ ∀ (f : Str) (d : PyData), x.fields.lookup f = some d → ∃ v, fs.lookup f = some v ∧ RelD g E H v d))
theorem lookup_all {α : Type} {q : α → Bool} : ∀ {l : List (Str × α)} {f : Str} {d : α}, (l.all fun p => q p.2) = true → l.lookup f = some d → q d = true
  | (k, e) :: l, f, d, h, c => by
    rw [List.all_cons, Bool.and_eq_true] at h
    rw [List.lookup_cons] at c
    by_cases z : (f == k) = true
    · rw [z] at c; cases c; exact h.1
    · rw [Bool.not_eq_true] at z
      rw [z] at c
      exact lookup_all h.2 c
theorem ExcAt.any {g : Gd} {E E' : Addr → Prop} {H : Hp} {x : Exn} {cls : Value} {dx : Option Addr} (h : ExcAt g E H x cls dx) : ExcAt g E' H x cls dx := by
  obtain ⟨n, C, e1, e2, h⟩ := h
  refine ⟨n, C, e1, e2, ?_⟩
  rcases h with h | ⟨z, a, fs, e3, e4, h⟩
  · exact .inl h
  · exact .inr ⟨z, a, fs, e3, e4, fun f d c => let ⟨v, q, r⟩ := h f d c; ⟨v, q, r.free (lookup_all n c)⟩⟩
section
variable (g : Gd) (W : WX)
/-- the reading of an expression -/
def tE (fl : Fl) (p : Bool) (m : M) : TE := fun σ H Q => ∃ B G, Sta g B G σ H ∧ match m G with
  | .ok (d, G') => ∀ v H', Post g B p G G' σ H H' → RelF g fl (Ow B G' σ) H' v d → Q v H'
  | .exc x G' => ∀ cls dx H', Post g B false G G' σ H H' → ExcAt g (Ow B G' σ) H' x cls dx → W cls dx σ H'
  | .bad => False
/-- a list, a dict -/
def isObj : PyData → Bool
  | .list _ => true
  | .dict _ => true
  | _ => false
/-- its value an object just made (or a plain value) -/
def tF (p : Bool) (m : M) : TE := fun σ H Q => ∃ B G, Sta g B G σ H ∧ match m G with
  | .ok (d, G') => if isObj d = true then
      ∀ a H', Post g B p G G' σ H H' → Post g { B with E := fun b => B.E b ∨ b = a } p G G' σ H H' → H a = none → OwnAt g (fun b => Ow B G' σ b ∨ b = a) H' a d → Q (.ref a) H'
    else ∀ v H', Post g B p G G' σ H H' → RelD g (Ow B G' σ) H' v d → Q v H'
  | .exc x G' => ∀ cls dx H', Post g B false G G' σ H H' → ExcAt g (Ow B G' σ) H' x cls dx → W cls dx σ H'
  | .bad => False
end
end Mo

/-! MoB: expressions told as meanings over data. -/
namespace Mo
open PySem PySem.Spec PyProof.Rows L2
theorem _root_.L2.PE.imp {X : Cx} {e : Expr} {t t' : TE} (h : PE X e t) (i : ∀ σ H Q, t' σ H Q → t σ H Q) : PE X e t' := ⟨fun pins s σ H Q I q => h.run pins s σ H Q I (i σ H Q q)⟩
theorem _root_.L2.PT.imp {X : Cx} {e : Expr} {t t' : TT} (h : PT X e t) (i : ∀ σ H Q, t' σ H Q → t σ H Q) : PT X e t' := ⟨fun pins s σ H Q I q => h.run pins s σ H Q I (i σ H Q q)⟩
theorem _root_.L2.PW.imp {X : Cx} {e : Expr} {t t' : TT} (h : PW X e t) (i : ∀ σ H Q, t' σ H Q → t σ H Q) : PW X e t' := ⟨fun w pins s σ H Q I q => h.run w pins s σ H Q I (i σ H Q q)⟩
theorem _root_.L2.PA.imp {X : Cx} {e : List Expr} {t t' : TA} (h : PA X e t) (i : ∀ σ H Q, t' σ H Q → t σ H Q) : PA X e t' := ⟨fun p pins s σ H Q I q => h.run p pins s σ H Q I (i σ H Q q)⟩
theorem _root_.L2.PS.imp {X : Cx} {e : Stmt} {t t' : TS} (h : PS X e t) (i : ∀ D σ H, t' D σ H → t D σ H) : PS X e t' := ⟨fun pins s σ H D I q => h.run pins s σ H D I (i D σ H q)⟩
theorem _root_.L2.PSs.imp {X : Cx} {e : List Stmt} {t t' : TS} (h : PSs X e t) (i : ∀ D σ H, t' D σ H → t D σ H) : PSs X e t' := ⟨fun pins s σ H D I q => h.run pins s σ H D I (i D σ H q)⟩
theorem _root_.L2.PI.imp {X : Cx} {tg it : Expr} {t t' : TI} (h : PI X tg it t) (i : ∀ σ H Q, t' σ H Q → t σ H Q) : PI X tg it t' := ⟨fun pins s σ H Q I q => h.run pins s σ H Q I (i σ H Q q)⟩
theorem _root_.L2.PG.imp {X : Cx} {tg : Expr} {t t' : TG} (h : PG X tg t) (i : ∀ v σ H Q, t' v σ H Q → t v σ H Q) : PG X tg t' := ⟨fun pins s σ H v u Q I r q => h.run pins s σ H v u Q I r (i v σ H Q q)⟩

/-! ### meanings -/
def mC (d : PyData) : M := fun G => .ok (d, G)
def mVar (i : Nat) : M := fun G => match G[i]? with
  | some (.val d) => .ok (d, G)
  | _ => .bad
def mView (i : Nat) : M := fun G => match G[i]? with
  | some (.val d) => .ok (d, G)
  | some (.own d) => .ok (d, G)
  | some (.lent d) => .ok (d, G)
  | _ => .bad
/-- given away: from here on it stays as it is -/
def mFrz (i : Nat) : M := fun G => match G[i]? with
  | some (.val d) => .ok (d, G)
  | some (.own d) => .ok (d, G.set i (.val d))
  | _ => .bad
def mOp1 (f : PyData → Option PyData) (a : M) : M := fun G => match a G with
  | .ok (d, G1) => (match f d with
    | some r => .ok (r, G1)
    | none => .bad)
  | .exc x G1 => .exc x G1
  | .bad => .bad
def mOp2 (f : PyData → PyData → Option PyData) (a b : M) : M := fun G => match a G with
  | .ok (d, G1) => (match b G1 with
    | .ok (e, G2) => (match f d e with
      | some r => .ok (r, G2)
      | none => .bad)
    | .exc x G2 => .exc x G2
    | .bad => .bad)
  | .exc x G1 => .exc x G1
  | .bad => .bad
section
variable {g : Gd} {W : WX} {σ : L2.St} {H : Hp} {Q : VK} {fl fl1 fl2 : Fl} {p p1 p2 : Bool} {m m1 m2 : M}
/-- flavours and purity forgotten -/
theorem t_down (h : tE g W fl2 p2 m σ H Q) (hf : fl2 = fl ∨ fl = .s) (hp : p2 = true → p = true) : tE g W fl p m σ H Q := by
  obtain ⟨B, G, S, h⟩ := h
  refine ⟨B, G, S, ?_⟩
  cases hm : m G with
  | ok r =>
    rw [hm] at h
    intro v H' P r
    refine h v H' (P.to hp) ?_
    rcases hf with e | e
    · rw [e]; exact r
    · subst e
      cases fl2 with
      | s => exact r
      | v => exact .of r
  | exc x G' => rw [hm] at h; exact h
  | bad => rw [hm] at h; exact h
end
/-! ### own updates -/
section
variable {g : Gd} {B : Bs} {G : Env'} {σ : L2.St} {H : Hp}
theorem set_get {α : Type} {l : List α} {i : Nat} {x y : α} (h : l[i]? = some x) : (l.set i y)[i]? = some y := by
  have := (List.getElem?_eq_some_iff.mp h).1
  rw [List.getElem?_set_self this]
theorem set_other {α : Type} {l : List α} {i j : Nat} {y : α} (h : j ≠ i) : (l.set i y)[j]? = l[j]? := List.getElem?_set_ne (Ne.symm h)
/-- the slot i stands for another datum, of the same kind of slot -/
theorem own_same {G : Env'} {σ : L2.St} {i : Nat} {k : PyData → Sl} {d d' : PyData} (hk : k = .own ∨ k = .lent) (h : G[i]? = some (k d)) (a : Addr) : Own (G.set i (k d')) σ a ↔ Own G σ a := by
  constructor
  · rintro ⟨j, e, c, s⟩
    by_cases q : j = i
    · subst q
      exact ⟨j, d, by rcases hk with rfl | rfl <;> simp [h], s⟩
    · rw [set_other q] at c
      exact ⟨j, e, c, s⟩
  · rintro ⟨j, e, c, s⟩
    by_cases q : j = i
    · subst q
      exact ⟨j, d', by rw [set_get h]; rcases hk with rfl | rfl <;> simp, s⟩
    · exact ⟨j, e, by rw [set_other q]; exact c, s⟩
theorem slot_addr {G : Env'} {i : Nat} {a : Addr} {d : PyData} (S : Sta g B G σ H) (h : G[i]? = some (.own d) ∨ G[i]? = some (.lent d)) (hs : σ[i]? = some (some (.ref a))) : OwnAt g (Ow B G σ) H a d ∧ ¬ B.E a ∧ (G[i]? = some (.own d) → B.H0 a = none) := by
  rcases h with h | h
  · obtain ⟨b, e1, n, z, o⟩ := S.own i d h
    rw [hs] at e1; cases e1
    exact ⟨o, n, fun _ => z⟩
  · obtain ⟨e1, n, o⟩ := S.lent i d h
    rw [hs] at e1
    have e2 : a = B.L i := by injection e1 with e1; injection e1 with e1; injection e1
    subst e2
    exact ⟨o, n, fun q => by rw [h] at q; cases q⟩
/-- an owned object is written -/
theorem Sta.write {i : Nat} {a : Addr} {d d' : PyData} {k : PyData → Sl} {o : HO} (S : Sta g B G σ H) (hk : k = .own ∨ k = .lent) (h : G[i]? = some (k d)) (hs : σ[i]? = some (some (.ref a)))
    (n : OwnAt g (Ow B G σ) (upd H a o) a d') : Post g B false G (G.set i (k d')) σ H (upd H a o) := by
  have hi : G[i]? = some (.own d) ∨ G[i]? = some (.lent d) := by rcases hk with rfl | rfl <;> simp [h]
  obtain ⟨oa, nE, z⟩ := slot_addr S hi hs
  have hO : Own G σ a := ⟨i, d, hi, hs⟩
  have hOw : ∀ b, Ow B (G.set i (k d')) σ b ↔ Ow B G σ b := fun b => or_congr Iff.rfl (own_same hk h b)
  have eOw : Ow B (G.set i (k d')) σ = Ow B G σ := funext fun b => propext (hOw b)
  have kp : Keep (fun b => b = a) H (upd H a o) := fun b u e nb => by rw [upd_ne nb]; exact e
  have hm : ∀ b, b = a → Ch H b := fun b e => by rw [e]; exact oa.ch
  have hE : ∀ b, b = a → Ow B G σ b := fun b e => by rw [e]; exact .inr hO
  have hE' : ∀ b, Ow B G σ b → (H b).isSome = true → Ow B G σ b := fun b q _ => q
  have lnt : ∀ (j : Nat), (∃ e, (G.set i (k d'))[j]? = some (.lent e)) ↔ ∃ e, G[j]? = some (.lent e) := fun j => by
    by_cases q : j = i
    · subst q
      rw [set_get h, h]
      rcases hk with rfl | rfl
      · simp
      · exact ⟨fun _ => ⟨d, rfl⟩, fun _ => ⟨d', rfl⟩⟩
    · rw [set_other q]
  refine ⟨⟨by rw [List.length_set]; exact S.len, fun j e hj => ?_, fun j e hj => ?_, fun j e hj => ?_, fun j b hj => ?_, fun j1 j2 b h1 h2 s1 s2 => ?_, fun b u hb nb => ?_, fun b hb => ?_⟩, fun v e r => ?_, fun b q => (own_same hk h b).mp q, fun b u q e => ?_, lnt, fun b q => ?_, fun j sl hj n1 n2 => ?_, fun e => by cases e⟩
  · rw [eOw]
    have q : j ≠ i := fun q => by
      subst q
      rw [set_get h] at hj
      rcases hk with rfl | rfl <;> cases hj
    rw [set_other q] at hj
    obtain ⟨v, e1, r⟩ := S.val j e hj
    exact ⟨v, e1, r.keep kp hm hE hE'⟩
  · rw [eOw]
    by_cases q : j = i
    · subst q
      rw [set_get h] at hj
      rcases hk with rfl | rfl
      · cases hj
        exact ⟨a, hs, nE, z h, n⟩
      · cases hj
    · rw [set_other q] at hj
      obtain ⟨b, e1, n1, z1, o1⟩ := S.own j e hj
      refine ⟨b, e1, n1, z1, o1.keep kp hm hE hE' fun c => q ?_⟩
      subst c
      exact S.uni j i b ⟨e, .inl hj⟩ ⟨d, hi⟩ e1 hs
  · rw [eOw]
    by_cases q : j = i
    · subst q
      rw [set_get h] at hj
      rcases hk with rfl | rfl
      · cases hj
      · cases hj
        obtain ⟨e1, n1, _⟩ := S.lent j d h
        have e2 : a = B.L j := by
          rw [hs] at e1; injection e1 with e1; injection e1 with e1; injection e1
        subst e2
        exact ⟨e1, n1, n⟩
    · rw [set_other q] at hj
      obtain ⟨e1, n1, o1⟩ := S.lent j e hj
      refine ⟨e1, n1, o1.keep kp hm hE hE' fun c => q ?_⟩
      exact S.uni j i a ⟨e, .inr hj⟩ ⟨d, hi⟩ (by rw [← c]; exact e1) hs
  · have q : j ≠ i := fun q => by
      subst q
      rw [set_get h] at hj
      rcases hk with rfl | rfl <;> cases hj
    rw [set_other q] at hj
    exact S.adr j b hj
  · have back : ∀ (j : Nat), (∃ d, (G.set i (k d'))[j]? = some (.own d) ∨ (G.set i (k d'))[j]? = some (.lent d)) → ∃ d, G[j]? = some (.own d) ∨ G[j]? = some (.lent d) := fun j ⟨e, c⟩ => by
      by_cases q : j = i
      · subst q; exact ⟨d, hi⟩
      · rw [set_other q] at c; exact ⟨e, c⟩
    exact S.uni j1 j2 b (back j1 h1) (back j2 h2) s1 s2
  · have nl : ¬ Lent G B b := fun ⟨j, e, c, s⟩ => nb (let ⟨e', c'⟩ := (lnt j).mpr ⟨e, c⟩; ⟨j, e', c', s⟩)
    have q := S.ent b u hb nl
    refine kp b u q fun c => ?_
    subst c
    rcases hi with hi | hi
    · rw [z hi] at hb; cases hb
    · obtain ⟨e1, _, _⟩ := S.lent i d hi
      have e2 : b = B.L i := by rw [hs] at e1; injection e1 with e1; injection e1 with e1; injection e1
      exact nl ⟨i, d, hi, e2.symm⟩
  · by_cases c : b = a
    · subst c; exact absurd hb nE
    · have := S.etr b hb
      rw [upd_ne c]; exact this
  · rw [eOw]
    exact r.keep kp hm hE hE'
  · rw [upd_ne fun c => nE (by rw [← c]; exact q)]
    exact e
  · by_cases c : b = a
    · subst c; rw [upd_same]; rfl
    · rw [upd_ne c]; exact q
  · have q : j ≠ i := fun q => by
      subst q
      rcases hi with hi | hi
      · rw [hj] at hi; exact n1 d (Option.some.inj hi)
      · rw [hj] at hi; exact n2 d (Option.some.inj hi)
    rw [set_other q]; exact hj
/-- an owned object is given away -/
theorem Sta.freeze {i : Nat} {d : PyData} (S : Sta g B G σ H) (h : G[i]? = some (.own d)) : Post g B false G (G.set i (.val d)) σ H H ∧ ∃ v, σ[i]? = some (some v) ∧ RelD g (Ow B (G.set i (.val d)) σ) H v d := by
  obtain ⟨a, hs, nE, z, oa⟩ := S.own i d h
  have sub : ∀ b, Own (G.set i (.val d)) σ b → Own G σ b := by
    rintro b ⟨j, e, c, s⟩
    by_cases q : j = i
    · subst q
      rw [set_get h] at c
      rcases c with c | c <;> cases c
    · rw [set_other q] at c
      exact ⟨j, e, c, s⟩
  have subO : ∀ b, Ow B (G.set i (.val d)) σ b → Ow B G σ b := fun b q => q.elim .inl fun q => .inr (sub b q)
  have na : ¬ Ow B (G.set i (.val d)) σ a := fun q => by
    rcases q with q | ⟨j, e, c, s⟩
    · exact nE q
    · by_cases q : j = i
      · subst q
        rw [set_get h] at c
        rcases c with c | c <;> cases c
      · rw [set_other q] at c
        exact q (S.uni j i a ⟨e, c⟩ ⟨d, .inl h⟩ s hs)
  have lnt : ∀ (j : Nat), (∃ e, (G.set i (.val d))[j]? = some (.lent e)) ↔ ∃ e, G[j]? = some (.lent e) := fun j => by
    by_cases q : j = i
    · subst q
      rw [set_get h, h]
      simp
    · rw [set_other q]
  refine ⟨⟨⟨by rw [List.length_set]; exact S.len, fun j e hj => ?_, fun j e hj => ?_, fun j e hj => ?_, fun j b hj => ?_, fun j1 j2 b h1 h2 s1 s2 => ?_, fun b u hb nb => ?_, S.etr⟩, fun v e r => r.sub subO, sub, fun b u _ e => e, lnt, fun b q => q, fun j sl hj n1 n2 => (by
    have q : j ≠ i := fun q => by
      subst q
      rw [hj] at h; exact n1 d (Option.some.inj h)
    rw [set_other q]; exact hj), fun e => by cases e⟩, ⟨.ref a, hs, oa.rel subO na⟩⟩
  · by_cases q : j = i
    · subst q
      rw [set_get h] at hj
      cases hj
      exact ⟨.ref a, hs, oa.rel subO na⟩
    · rw [set_other q] at hj
      obtain ⟨v, e1, r⟩ := S.val j e hj
      exact ⟨v, e1, r.sub subO⟩
  · have q : j ≠ i := fun q => by subst q; rw [set_get h] at hj; cases hj
    rw [set_other q] at hj
    obtain ⟨b, e1, n1, z1, o1⟩ := S.own j e hj
    exact ⟨b, e1, n1, z1, o1.keep (M := fun _ => False) (Ex.refl H).keep (fun _ q => q.elim) (fun _ q => q.elim) (fun b q _ => subO b q) fun q => q⟩
  · have q : j ≠ i := fun q => by subst q; rw [set_get h] at hj; cases hj
    rw [set_other q] at hj
    obtain ⟨e1, n1, o1⟩ := S.lent j e hj
    exact ⟨e1, n1, o1.keep (M := fun _ => False) (Ex.refl H).keep (fun _ q => q.elim) (fun _ q => q.elim) (fun b q _ => subO b q) fun q => q⟩
  · have q : j ≠ i := fun q => by subst q; rw [set_get h] at hj; cases hj
    rw [set_other q] at hj
    exact S.adr j b hj
  · have back : ∀ (j : Nat), (∃ e, (G.set i (.val d))[j]? = some (.own e) ∨ (G.set i (.val d))[j]? = some (.lent e)) → ∃ e, G[j]? = some (.own e) ∨ G[j]? = some (.lent e) := fun j ⟨e, c⟩ => by
      by_cases q : j = i
      · subst q; rw [set_get h] at c; rcases c with c | c <;> cases c
      · rw [set_other q] at c; exact ⟨e, c⟩
    exact S.uni j1 j2 b (back j1 h1) (back j2 h2) s1 s2
  · exact S.ent b u hb fun ⟨j, e, c, s⟩ => nb (let ⟨e', c'⟩ := (lnt j).mpr ⟨e, c⟩; ⟨j, e', c', s⟩)
end
/-! ### names, constants -/
section
variable {X : Cx} {W : WX} {i : Nat} {x : Str} {pos : Pos}
theorem ie_var (hN : X.N[i]? = some x := by rfl) (hv : Vis X.env.scope x := by first | exact Or.inl rfl | exact Or.inr (Or.inl rfl) | exact Or.inr (Or.inr rfl)) (hd : (x == ("__debug__" : Str)) = false := by decide) (hcd : (x == ("__classdict__" : Str)) = false := by decide) :
    PE X (.Name x pos) (tE (gd X) W .s true (mVar i)) := (pe_var hN hv hd hcd).imp fun σ H Q h => by
  obtain ⟨B, G, S, h⟩ := h
  show ∃ v, σ[i]? = some (some v) ∧ Q v H
  unfold mVar at h
  cases hi : G[i]? with
  | none => rw [hi] at h; exact h.elim
  | some sl =>
    rw [hi] at h
    cases sl with
    | val d =>
      obtain ⟨v, e, r⟩ := S.val i d hi
      exact ⟨v, e, h v H (.refl S) r⟩
    | _ => exact h.elim
theorem ie_view (hN : X.N[i]? = some x := by rfl) (hv : Vis X.env.scope x := by first | exact Or.inl rfl | exact Or.inr (Or.inl rfl) | exact Or.inr (Or.inr rfl)) (hd : (x == ("__debug__" : Str)) = false := by decide) (hcd : (x == ("__classdict__" : Str)) = false := by decide) :
    PE X (.Name x pos) (tE (gd X) W .v true (mView i)) := (pe_var hN hv hd hcd).imp fun σ H Q h => by
  obtain ⟨B, G, S, h⟩ := h
  show ∃ v, σ[i]? = some (some v) ∧ Q v H
  unfold mView at h
  cases hi : G[i]? with
  | none => rw [hi] at h; exact h.elim
  | some sl =>
    rw [hi] at h
    cases sl with
    | val d =>
      obtain ⟨v, e, r⟩ := S.val i d hi
      exact ⟨v, e, h v H (.refl S) (.of r)⟩
    | own d =>
      obtain ⟨a, e, _, _, r⟩ := S.own i d hi
      exact ⟨.ref a, e, h _ H (.refl S) r.w⟩
    | lent d =>
      obtain ⟨e, _, r⟩ := S.lent i d hi
      exact ⟨_, e, h _ H (.refl S) r.w⟩
    | _ => exact h.elim
theorem ie_frz (hN : X.N[i]? = some x := by rfl) (hv : Vis X.env.scope x := by first | exact Or.inl rfl | exact Or.inr (Or.inl rfl) | exact Or.inr (Or.inr rfl)) (hd : (x == ("__debug__" : Str)) = false := by decide) (hcd : (x == ("__classdict__" : Str)) = false := by decide) :
    PE X (.Name x pos) (tE (gd X) W .s false (mFrz i)) := (pe_var hN hv hd hcd).imp fun σ H Q h => by
  obtain ⟨B, G, S, h⟩ := h
  show ∃ v, σ[i]? = some (some v) ∧ Q v H
  unfold mFrz at h
  cases hi : G[i]? with
  | none => rw [hi] at h; exact h.elim
  | some sl =>
    rw [hi] at h
    cases sl with
    | val d =>
      obtain ⟨v, e, r⟩ := S.val i d hi
      exact ⟨v, e, h v H (.refl S) r⟩
    | own d =>
      obtain ⟨P, v, e, r⟩ := S.freeze hi
      exact ⟨v, e, h v H P r⟩
    | _ => exact h.elim
theorem t_c {g : Gd} {σ : L2.St} {H : Hp} {Q : VK} {v : V} {d : PyData} (hr : ∀ E, RelD g E H v d) (h : tE g W .s true (mC d) σ H Q) : Q v H := by
  obtain ⟨B, G, S, h⟩ := h
  exact h v H (.refl S) (hr _)
theorem ie_int {i j pos} : PE X (.Constant (.int i) j pos) (tE (gd X) W .s true (mC (.int i))) := pe_int.imp fun σ H Q h => t_c (fun _ => .int i) h
theorem ie_bl {b j pos} : PE X (.Constant (.bool b) j pos) (tE (gd X) W .s true (mC (.bool b))) := pe_bl.imp fun σ H Q h => t_c (fun _ => .bl b) h
theorem ie_non {j pos} : PE X (.Constant .none j pos) (tE (gd X) W .s true (mC .none)) := pe_non.imp fun σ H Q h => t_c (fun _ => .non) h
theorem ie_str {x j pos} : PE X (.Constant (.str x) j pos) (tE (gd X) W .s true (mC (.str x))) := pe_str.imp fun σ H Q h => t_c (fun _ => .str x) h
theorem ie_gInt {n : Int} (hg : Gl X x) (hm : ∃ t, X.mg x = some (.int n t)) (hd : (x == ("__debug__" : Str)) = false := by decide) : PE X (.Name x pos) (tE (gd X) W .s true (mC (.int n))) := by
  obtain ⟨t, hm⟩ := hm
  exact (pe_glob hg hm (v := .int n) ⟨t, rfl⟩ hd).imp fun σ H Q h => t_c (fun _ => .int n) h
theorem ie_gStr {z : Str} (hg : Gl X x) (hm : ∃ t, X.mg x = some (.str z t)) (hd : (x == ("__debug__" : Str)) = false := by decide) : PE X (.Name x pos) (tE (gd X) W .s true (mC (.str z))) := by
  obtain ⟨t, hm⟩ := hm
  exact (pe_glob hg hm (v := .str z) ⟨t, rfl⟩ hd).imp fun σ H Q h => t_c (fun _ => .str z) h
end
/-! ### operations on values -/
/-- by values: a binary operation told by data -/
def rD (g : Gd) (f : PyData → PyData → Option PyData) : R2 := fun x y H Q => ∃ E d1 d2 d, (∀ a, E a → (H a).isSome = true) ∧ RelW g E H x d1 ∧ RelW g E H y d2 ∧ f d1 d2 = some d ∧ ∀ v H', Ex H H' → RelD g E H' v d → Q v H'
def rD1 (g : Gd) (f : PyData → Option PyData) : V → Hp → VK → Prop := fun x H Q => ∃ E d1 d, (∀ a, E a → (H a).isSome = true) ∧ RelW g E H x d1 ∧ f d1 = some d ∧ ∀ v H', Ex H H' → RelD g E H' v d → Q v H'
section
variable {g : Gd} {W : WX} {σ : L2.St} {H : Hp} {Q : VK} {fl fl1 fl2 : Fl} {p p1 p2 : Bool} {m m1 m2 : M} {f : PyData → PyData → Option PyData} {f1 : PyData → Option PyData}
theorem t_op2 (c : fl1.isS = true ∨ p2 = true) (h : tE g W .s (p1 && p2) (mOp2 f m1 m2) σ H Q) : tOp (rD g f) (tE g W fl1 p1 m1) (tE g W fl2 p2 m2) σ H Q := by
  obtain ⟨B, G, S, h⟩ := h
  refine ⟨B, G, S, ?_⟩
  unfold mOp2 at h
  cases h1 : m1 G with
  | bad => rw [h1] at h; exact h.elim
  | exc x G1 => rw [h1] at h; exact h
  | ok r1 =>
    obtain ⟨d1, G1⟩ := r1
    rw [h1] at h
    intro x H1 P1 R1
    refine ⟨B, G1, P1.sta, ?_⟩
    dsimp only at h
    cases h2 : m2 G1 with
    | bad => rw [h2] at h; exact h.elim
    | exc x G2 =>
      rw [h2] at h
      intro cls dx H' P2 e
      exact h cls dx H' (P1.trans' P2) e
    | ok r2 =>
      obtain ⟨d2, G2⟩ := r2
      rw [h2] at h
      dsimp only at h
      intro y H2 P2 R2
      cases hf : f d1 d2 with
      | none => rw [hf] at h; exact h.elim
      | some d =>
        rw [hf] at h
        refine ⟨Ow B G2 σ, d1, d2, d, fun a q => P2.sta.owTr q, (RelF.over R1 P2 c).w, R2.w, hf, fun v H' e r => h v H' ((P1.trans P2).ex e) r⟩
theorem t_op1 (h : tE g W .s p (mOp1 f1 m) σ H Q) : tUn (rD1 g f1) (tE g W fl p m) σ H Q := by
  obtain ⟨B, G, S, h⟩ := h
  refine ⟨B, G, S, ?_⟩
  unfold mOp1 at h
  cases h1 : m G with
  | bad => rw [h1] at h; exact h.elim
  | exc x G1 => rw [h1] at h; exact h
  | ok r1 =>
    obtain ⟨d1, G1⟩ := r1
    rw [h1] at h
    dsimp only at h
    intro x H1 P1 R1
    cases hf : f1 d1 with
    | none => rw [hf] at h; exact h.elim
    | some d =>
      rw [hf] at h
      exact ⟨Ow B G1 σ, d1, d, fun a q => P1.sta.owTr q, R1.w, hf, fun v H' e r => h v H' (P1.ex e) r⟩
end
section
variable {X : Cx} {W : WX} {fl fl1 fl2 : Fl} {p p1 p2 : Bool} {m m1 m2 : M} {f : PyData → PyData → Option PyData} {f1 : PyData → Option PyData} {a b e : Expr} {pos : Pos}
theorem ie_op {op : Operator} (ho : OpR X (binaryOp op) (rD (gd X) f)) (h1 : PE X a (tE (gd X) W fl1 p1 m1)) (h2 : PE X b (tE (gd X) W fl2 p2 m2)) (c : fl1.isS = true ∨ p2 = true := by first | exact Or.inl rfl | exact Or.inr rfl) :
    PE X (.BinOp a op b pos) (tE (gd X) W .s (p1 && p2) (mOp2 f m1 m2)) := (pe_op ho h1 h2).imp fun σ H Q h => t_op2 c h
theorem ie_cmp {op : CmpOp} (ho : OpR X (compareOp op) (rD (gd X) f)) (h1 : PE X a (tE (gd X) W fl1 p1 m1)) (h2 : PE X b (tE (gd X) W fl2 p2 m2)) (hm : behindInMarks op b = false) (c : fl1.isS = true ∨ p2 = true := by first | exact Or.inl rfl | exact Or.inr rfl) :
    PE X (.Compare a [op] [b] pos) (tE (gd X) W .s (p1 && p2) (mOp2 f m1 m2)) := (pe_cmpR ho h1 h2 hm).imp fun σ H Q h => t_op2 c h
theorem ie_un {op : UnaryOp} (ho : UnR X (unaryOp op) (rD1 (gd X) f1)) (h1 : PE X a (tE (gd X) W fl p m)) : PE X (.UnaryOp op a pos) (tE (gd X) W .s p (mOp1 f1 m)) := (pe_un ho h1).imp fun σ H Q h => t_op1 h
theorem ie_ix (ho : IxR X (rD (gd X) f)) (h1 : PE X a (tE (gd X) W fl1 p1 m1)) (h2 : PE X b (tE (gd X) W fl2 p2 m2)) (hs : PlainIx b := by exact fun _ _ => rfl) (c : fl1.isS = true ∨ p2 = true := by first | exact Or.inl rfl | exact Or.inr rfl) :
    PE X (.Subscript a b pos) (tE (gd X) W .s (p1 && p2) (mOp2 f m1 m2)) := (pe_ix ho h1 h2 hs).imp fun σ H Q h => t_op2 c h
theorem ie_down (h : PE X e (tE (gd X) W fl p m)) (hf : fl = fl1 ∨ fl = .s := by first | exact Or.inl rfl | exact Or.inr rfl) (hp : p1 = true → p = true := by first | exact fun h => h | exact fun _ => rfl | exact fun h => nomatch h) : PE X e (tE (gd X) W fl1 p1 m) :=
  h.imp fun σ H Q q => t_down q (hf.elim (fun e => .inl e.symm) .inr) hp
end
end Mo

/-! MoC: tests, arguments, displays, calls of built-ins. -/
namespace Mo
open PySem PySem.Spec PyProof.Rows L2
/-! ### tests -/
abbrev MB := Env' → Res (Bool × Env')
def tT (g : Gd) (W : WX) (p : Bool) (m : MB) : TT := fun σ H Q => ∃ B G, Sta g B G σ H ∧ match m G with
  | .ok (b, G') => ∀ H', Post g B p G G' σ H H' → Q b H'
  | .exc x G' => ∀ cls dx H', Post g B false G G' σ H H' → ExcAt g (Ow B G' σ) H' x cls dx → W cls dx σ H'
  | .bad => False
/-- a bool's truth -/
def bB (m : M) : MB := fun G => match m G with
  | .ok (.bool b, G1) => .ok (b, G1)
  | .ok _ => .bad
  | .exc x G1 => .exc x G1
  | .bad => .bad
def bAnd (a b : MB) : MB := fun G => match a G with
  | .ok (true, G1) => b G1
  | .ok (false, G1) => .ok (false, G1)
  | .exc x G1 => .exc x G1
  | .bad => .bad
def bOr (a b : MB) : MB := fun G => match a G with
  | .ok (true, G1) => .ok (true, G1)
  | .ok (false, G1) => b G1
  | .exc x G1 => .exc x G1
  | .bad => .bad
def bNot (a : MB) : MB := fun G => match a G with
  | .ok (b, G1) => .ok (!b, G1)
  | .exc x G1 => .exc x G1
  | .bad => .bad
/-- a test's answer as a value -/
def mB (a : MB) : M := fun G => match a G with
  | .ok (b, G1) => .ok (.bool b, G1)
  | .exc x G1 => .exc x G1
  | .bad => .bad
def mIf (c : MB) (a b : M) : M := fun G => match c G with
  | .ok (true, G1) => a G1
  | .ok (false, G1) => b G1
  | .exc x G1 => .exc x G1
  | .bad => .bad
section
variable {g : Gd} {W : WX} {σ : L2.St} {H : Hp} {Q : VK} {R : Bool → Hp → Prop} {fl fl1 fl2 : Fl} {p p1 p2 : Bool} {m m1 m2 : M} {a b : MB}
theorem RelD.bl_of {g : Gd} {E : Addr → Prop} {H : Hp} {x : V} {b : Bool} (h : RelD g E H x (.bool b)) : x = .bl b := by cases h; rfl
theorem RelW.bl_of {g : Gd} {E : Addr → Prop} {H : Hp} {x : V} {b : Bool} (h : RelW g E H x (.bool b)) : x = .bl b := by
  cases h with
  | of h => exact h.bl_of
theorem t_bB (h : tT g W p (bB m) σ H R) : tE g W fl p m σ H fun x H' => ∃ c, x = .bl c ∧ R c H' := by
  obtain ⟨B, G, S, h⟩ := h
  refine ⟨B, G, S, ?_⟩
  unfold bB at h
  cases h1 : m G with
  | bad => rw [h1] at h; exact h.elim
  | exc x G1 => rw [h1] at h; exact h
  | ok r1 =>
    obtain ⟨d1, G1⟩ := r1
    rw [h1] at h
    intro x H1 P1 R1
    cases d1 with
    | bool c => exact ⟨c, R1.w.bl_of, h H1 P1⟩
    | _ => exact h.elim
theorem t_bAnd (h : tT g W (p1 && p2) (bAnd a b) σ H R) : tAnd (tT g W p1 a) (tT g W p2 b) σ H R := by
  obtain ⟨B, G, S, h⟩ := h
  refine ⟨B, G, S, ?_⟩
  unfold bAnd at h
  cases h1 : a G with
  | bad => rw [h1] at h; exact h.elim
  | exc x G1 => rw [h1] at h; exact h
  | ok r1 =>
    obtain ⟨c, G1⟩ := r1
    rw [h1] at h
    intro H1 P1
    cases c with
    | false =>
      show R false H1
      exact h H1 (P1.to fun e => (Bool.and_eq_true _ _ ▸ e).1)
    | true =>
      show tT g W p2 b σ H1 R
      refine ⟨B, G1, P1.sta, ?_⟩
      dsimp only at h
      cases h2 : b G1 with
      | bad => rw [h2] at h; exact h.elim
      | exc x G2 =>
        rw [h2] at h
        exact fun cls dx H' P2 e => h cls dx H' (P1.trans' P2) e
      | ok r2 =>
        obtain ⟨c2, G2⟩ := r2
        rw [h2] at h
        exact fun H2 P2 => h H2 (P1.trans P2)
theorem t_bOr (h : tT g W (p1 && p2) (bOr a b) σ H R) : tOr (tT g W p1 a) (tT g W p2 b) σ H R := by
  obtain ⟨B, G, S, h⟩ := h
  refine ⟨B, G, S, ?_⟩
  unfold bOr at h
  cases h1 : a G with
  | bad => rw [h1] at h; exact h.elim
  | exc x G1 => rw [h1] at h; exact h
  | ok r1 =>
    obtain ⟨c, G1⟩ := r1
    rw [h1] at h
    intro H1 P1
    cases c with
    | true =>
      show R true H1
      exact h H1 (P1.to fun e => (Bool.and_eq_true _ _ ▸ e).1)
    | false =>
      show tT g W p2 b σ H1 R
      refine ⟨B, G1, P1.sta, ?_⟩
      dsimp only at h
      cases h2 : b G1 with
      | bad => rw [h2] at h; exact h.elim
      | exc x G2 =>
        rw [h2] at h
        exact fun cls dx H' P2 e => h cls dx H' (P1.trans' P2) e
      | ok r2 =>
        obtain ⟨c2, G2⟩ := r2
        rw [h2] at h
        exact fun H2 P2 => h H2 (P1.trans P2)
theorem t_bNot (h : tT g W p (bNot a) σ H R) : tNot (tT g W p a) σ H R := by
  obtain ⟨B, G, S, h⟩ := h
  refine ⟨B, G, S, ?_⟩
  unfold bNot at h
  cases h1 : a G with
  | bad => rw [h1] at h; exact h.elim
  | exc x G1 => rw [h1] at h; exact h
  | ok r1 =>
    obtain ⟨c, G1⟩ := r1
    rw [h1] at h
    exact h
theorem t_mIf {c : MB} {p3 : Bool} (h : tE g W .s (p1 && (p2 && p3)) (mIf c m1 m2) σ H Q) : tIf (tT g W p1 c) (tE g W .s p2 m1) (tE g W .s p3 m2) σ H Q := by
  obtain ⟨B, G, S, h⟩ := h
  refine ⟨B, G, S, ?_⟩
  unfold mIf at h
  cases h1 : c G with
  | bad => rw [h1] at h; exact h.elim
  | exc x G1 => rw [h1] at h; exact h
  | ok r1 =>
    obtain ⟨b, G1⟩ := r1
    rw [h1] at h
    intro H1 P1
    cases b with
    | true =>
      show tE g W .s p2 m1 σ H1 Q
      refine ⟨B, G1, P1.sta, ?_⟩
      dsimp only at h
      cases h2 : m1 G1 with
      | bad => rw [h2] at h; exact h.elim
      | exc x G2 => rw [h2] at h; exact fun cls dx H' P2 e => h cls dx H' (P1.trans' P2) e
      | ok r2 =>
        obtain ⟨d, G2⟩ := r2
        rw [h2] at h
        exact fun v H2 P2 r => h v H2 ((P1.trans P2).to fun e => by simp_all) r
    | false =>
      show tE g W .s p3 m2 σ H1 Q
      refine ⟨B, G1, P1.sta, ?_⟩
      dsimp only at h
      cases h2 : m2 G1 with
      | bad => rw [h2] at h; exact h.elim
      | exc x G2 => rw [h2] at h; exact fun cls dx H' P2 e => h cls dx H' (P1.trans' P2) e
      | ok r2 =>
        obtain ⟨d, G2⟩ := r2
        rw [h2] at h
        exact fun v H2 P2 r => h v H2 ((P1.trans P2).to fun e => by simp_all) r
theorem t_andV (h : tE g W .s (p1 && p2) (mB (bAnd (bB m1) (bB m2))) σ H Q) : tAndV (tE g W fl1 p1 m1) (tE g W fl2 p2 m2) σ H Q := by
  obtain ⟨B, G, S, h⟩ := h
  refine ⟨B, G, S, ?_⟩
  unfold mB bAnd bB at h
  cases h1 : m1 G with
  | bad => rw [h1] at h; exact h.elim
  | exc x G1 => rw [h1] at h; exact h
  | ok r1 =>
    obtain ⟨d1, G1⟩ := r1
    rw [h1] at h
    intro x H1 P1 R1
    cases d1 with
    | bool c =>
      refine ⟨c, R1.w.bl_of, ?_⟩
      cases c with
      | false =>
        show Q (.bl false) H1
        exact h _ H1 (P1.to fun e => (Bool.and_eq_true _ _ ▸ e).1) (.bl false)
      | true =>
        show tE g W fl2 p2 m2 σ H1 Q
        refine ⟨B, G1, P1.sta, ?_⟩
        dsimp only at h
        cases h2 : m2 G1 with
        | bad => rw [h2] at h; exact h.elim
        | exc x G2 =>
          rw [h2] at h
          exact fun cls dx H' P2 e => h cls dx H' (P1.trans' P2) e
        | ok r2 =>
          obtain ⟨c2, G2⟩ := r2
          rw [h2] at h
          intro y H2 P2 R2
          cases c2 with
          | bool c3 =>
            rw [R2.w.bl_of]
            exact h _ H2 (P1.trans P2) (.bl c3)
          | _ => exact h.elim
    | _ => exact h.elim
theorem t_orV (h : tE g W .s (p1 && p2) (mB (bOr (bB m1) (bB m2))) σ H Q) : tOrV (tE g W fl1 p1 m1) (tE g W fl2 p2 m2) σ H Q := by
  obtain ⟨B, G, S, h⟩ := h
  refine ⟨B, G, S, ?_⟩
  unfold mB bOr bB at h
  cases h1 : m1 G with
  | bad => rw [h1] at h; exact h.elim
  | exc x G1 => rw [h1] at h; exact h
  | ok r1 =>
    obtain ⟨d1, G1⟩ := r1
    rw [h1] at h
    intro x H1 P1 R1
    cases d1 with
    | bool c =>
      refine ⟨c, R1.w.bl_of, ?_⟩
      cases c with
      | true =>
        show Q (.bl true) H1
        exact h _ H1 (P1.to fun e => (Bool.and_eq_true _ _ ▸ e).1) (.bl true)
      | false =>
        show tE g W fl2 p2 m2 σ H1 Q
        refine ⟨B, G1, P1.sta, ?_⟩
        dsimp only at h
        cases h2 : m2 G1 with
        | bad => rw [h2] at h; exact h.elim
        | exc x G2 =>
          rw [h2] at h
          exact fun cls dx H' P2 e => h cls dx H' (P1.trans' P2) e
        | ok r2 =>
          obtain ⟨c2, G2⟩ := r2
          rw [h2] at h
          intro y H2 P2 R2
          cases c2 with
          | bool c3 =>
            rw [R2.w.bl_of]
            exact h _ H2 (P1.trans P2) (.bl c3)
          | _ => exact h.elim
    | _ => exact h.elim
theorem t_notV (h : tE g W .s p (mB (bNot (bB m))) σ H Q) : tNotV (tE g W fl p m) σ H Q := by
  obtain ⟨B, G, S, h⟩ := h
  refine ⟨B, G, S, ?_⟩
  unfold mB bNot bB at h
  cases h1 : m G with
  | bad => rw [h1] at h; exact h.elim
  | exc x G1 => rw [h1] at h; exact h
  | ok r1 =>
    obtain ⟨d1, G1⟩ := r1
    rw [h1] at h
    intro x H1 P1 R1
    cases d1 with
    | bool c => exact ⟨c, R1.w.bl_of, h _ H1 P1 (.bl _)⟩
    | _ => exact h.elim
end
section
variable {X : Cx} {W : WX} {fl fl1 fl2 : Fl} {p p1 p2 : Bool} {m m1 m2 : M} {a b e : Expr} {ba bb : MB} {rest : List Expr} {pos : Pos}
/-- an expression whose value is a bool, as a test -/
theorem it_val (h : PE X e (tE (gd X) W fl p m)) (he : ∀ whole, isTrue e X.env whole = (do let v ← whole; standAt e.pos; holding [v] (truthy v)) := by intro _; rfl) : PT X e (tT (gd X) W p (bB m)) :=
  (pt_val h he).imp fun σ H Q q => t_bB q
theorem it_cmp {f : PyData → PyData → Option PyData} {op : CmpOp} (ho : OpR X (compareOp op) (rD (gd X) f)) (h1 : PE X a (tE (gd X) W fl1 p1 m1)) (h2 : PE X b (tE (gd X) W fl2 p2 m2)) (hm : behindInMarks op b = false) (c : fl1.isS = true ∨ p2 = true := by first | exact Or.inl rfl | exact Or.inr rfl) :
    PT X (.Compare a [op] [b] pos) (tT (gd X) W (p1 && p2) (bB (mOp2 f m1 m2))) := (pt_cmpR ho h1 h2 hm).imp fun σ H Q h => by
  have q := t_bB (fl := .s) h
  exact t_op2 c q
theorem it_not (ha : PT X a (tT (gd X) W p ba)) : PT X (.UnaryOp .Not a pos) (tT (gd X) W p (bNot ba)) := (pt_not ha).imp fun σ H Q q => t_bNot q
theorem iw_and1 (ha : PT X a (tT (gd X) W p ba)) : PW X (.BoolOp .And [a] pos) (tT (gd X) W p ba) := pw_and1 ha
theorem iw_or1 (ha : PT X a (tT (gd X) W p ba)) : PW X (.BoolOp .Or [a] pos) (tT (gd X) W p ba) := pw_or1 ha
theorem iw_and (ha : PT X a (tT (gd X) W p1 ba)) (hb : PW X (.BoolOp .And (b :: rest) pos) (tT (gd X) W p2 bb)) : PW X (.BoolOp .And (a :: b :: rest) pos) (tT (gd X) W (p1 && p2) (bAnd ba bb)) := (pw_and ha hb).imp fun σ H Q q => t_bAnd q
theorem iw_or (ha : PT X a (tT (gd X) W p1 ba)) (hb : PW X (.BoolOp .Or (b :: rest) pos) (tT (gd X) W p2 bb)) : PW X (.BoolOp .Or (a :: b :: rest) pos) (tT (gd X) W (p1 && p2) (bOr ba bb)) := (pw_or ha hb).imp fun σ H Q q => t_bOr q
theorem ie_one {op} (h : PE X a (tE (gd X) W fl p m)) : PE X (.BoolOp op [a] pos) (tE (gd X) W fl p m) := pe_one h
theorem ie_and (ha : PE X a (tE (gd X) W fl1 p1 m1)) (hb : PE X (.BoolOp .And (b :: rest) pos) (tE (gd X) W fl2 p2 m2)) : PE X (.BoolOp .And (a :: b :: rest) pos) (tE (gd X) W .s (p1 && p2) (mB (bAnd (bB m1) (bB m2)))) := (pe_and ha hb).imp fun σ H Q q => t_andV q
theorem ie_or (ha : PE X a (tE (gd X) W fl1 p1 m1)) (hb : PE X (.BoolOp .Or (b :: rest) pos) (tE (gd X) W fl2 p2 m2)) : PE X (.BoolOp .Or (a :: b :: rest) pos) (tE (gd X) W .s (p1 && p2) (mB (bOr (bB m1) (bB m2)))) := (pe_or ha hb).imp fun σ H Q q => t_orV q
theorem ie_not (ha : PE X a (tE (gd X) W fl p m)) : PE X (.UnaryOp .Not a pos) (tE (gd X) W .s p (mB (bNot (bB m)))) := (pe_not ha).imp fun σ H Q q => t_notV q
theorem ie_if {c : Expr} {p3 : Bool} (hc : PT X c (tT (gd X) W p1 ba)) (ha : PE X a (tE (gd X) W .s p2 m1)) (hb : PE X b (tE (gd X) W .s p3 m2)) : PE X (.IfExp c a b pos) (tE (gd X) W .s (p1 && (p2 && p3)) (mIf ba m1 m2)) := (pe_ifExp hc ha hb).imp fun σ H Q q => t_mIf q
end
/-! ### arguments -/
abbrev MA := Env' → Res (List PyData × Env')
abbrev RelFs (g : Gd) (fl : Fl) (E : Addr → Prop) (H : Hp) : List V → List PyData → Prop := Paired (RelF g fl E H)
theorem RelFs.over {g : Gd} {fl : Fl} {B : Bs} {p : Bool} {G G' : Env'} {σ : L2.St} {H H' : Hp} {vs : List V} {ds : List PyData} (h : RelFs g fl (Ow B G σ) H vs ds) (q : Post g B p G G' σ H H') (c : fl.isS = true ∨ p = true) : RelFs g fl (Ow B G' σ) H' vs ds :=
  Paired.mapP h fun _ _ r => RelF.over r q c
theorem RelFs.rel {g : Gd} {E : Addr → Prop} {H : Hp} : ∀ {vs : List V} {ds : List PyData}, RelFs g .s E H vs ds → RelDs g E H vs ds
  | _, _, .nil => .nil
  | _, _, .cons r t => .cons r (RelFs.rel t)
theorem RelDs.fs {g : Gd} {E : Addr → Prop} {H : Hp} : ∀ {vs : List V} {ds : List PyData}, RelDs g E H vs ds → RelFs g .s E H vs ds
  | _, _, .nil => .nil
  | _, _, .cons r t => .cons r (RelDs.fs t)
theorem RelFs.w {g : Gd} {fl : Fl} {E : Addr → Prop} {H : Hp} {vs : List V} {ds : List PyData} (h : RelFs g fl E H vs ds) : RelFs g .v E H vs ds := Paired.mapP h fun _ _ r => r.w
def tA (g : Gd) (W : WX) (fl : Fl) (p : Bool) (m : MA) : TA := fun σ H Q => ∃ B G, Sta g B G σ H ∧ match m G with
  | .ok (ds, G') => ∀ vs H', Post g B p G G' σ H H' → RelFs g fl (Ow B G' σ) H' vs ds → Q vs H'
  | .exc x G' => ∀ cls dx H', Post g B false G G' σ H H' → ExcAt g (Ow B G' σ) H' x cls dx → W cls dx σ H'
  | .bad => False
def aNil : MA := fun G => .ok ([], G)
def aCons (m : M) (r : MA) : MA := fun G => match m G with
  | .ok (d, G1) => (match r G1 with
    | .ok (ds, G2) => .ok (d :: ds, G2)
    | .exc x G2 => .exc x G2
    | .bad => .bad)
  | .exc x G1 => .exc x G1
  | .bad => .bad
def joinF : Fl → Fl → Fl
  | .s, .s => .s
  | _, _ => .v
theorem RelF.join1 {g : Gd} {fl fl2 : Fl} {E : Addr → Prop} {H : Hp} {v : V} {d : PyData} (h : RelF g fl E H v d) : RelF g (joinF fl fl2) E H v d := by
  cases fl <;> cases fl2
  · exact h
  · exact RelW.of h
  · exact h
  · exact h
theorem RelF.join2 {g : Gd} {fl fl2 : Fl} {E : Addr → Prop} {H : Hp} {v : V} {d : PyData} (h : RelF g fl2 E H v d) : RelF g (joinF fl fl2) E H v d := by
  cases fl <;> cases fl2
  · exact h
  · exact h
  · exact RelW.of h
  · exact h
section
variable {g : Gd} {W : WX} {σ : L2.St} {H : Hp} {fl fl1 fl2 : Fl} {p p1 p2 : Bool} {m : M} {r : MA}
theorem t_aNil {Q : List V → Hp → Prop} (h : tA g W fl p aNil σ H Q) : tNil σ H Q := by
  obtain ⟨B, G, S, h⟩ := h
  exact h [] H (.refl S) .nil
theorem t_aCons {Q : List V → Hp → Prop} (c : fl1.isS = true ∨ p2 = true) (h : tA g W (joinF fl1 fl2) (p1 && p2) (aCons m r) σ H Q) : tCons (tE g W fl1 p1 m) (tA g W fl2 p2 r) σ H Q := by
  obtain ⟨B, G, S, h⟩ := h
  refine ⟨B, G, S, ?_⟩
  unfold aCons at h
  cases h1 : m G with
  | bad => rw [h1] at h; exact h.elim
  | exc x G1 => rw [h1] at h; exact h
  | ok r1 =>
    obtain ⟨d1, G1⟩ := r1
    rw [h1] at h
    intro x H1 P1 R1
    refine ⟨B, G1, P1.sta, ?_⟩
    dsimp only at h
    cases h2 : r G1 with
    | bad => rw [h2] at h; exact h.elim
    | exc x G2 =>
      rw [h2] at h
      exact fun cls dx H' P2 e => h cls dx H' (P1.trans' P2) e
    | ok r2 =>
      obtain ⟨ds, G2⟩ := r2
      rw [h2] at h
      exact fun vs H2 P2 R2 => h (x :: vs) H2 (P1.trans P2) (.cons (RelF.join1 (RelF.over R1 P2 c)) (Paired.mapP R2 fun _ _ r => RelF.join2 r))
end
section
variable {X : Cx} {W : WX} {fl fl1 fl2 : Fl} {p p1 p2 : Bool} {m : M} {r : MA} {e : Expr} {es : List Expr}
theorem ia_nil : PA X [] (tA (gd X) W .s true aNil) := pa_nil.imp fun σ H Q h => t_aNil h
theorem ia_cons (h1 : PE X e (tE (gd X) W fl1 p1 m)) (h2 : PA X es (tA (gd X) W fl2 p2 r)) (c : fl1.isS = true ∨ p2 = true := by first | exact Or.inl rfl | exact Or.inr rfl) (hs : starEach (e :: es) X.env = (false, eval e X.env) :: starEach es X.env := by rfl) :
    PA X (e :: es) (tA (gd X) W (joinF fl1 fl2) (p1 && p2) (aCons m r)) := (pa_cons h1 h2 hs).imp fun σ H Q h => t_aCons c h
end
/-! ### displays -/
def szOk (n : Nat) : Bool := Nat.ble n 16777216
theorem szOk_le {n : Nat} (h : szOk n = true) : n ≤ sizeLine := by
  rw [PySem.sizeLine_eq]
  exact Nat.le_of_ble_eq_true h
def mTup (a : MA) : M := fun G => match a G with
  | .ok (ds, G1) => if szOk ds.length = true then .ok (.tuple ds, G1) else .bad
  | .exc x G1 => .exc x G1
  | .bad => .bad
def mLst (a : MA) : M := fun G => match a G with
  | .ok (ds, G1) => if szOk ds.length = true then .ok (.list ds, G1) else .bad
  | .exc x G1 => .exc x G1
  | .bad => .bad
section
variable {g : Gd} {W : WX} {B : Bs} {G G' : Env'} {σ : L2.St} {H H' H1 H2 : Hp} {Q : VK} {fl fl1 fl2 : Fl} {p p1 p2 : Bool} {m : M} {a : MA}
/-- a new object, shut out -/
theorem Sta.shut (S : Sta g B G σ H) {q : Addr} (n : H q = none) (ex : Ex H H') (so : (H' q).isSome = true) : Sta g { B with E := fun b => B.E b ∨ b = q } G σ H' := by
  have nO : ∀ b, Own G σ b → b ≠ q := fun b h e => by
    obtain ⟨_, o⟩ := S.ownAt h
    have := o.some
    rw [e, n] at this
    cases this
  have hE' : ∀ b, Ow { B with E := fun b => B.E b ∨ b = q } G σ b → (H b).isSome = true → Ow B G σ b := fun b h e => by
    rcases h with (h | h) | h
    · exact .inl h
    · subst h; rw [n] at e; cases e
    · exact .inr h
  refine ⟨S.len, fun i d h => ?_, fun i d h => ?_, fun i d h => ?_, S.adr, S.uni, fun b u hb nb => ex b u (S.ent b u hb nb), fun b hb => ?_⟩
  · obtain ⟨v, e1, r⟩ := S.val i d h
    exact ⟨v, e1, r.keep (M := fun _ => False) ex.keep (fun _ q => q.elim) (fun _ q => q.elim) hE'⟩
  · obtain ⟨b, e1, nE, z, r⟩ := S.own i d h
    exact ⟨b, e1, fun c => c.elim nE (nO b ⟨i, d, .inl h, e1⟩), z, r.keep (M := fun _ => False) ex.keep (fun _ q => q.elim) (fun _ q => q.elim) hE' fun q => q⟩
  · obtain ⟨e1, nE, r⟩ := S.lent i d h
    exact ⟨e1, fun c => c.elim nE (nO _ ⟨i, d, .inr h, e1⟩), r.keep (M := fun _ => False) ex.keep (fun _ q => q.elim) (fun _ q => q.elim) hE' fun q => q⟩
  · rcases hb with hb | hb
    · exact ex.dom b (S.etr b hb)
    · subst hb; exact so
theorem Post.shut (P : Post g B p G G' σ H H1) {q : Addr} (n : H1 q = none) (ex : Ex H1 H2) (so : (H2 q).isSome = true) : Post g { B with E := fun b => B.E b ∨ b = q } p G G' σ H H2 := by
  have nG : ∀ v d, RelD g (Ow { B with E := fun b => B.E b ∨ b = q } G σ) H v d → RelD g (Ow B G σ) H v d := fun v d r => r.sub fun b h => h.elim (fun h => .inl (.inl h)) .inr
  refine ⟨P.sta.shut n ex so, fun v d r => ?_, P.sub, fun b u hb e => ?_, P.lnt, fun b e => ex.dom b (P.dom b e), P.sam, fun e => ⟨(P.pur e).1, Ex.trans (P.pur e).2 ex⟩⟩
  · exact (P.pres v d (nG v d r)).keep (M := fun _ => False) ex.keep (fun _ q => q.elim) (fun _ q => q.elim) fun b h e => by
      rcases h with (h | h) | h
      · exact .inl h
      · subst h; rw [n] at e; cases e
      · exact .inr h
  · rcases hb with hb | hb
    · exact ex b u (P.kpE b u hb e)
    · subst hb; rw [P.back n] at e; cases e
/-- from a fresh object's reading to a kept value's -/
theorem t_sF (h : tE g W .s p m σ H Q) : tF g W p m σ H Q := by
  obtain ⟨B, G, S, h⟩ := h
  refine ⟨B, G, S, ?_⟩
  cases h1 : m G with
  | bad => rw [h1] at h; exact h.elim
  | exc x G1 => rw [h1] at h; exact h
  | ok r1 =>
    obtain ⟨d, G1⟩ := r1
    rw [h1] at h
    dsimp only
    by_cases c : isObj d = true
    case neg => rw [if_neg c]; exact h
    rw [if_pos c]
    intro a H' P PX na o
    refine h (.ref a) H' P (o.rel (fun b q => .inl q) fun q => ?_)
    rcases q with q | ⟨i, e, c, s⟩
    · have := S.etr a q
      rw [na] at this
      cases this
    · exact (slot_addr PX.sta c s).2.1 (.inr rfl)
theorem OwnAt.obj {g : Gd} {E : Addr → Prop} {H : Hp} {a : Addr} {d : PyData} (h : OwnAt g E H a d) : isObj d = true := by cases h <;> rfl
/-- the new object at the end of an expression -/
theorem fresh_end {d : PyData} {q : Addr} (P : Post g B p G G' σ H H1) (n : H1 q = none) (ex : Ex H1 H2) (o1 : OwnAt g (fun b => Ow B G' σ b ∨ b = q) H2 q d)
    (k : if isObj d = true then
        ∀ a H', Post g B p G G' σ H H' → Post g { B with E := fun b => B.E b ∨ b = a } p G G' σ H H' → H a = none → OwnAt g (fun b => Ow B G' σ b ∨ b = a) H' a d → Q (.ref a) H'
      else ∀ v H', Post g B p G G' σ H H' → RelD g (Ow B G' σ) H' v d → Q v H') : Q (.ref q) H2 := by
  rw [if_pos o1.obj] at k
  exact k q _ (P.ex ex) (P.shut n ex o1.some) (P.back n) o1
end
end Mo

/-! MoD: operations on values told by data. -/
namespace Mo
open PySem PySem.Spec PyProof.Rows L2
section
variable {g : Gd} {E : Addr → Prop} {H : Hp} {x : V}
theorem RelW.int_of {i : Int} (h : RelW g E H x (.int i)) : x = .int i := by cases h with | of h => cases h; rfl
theorem RelW.str_of {i : Str} (h : RelW g E H x (.str i)) : x = .str i := by cases h with | of h => cases h; rfl
theorem RelW.non_of (h : RelW g E H x .none) : x = .non := by cases h with | of h => cases h; rfl
theorem RelW.lst_of {ds : List PyData} (h : RelW g E H x (.list ds)) : ∃ a xs, x = .ref a ∧ SqL g.K H a xs ∧ RelDs g E H xs ds := by
  cases h with
  | of h => cases h with
    | lst n r t => exact ⟨_, _, rfl, .inl r, t⟩
    | kls r t => exact ⟨_, _, rfl, .inr r, t⟩
  | lst r t => exact ⟨_, _, rfl, .inl r, t⟩
theorem RelW.tup_of {ds : List PyData} (h : RelW g E H x (.tuple ds)) : ∃ a xs, x = .ref a ∧ SqT g.K H a xs ∧ RelDs g E H xs ds := by
  cases h with
  | of h => cases h with | tup r t => exact ⟨_, _, rfl, r.sq, t⟩
theorem RelW.tupN_of {ds : List PyData} (h : RelW g E H x (.tuple ds)) : ∃ a xs, x = .ref a ∧ TpN g.K H a xs ∧ RelDs g E H xs ds := by
  cases h with
  | of h => cases h with | tup r t => exact ⟨_, _, rfl, r, t⟩
theorem RelW.dct_of {kvs : List (PyData × PyData)} (h : RelW g E H x (.dict kvs)) : (∃ a xs, x = .ref a ∧ H a = some (dN g a xs) ∧ RelKs g E H xs kvs) ∨ ∃ a xs, x = .ref a ∧ H a = some (.dK xs) ∧ xs ≠ [] ∧ RelKk g E H xs kvs := by
  cases h with
  | of h => cases h with
    | dct n r t => exact .inl ⟨_, _, rfl, r, t⟩
    | dck n r z t => exact .inr ⟨_, _, rfl, r, z, t⟩
  | dct r t => exact .inl ⟨_, _, rfl, r, t⟩
  | dck r z t => exact .inr ⟨_, _, rfl, r, z, t⟩
theorem RelW.tup {ds : List PyData} (h : RelW g E H x (.tuple ds)) : RelD g E H x (.tuple ds) := by cases h with | of h => exact h
end
theorem szOk_lt {n : Nat} (h : szOk (n + 1) = true) : n < sizeLine := Nat.lt_of_succ_le (szOk_le h)
theorem rd_sq {K : PySem.W.Frag} {H : Hp} {a : Addr} {xs : List V} (h : Rd H a (.lst xs)) : SqL K H a xs := .inl h
section
variable {X : Cx} {pins : List (Addr × Obj)} {σ : L2.St} {H : Hp} {s : Shared}
theorem rdL (I : Inv X pins σ H s) {l : Addr} {xs : List V} (h : Rd H l (.lst xs)) : xs.length ≤ sizeLine ∧ ∃ (its : List Value) (n : Nat), Vals xs its ∧ xs.length = its.length ∧ s.heap.get? l = some { cls := .type "list", data := .seq its.toArray n } := by
  obtain ⟨z, its, n, r, e⟩ := Rd.ok h I.hok
  exact ⟨z, its, n, r, r.length, e⟩
/-- a new list at the end -/
theorem new_lst {g : Gd} {E : Addr → Prop} {p : Addr} {xs : List V} {ds : List PyData} (n : H p = none) (tr : ∀ a, E a → (H a).isSome = true) (r : RelDs g E H xs ds) : RelD g E (upd H p (.lst xs)) (.ref p) (.list ds) :=
  .lst (fun e => by have := tr p e; rw [n] at this; cases this) (.inl upd_same) (r.ex (Ex.new n))
theorem new_tup {g : Gd} {E : Addr → Prop} {p : Addr} {xs : List V} {us : List Value} {ds : List PyData} (n : H p = none) (r : RelDs g E H xs ds) : RelD g E (upd H p (.frz (tObj us) (.tup xs))) (.ref p) (.tuple ds) :=
  .tup TpN.new (r.ex (Ex.new n))
theorem own_lst {g : Gd} {E : Addr → Prop} {p : Addr} {xs : List V} {ds : List PyData} (n : H p = none) (r : RelDs g E H xs ds) : OwnAt g (fun b => E b ∨ b = p) (upd H p (.lst xs)) p (.list ds) :=
  .lst upd_same (r.keep (M := fun _ => False) (Ex.new n).keep (fun _ q => q.elim) (fun _ q => q.elim) fun b q e => q.elim id fun q => by rw [q, n] at e; cases e)
end
/-! ### displays -/
section
variable {X : Cx} {W : WX} {fl : Fl} {p : Bool} {ma : MA} {es : List Expr} {pos : Pos} {m : M} {e : Expr}
theorem ie_tup {k} (h : PA X es (tA (gd X) W .s p ma)) : PE X (.Tuple es k pos) (tE (gd X) W .s p (mTup ma)) := (pe_tupN h).imp fun σ H Q h => by
  obtain ⟨B, G, S, h⟩ := h
  refine ⟨B, G, S, ?_⟩
  unfold mTup at h
  cases h1 : ma G with
  | bad => rw [h1] at h; exact h.elim
  | exc x G1 => rw [h1] at h; exact h
  | ok r1 =>
    obtain ⟨ds, G1⟩ := r1
    rw [h1] at h
    dsimp only at h
    intro vs H1 P1 R1
    have R := RelFs.rel R1
    by_cases z : szOk ds.length = true
    · rw [if_pos z] at h
      exact ⟨by rw [R.length]; exact szOk_le z, fun us q n => h _ _ (P1.ex (Ex.new n)) (new_tup n R)⟩
    · rw [if_neg z] at h; exact h.elim
theorem if_lst (h : PA X es (tA (gd X) W .s p ma)) : PE X (.List es pos) (tF (gd X) W p (mLst ma)) := (pe_lst h).imp fun σ H Q h => by
  obtain ⟨B, G, S, h⟩ := h
  refine ⟨B, G, S, ?_⟩
  unfold mLst at h
  cases h1 : ma G with
  | bad => rw [h1] at h; exact h.elim
  | exc x G1 => rw [h1] at h; exact h
  | ok r1 =>
    obtain ⟨ds, G1⟩ := r1
    rw [h1] at h
    dsimp only at h
    intro vs H1 P1 R1
    have R := RelFs.rel R1
    by_cases z : szOk ds.length = true
    · rw [if_pos z] at h
      exact ⟨by rw [R.length]; exact szOk_le z, fun q n => fresh_end P1 n (Ex.new n) (own_lst n R) h⟩
    · rw [if_neg z] at h; exact h.elim
theorem ie_F (h : PE X e (tF (gd X) W p m)) : PE X e (tE (gd X) W .s p m) := h.imp fun σ H Q h => t_sF h
end
/-! ### a call of a built-in by values -/
def rDs (g : Gd) (f : List PyData → Option PyData) : List V → Hp → VK → Prop := fun vs H Q => ∃ E ds d, (∀ a, E a → (H a).isSome = true) ∧ RelFs g .v E H vs ds ∧ f ds = some d ∧ ∀ v H', Ex H H' → RelD g E H' v d → Q v H'
/-- .. whose value is made anew -/
def rDF (g : Gd) (f : List PyData → Option PyData) : List V → Hp → VK → Prop := fun vs H Q => ∃ E ds d, (∀ a, E a → (H a).isSome = true) ∧ RelFs g .v E H vs ds ∧ f ds = some d ∧ ∀ a H', Ex H H' → H a = none → OwnAt g (fun b => E b ∨ b = a) H' a d → Q (.ref a) H'
def mCallB (f : List PyData → Option PyData) (a : MA) : M := fun G => match a G with
  | .ok (ds, G1) => (match f ds with
    | some d => .ok (d, G1)
    | none => .bad)
  | .exc x G1 => .exc x G1
  | .bad => .bad
section
variable {g : Gd} {W : WX} {σ : L2.St} {H : Hp} {Q : VK} {fl : Fl} {p : Bool} {ma : MA} {f : List PyData → Option PyData}
theorem t_callB (h : tE g W .s p (mCallB f ma) σ H Q) : tCB (rDs g f) (tA g W fl p ma) σ H Q := by
  obtain ⟨B, G, S, h⟩ := h
  refine ⟨B, G, S, ?_⟩
  unfold mCallB at h
  cases h1 : ma G with
  | bad => rw [h1] at h; exact h.elim
  | exc x G1 => rw [h1] at h; exact h
  | ok r1 =>
    obtain ⟨ds, G1⟩ := r1
    rw [h1] at h
    dsimp only at h
    intro vs H1 P1 R1
    cases hf : f ds with
    | none => rw [hf] at h; exact h.elim
    | some d =>
      rw [hf] at h
      exact ⟨Ow B G1 σ, ds, d, fun a q => P1.sta.owTr q, R1.w, hf, fun v H' e r => h v H' (P1.ex e) r⟩
theorem t_callF (h : tF g W p (mCallB f ma) σ H Q) : tCB (rDF g f) (tA g W fl p ma) σ H Q := by
  obtain ⟨B, G, S, h⟩ := h
  refine ⟨B, G, S, ?_⟩
  unfold mCallB at h
  cases h1 : ma G with
  | bad => rw [h1] at h; exact h.elim
  | exc x G1 => rw [h1] at h; exact h
  | ok r1 =>
    obtain ⟨ds, G1⟩ := r1
    rw [h1] at h
    dsimp only at h
    intro vs H1 P1 R1
    cases hf : f ds with
    | none => rw [hf] at h; exact h.elim
    | some d =>
      rw [hf] at h
      exact ⟨Ow B G1 σ, ds, d, fun a q => P1.sta.owTr q, R1.w, hf, fun a H' e n o => fresh_end P1 n e o h⟩
end
section
variable {X : Cx} {W : WX} {fl : Fl} {p : Bool} {ma : MA} {f : List PyData → Option PyData} {x : Str} {q pos : Pos} {e : Expr} {es : List Expr} {id T : String}
theorem ie_callB (hc : CallR X (.builtin id) (rDs (gd X) f)) (hg : Gl X x) (hm : X.mg x = none) (hv : bootBuiltins x = some (.builtin id)) (ha : PA X (e :: es) (tA (gd X) W fl p ma)) (hn : x ≠ "__name__" := by decide) (hdb : (x == ("__debug__" : Str)) = false := by decide)
    (he : starEach (e :: es) X.env = (false, eval e X.env) :: starEach es X.env := by rfl) (hpl : (backTo pos (starEach es X.env)).any (·.1) = false := by rfl) : PE X (.Call (.Name x q) (e :: es) [] pos) (tE (gd X) W .s p (mCallB f ma)) :=
  (pe_callB hc hg hm hv ha hn hdb he hpl).imp fun σ H Q h => t_callB h
theorem ie_callTy (hc : CallR X (.type T) (rDs (gd X) f)) (hg : Gl X x) (hm : X.mg x = none) (hv : bootBuiltins x = some (.type T)) (ha : PA X (e :: es) (tA (gd X) W fl p ma)) (hn : x ≠ "__name__" := by decide) (hdb : (x == ("__debug__" : Str)) = false := by decide)
    (he : starEach (e :: es) X.env = (false, eval e X.env) :: starEach es X.env := by rfl) (hpl : (backTo pos (starEach es X.env)).any (·.1) = false := by rfl) : PE X (.Call (.Name x q) (e :: es) [] pos) (tE (gd X) W .s p (mCallB f ma)) :=
  (pe_callTy hc hg hm hv ha hn hdb he hpl).imp fun σ H Q h => t_callB h
theorem if_callB (hc : CallR X (.builtin id) (rDF (gd X) f)) (hg : Gl X x) (hm : X.mg x = none) (hv : bootBuiltins x = some (.builtin id)) (ha : PA X (e :: es) (tA (gd X) W fl p ma)) (hn : x ≠ "__name__" := by decide) (hdb : (x == ("__debug__" : Str)) = false := by decide)
    (he : starEach (e :: es) X.env = (false, eval e X.env) :: starEach es X.env := by rfl) (hpl : (backTo pos (starEach es X.env)).any (·.1) = false := by rfl) : PE X (.Call (.Name x q) (e :: es) [] pos) (tF (gd X) W p (mCallB f ma)) :=
  (pe_callB hc hg hm hv ha hn hdb he hpl).imp fun σ H Q h => t_callF h
theorem if_callTy (hc : CallR X (.type T) (rDF (gd X) f)) (hg : Gl X x) (hm : X.mg x = none) (hv : bootBuiltins x = some (.type T)) (ha : PA X (e :: es) (tA (gd X) W fl p ma)) (hn : x ≠ "__name__" := by decide) (hdb : (x == ("__debug__" : Str)) = false := by decide)
    (he : starEach (e :: es) X.env = (false, eval e X.env) :: starEach es X.env := by rfl) (hpl : (backTo pos (starEach es X.env)).any (·.1) = false := by rfl) : PE X (.Call (.Name x q) (e :: es) [] pos) (tF (gd X) W p (mCallB f ma)) :=
  (pe_callTy hc hg hm hv ha hn hdb he hpl).imp fun σ H Q h => t_callF h
end
/-! ### arithmetic -/
def opAdd : PyData → PyData → Option PyData
  | .int i, .int j => some (.int (i + j))
  | .str a, .str b => if szOk (a.length + b.length) = true then some (.str (a ++ b)) else none
  | .tuple xs, .tuple ys => if szOk (xs.length + ys.length) = true then some (.tuple (xs ++ ys)) else none
  | .list xs, .list ys => if szOk (xs.length + ys.length) = true then some (.list (xs ++ ys)) else none
  | _, _ => none
def opSub : PyData → PyData → Option PyData
  | .int i, .int j => some (.int (i - j))
  | _, _ => none
/-- the factors together below some 2^26 bits -/
def mulOk (i j : Int) : Bool := Nat.ble (i.natAbs.log2 + j.natAbs.log2) 100000000
theorem mulOk_x {i j : Int} (h : mulOk i j = true) : CMulX i j := by
  have h' : i.natAbs.log2 + j.natAbs.log2 ≤ 100000000 := Nat.le_of_ble_eq_true h
  exact mulx_ok (a := i.natAbs.log2 + 1) (b := j.natAbs.log2 + 1) Nat.lt_log2_self Nat.lt_log2_self (by omega)
def opMul : PyData → PyData → Option PyData
  | .int i, .int j => if mulOk i j = true then some (.int (i * j)) else none
  | .list xs, .int k => if szOk (xs.length * k.toNat) && (decide (-1000000000 < k) && decide (k < 1000000000)) then some (.list (List.replicate k.toNat xs).flatten) else none
  | _, _ => none
def opFdiv : PyData → PyData → Option PyData
  | .int i, .int j => if decide (0 < j) && decide (j < 1073741824) then some (.int (i / j)) else none
  | _, _ => none
def opMod : PyData → PyData → Option PyData
  | .int i, .int j => if decide (0 < j) then some (.int (i % j)) else none
  | _, _ => none
def opPow : PyData → PyData → Option PyData
  | .int i, .int j => if decide (0 ≤ j) && (decide (j ≤ 1000) && decide (i.natAbs < 1000)) then some (.int (i ^ j.toNat)) else none
  | _, _ => none
def opShl : PyData → PyData → Option PyData
  | .int i, .int j => if decide (0 ≤ j) && (decide (j ≤ 1000) && decide (i.natAbs < 1000)) then some (.int (i * 2 ^ j.toNat)) else none
  | _, _ => none
def opShr : PyData → PyData → Option PyData
  | .int i, .int j => if decide (0 ≤ j) then some (.int (i / 2 ^ j.toNat)) else none
  | _, _ => none
def opAnd1 : PyData → PyData → Option PyData
  | .int i, .int j => if decide (j = 1) then some (.int (i % 2)) else none
  | _, _ => none
section
variable {X : Cx}
theorem ite_some {α : Type} {c : Bool} {a b : α} (h : (if c = true then some a else none) = some b) : c = true ∧ a = b := by
  cases c with
  | true => exact ⟨rfl, Option.some.inj h⟩
  | false => cases h
/-- l + m of lists -/
theorem add_sq {X : Cx} {pins : List (Addr × Obj)} {σ : L2.St} {H : Hp} {s : Shared} {a b : Addr} {xs ys : List V} {Q : VK} (I : Inv X pins σ H s) (sa : SqL X.K H a xs) (sb : SqL X.K H b ys) (hz : xs.length + ys.length ≤ sizeLine)
    (q : ∀ p, H p = none → Q (.ref p) (upd H p (.lst (xs ++ ys)))) : wpAny (model X.prog X.w) X.A (binaryOp .Add (.ref a) (.ref b)) (EP X pins σ Q) X.xe s := by
  obtain ⟨us, r1, p1, _⟩ := I.list sa
  obtain ⟨ws, r2, p2, _⟩ := I.list sb
  have l1 := r1.length
  have l2 := r2.length
  obtain ⟨⟨c1, d1, t1, v1⟩, ho, hc, n, hd⟩ := p1.isList
  obtain ⟨⟨c2, d2, t2, v2⟩, ho2, hc2, n2, hd2⟩ := p2.isList
  simp only at hc hd hc2 hd2
  subst hc hd hc2 hd2
  refine concat_meets ⟨_, ho, rfl⟩ ⟨_, ho2, rfl⟩ noFill_list_add seq_list_add PySem.F.slot_list_add PySem.F.entry_list_add (PySem.F.args_list_add_2 _ _) (list_addW a b us.toArray ws.toArray n n2 d1 d2 v1 v2 (by rw [List.size_toArray, List.size_toArray]; omega)) ⟨ho, ho2, ?_⟩
  rw [show us.toArray ++ ws.toArray = (us ++ ws).toArray by simp]
  exact ⟨.ref _, _, I.lnew (t' := s.toks) (r1.append r2) (by rw [List.length_append]; exact hz), rfl, q _ I.fresh⟩
theorem opAdd_ok : OpR X (binaryOp .Add) (rD (gd X) opAdd) := by
  intro pins s σ H x y v u Q I rx ry h
  obtain ⟨E, d1, d2, d, tr, h1, h2, hf, q⟩ := h
  cases d1 with
  | int i =>
    cases d2 with
    | int j =>
      cases h1.int_of; cases h2.int_of; cases hf
      exact op_add pins s σ H _ _ v u Q I rx ry ⟨i, j, rfl, rfl, q _ H (Ex.refl H) (.int _)⟩
    | _ => cases hf
  | str a =>
    cases d2 with
    | str b =>
      cases h1.str_of; cases h2.str_of
      obtain ⟨c, rfl⟩ := ite_some hf
      exact op_add_str pins s σ H _ _ v u Q I rx ry ⟨a, b, rfl, rfl, szOk_le c, q _ H (Ex.refl H) (.str _)⟩
    | _ => cases hf
  | tuple xs =>
    cases d2 with
    | tuple ys =>
      obtain ⟨c, rfl⟩ := ite_some hf
      have r1 := h1.tup
      have r2 := h2.tup
      obtain ⟨a, vs, rfl, sa, ra⟩ := h1.tup_of
      obtain ⟨b, ws, rfl, sb, rb⟩ := h2.tup_of
      refine op_catN pins s σ H _ _ v u Q I rx ry ⟨a, b, vs, ws, rfl, rfl, sa, sb, by rw [ra.length, rb.length]; exact szOk_le c, fun e => ?_, fun e => ?_, fun us p n => q _ _ (Ex.new n) (new_tup n (ra.append rb))⟩
      · subst e
        cases ra
        exact q _ H (Ex.refl H) r2
      · subst e
        cases rb
        rw [List.append_nil] at q
        exact q _ H (Ex.refl H) r1
    | _ => cases hf
  | list xs =>
    cases d2 with
    | list ys =>
      obtain ⟨c, rfl⟩ := ite_some hf
      obtain ⟨a, vs, rfl, sa, ra⟩ := h1.lst_of
      obtain ⟨b, ws, rfl, sb, rb⟩ := h2.lst_of
      cases rx
      cases ry
      have hz : vs.length + ws.length ≤ sizeLine := by rw [ra.length, rb.length]; exact szOk_le c
      exact add_sq I sa sb hz fun p n => q _ _ (Ex.new n) (new_lst n tr (ra.append rb))
    | _ => cases hf
  | _ => cases hf
/-- a list made by + -/
def opCat : PyData → PyData → Option PyData
  | .list xs, .list ys => if szOk (xs.length + ys.length) = true then some (.list (xs ++ ys)) else none
  | _, _ => none
theorem opSub_ok : OpR X (binaryOp .Sub) (rD (gd X) opSub) := by
  intro pins s σ H x y v u Q I rx ry h
  obtain ⟨E, d1, d2, d, tr, h1, h2, hf, q⟩ := h
  cases d1 with
  | int i =>
    cases d2 with
    | int j =>
      cases h1.int_of; cases h2.int_of; cases hf
      exact op_sub pins s σ H _ _ v u Q I rx ry ⟨i, j, rfl, rfl, q _ H (Ex.refl H) (.int _)⟩
    | _ => cases hf
  | _ => cases hf
/-- int.__rmul__ of a list knows no answer -/
theorem int_rmulA (a : Int) (t : Tok) (l : Addr) (items : Array Value) (n : Nat) (dd : Option Addr) (sl : Array (Option Value)) :
    Meets (Builtin.«int.__rmul__» ⟨[.int a t, .ref l], []⟩) (fun _ R s => s.heap.get? l = some { cls := .type "list", dict := dd, data := .seq items n, slots := sl } ∧ R (.ok (.ret Value.notImplemented)) s) :=
  .of_wp fun prog w A R s h => by
    obtain ⟨hp, g, d, tk, os⟩ := s
    obtain ⟨hl, h⟩ := h
    wp_walk using wpAny_loadPart' hl
    exact ⟨_, rfl, h⟩
/-- list.__mul__, whatever stands beside the items -/
theorem list_mulA (l : Addr) (items : Array Value) (n : Nat) (dd : Option Addr) (sl : Array (Option Value)) (x : Int) (u : Tok) (c0 : ¬(!Builtin.List.listFitsIndex x) = true) (c1 : ¬items.size * x.toNat > (2 ^ 63 - 1) / 8) (c2 : ¬Builtin.List.listTooLong (items.size * x.toNat) = true) :
    Meets (Builtin.«list.__mul__» ⟨[.ref l, .int x u], []⟩) (fun _ R s => s.heap.get? l = some { cls := .type "list", dict := dd, data := .seq items n, slots := sl } ∧
      R (.ok (.ret (Value.ref s.heap.objs.size))) { s with heap := s.heap.push { cls := Value.type "list", data := Data.seq (List.foldl (fun x1 x2 => x1 ++ x2) #[] (List.replicate (if items.isEmpty = true then 0 else x.toNat) items)) }, toks := s.toks }) :=
  .of_wp fun prog w A R s h => by
    obtain ⟨hp, g, d, tk, os⟩ := s
    obtain ⟨hl, h⟩ := h
    have hsz := AutoListH.joined_fits c2
    wp_walk using wpAny_loadPart' hl
    refine wpAny_ite_false (decide_eq_false (Nat.not_lt.mpr hsz)) ?_
    wp_walk
    exact ⟨_, rfl, h⟩
theorem rep_list {pins : List (Addr × Obj)} {s : Shared} {σ : L2.St} {H : Hp} {l : Addr} {k : Int} {xs : List V} {u : Value} {Q : VK} (I : Inv X pins σ H s) (ry : RelV (.int k) u) (hH : SqL X.K H l xs) (h1 : -(2 ^ 63) ≤ k) (h2 : k < 2 ^ 63) (hz : xs.length * k.toNat ≤ sizeLine)
    (q : ∀ p, H p = none → Q (.ref p) (upd H p (.lst (List.replicate k.toNat xs).flatten))) : wpAny (model X.prog X.w) X.A (binaryOp .Mult (.ref l) u) (EP X pins σ Q) X.xe s := by
  obtain ⟨its, r, pl, _⟩ := I.list hH
  have hl := r.length
  obtain ⟨⟨k1, d1, t1, v1⟩, e, hc, n, hd⟩ := pl.isList
  simp only at hc hd
  subst hc hd
  obtain ⟨t, rfl⟩ := ry
  have many : its.toArray.size * k.toNat ≤ sizeLine := by simpa [← hl] using hz
  have c1 : ¬ its.toArray.size * k.toNat > (2 ^ 63 - 1) / 8 := fun c => by
    have z : (sizeLine : Nat) ≤ (2 ^ 63 - 1) / 8 := by decide
    exact absurd c (by omega)
  have c2 : ¬ (!Builtin.List.listFitsIndex k) = true := by simp [fitsIndex_both h1 h2]
  have c3 : ¬ Builtin.List.listTooLong (its.toArray.size * k.toNat) = true := by rw [notLongL many]; decide
  have fold0 : ∀ m : Nat, List.foldl (fun x1 x2 => x1 ++ x2) #[] (List.replicate m its.toArray) = (List.replicate m its).flatten.toArray := fun m => by simpa using foldl_rep its m []
  have made : List.foldl (fun x1 x2 => x1 ++ x2) #[] (List.replicate (if its.toArray.isEmpty = true then 0 else k.toNat) its.toArray) = (List.replicate k.toNat its).flatten.toArray := by
    rw [fold0]
    cases its with
    | nil => simp
    | cons a r' => simp
  have isL : s.TypeIs (.ref l) "list" := ⟨_, e, rfl⟩
  refine wpAny_binaryOp_repeat_ref (T := "list") (U := "int") (by decide) isL (fun s' => typeIs_int s' k t) noFill_list_mul F.fills_int_mul F.slot_int_rmul repeat_list F.slot_int_index.lookup ?_
  refine call_meets F.slot_int_rmul (typeIs_int s k t) F.entry_int_rmul (F.args_int_rmul_2 _ _) (int_rmulA k t l its.toArray n d1 v1) ⟨e, rfl, isL, ?_⟩
  refine call_meets F.slot_list_mul isL F.entry_list_mul (F.args_list_mul_2 _ _) (list_mulA l its.toArray n d1 v1 k t c2 c1 c3) ⟨e, ?_⟩
  rw [made]
  exact ⟨.ref _, _, I.lnew (t' := s.toks) (r.rep k.toNat) (by rw [PyProof.Rows.lm_len_rep_flat, Nat.mul_comm]; exact hz), rfl, q _ I.fresh⟩
end
end Mo

/-! MoE: more operations on values told by data. -/
namespace Mo
open PySem PySem.Spec PyProof.Rows L2
theorem ba2 {a b : Bool} (h : (a && b) = true) : a = true ∧ b = true := by simpa using h
theorem ba3 {a b c : Bool} (h : (a && (b && c)) = true) : a = true ∧ b = true ∧ c = true := by simpa using h
/-! ### as the library's data -/
section
variable {g : Gd} {E : Addr → Prop} {H : Hp}
mutual
theorem RelD.dp : ∀ {v : V} {d : PyData}, RelD g E H v d → d.canLay0 = true → Dp g.K H v d
  | _, _, .non, _ => .non
  | _, _, .bl b, _ => .bl b
  | _, _, .int i, _ => .int i
  | _, _, .str x, _ => .str x
  | _, _, .tup h hs, e => .tup h.sq (RelDs.dp hs (by simpa [PyData.canLay0] using e))
  | _, _, .lst n h hs, e => .lst (.inl h) (RelDs.dp hs (by simpa [PyData.canLay0] using e))
  | _, _, .kls h hs, e => .lst (.inr h) (RelDs.dp hs (by simpa [PyData.canLay0] using e))
  | _, _, .dct .., e => by simp [PyData.canLay0] at e
  | _, _, .dck .., e => by simp [PyData.canLay0] at e
theorem RelDs.dp : ∀ {v : List V} {d : List PyData}, RelDs g E H v d → PyData.canLayAll0 d = true → DpAll g.K H v d
  | _, _, .nil, _ => .nil
  | _, d :: ds, .cons h hs, e => by
    have e' : d.canLay0 = true ∧ PyData.canLayAll0 ds = true := by simpa [PyData.canLayAll0] using e
    exact .cons (RelD.dp h e'.1) (RelDs.dp hs e'.2)
end
theorem RelW.dp {v : V} {d : PyData} (h : RelW g E H v d) (e : d.canLay0 = true) : Dp g.K H v d := by
  cases h with
  | of h => exact h.dp e
  | lst h hs => exact .lst (.inl h) (hs.dp (by simpa [PyData.canLay0] using e))
  | dct h hs => simp [PyData.canLay0] at e
  | dck h z hs => simp [PyData.canLay0] at e
end
/-! ### arithmetic -/
section
variable {X : Cx}
theorem opMul_ok : OpR X (binaryOp .Mult) (rD (gd X) opMul) := by
  intro pins s σ H x y v u Q I rx ry h
  obtain ⟨E, d1, d2, d, tr, h1, h2, hf, q⟩ := h
  cases d1 with
  | int i =>
    cases d2 with
    | int j =>
      cases h1.int_of; cases h2.int_of
      obtain ⟨c, rfl⟩ := ite_some hf
      exact op_mulX pins s σ H _ _ v u Q I rx ry ⟨i, j, rfl, rfl, mulOk_x c, q _ H (Ex.refl H) (.int _)⟩
    | _ => cases hf
  | list xs =>
    cases d2 with
    | int k =>
      obtain ⟨c, rfl⟩ := ite_some hf
      obtain ⟨c, c3, c4⟩ := ba3 c
      have c3 := of_decide_eq_true c3
      have c4 := of_decide_eq_true c4
      obtain ⟨a, vs, rfl, sa, ra⟩ := h1.lst_of
      cases h2.int_of
      cases rx
      exact rep_list I ry sa (by omega) (by omega) (by rw [ra.length]; exact szOk_le c) fun p n => q _ _ (Ex.new n) (new_lst n tr (ra.rep _))
    | _ => cases hf
  | _ => cases hf
theorem opFdiv_ok : OpR X (binaryOp .FloorDiv) (rD (gd X) opFdiv) := by
  intro pins s σ H x y v u Q I rx ry h
  obtain ⟨E, d1, d2, d, tr, h1, h2, hf, q⟩ := h
  cases d1 with
  | int i =>
    cases d2 with
    | int j =>
      cases h1.int_of; cases h2.int_of
      obtain ⟨c, rfl⟩ := ite_some hf
      obtain ⟨c1, c2⟩ := ba2 c
      exact op_fdiv pins s σ H _ _ v u Q I rx ry ⟨i, j, rfl, rfl, ⟨of_decide_eq_true c1, of_decide_eq_true c2⟩, q _ H (Ex.refl H) (.int _)⟩
    | _ => cases hf
  | _ => cases hf
theorem opMod_ok : OpR X (binaryOp .Mod) (rD (gd X) opMod) := by
  intro pins s σ H x y v u Q I rx ry h
  obtain ⟨E, d1, d2, d, tr, h1, h2, hf, q⟩ := h
  cases d1 with
  | int i =>
    cases d2 with
    | int j =>
      cases h1.int_of; cases h2.int_of
      obtain ⟨c, rfl⟩ := ite_some hf
      exact op_mod pins s σ H _ _ v u Q I rx ry ⟨i, j, rfl, rfl, of_decide_eq_true c, q _ H (Ex.refl H) (.int _)⟩
    | _ => cases hf
  | _ => cases hf
theorem opPow_ok : OpR X (binaryOp .Pow) (rD (gd X) opPow) := by
  intro pins s σ H x y v u Q I rx ry h
  obtain ⟨E, d1, d2, d, tr, h1, h2, hf, q⟩ := h
  cases d1 with
  | int i =>
    cases d2 with
    | int j =>
      cases h1.int_of; cases h2.int_of
      obtain ⟨c, rfl⟩ := ite_some hf
      obtain ⟨c1, c2, c3⟩ := ba3 c
      have c2 := of_decide_eq_true c2
      have c3 := of_decide_eq_true c3
      exact op_pow pins s σ H _ _ v u Q I rx ry ⟨i, j, rfl, rfl, ⟨of_decide_eq_true c1, by omega, Nat.lt_trans c3 (by decide)⟩, q _ H (Ex.refl H) (.int _)⟩
    | _ => cases hf
  | _ => cases hf
theorem opShl_ok : OpR X (binaryOp .LShift) (rD (gd X) opShl) := by
  intro pins s σ H x y v u Q I rx ry h
  obtain ⟨E, d1, d2, d, tr, h1, h2, hf, q⟩ := h
  cases d1 with
  | int i =>
    cases d2 with
    | int j =>
      cases h1.int_of; cases h2.int_of
      obtain ⟨c, rfl⟩ := ite_some hf
      obtain ⟨c1, c2, c3⟩ := ba3 c
      have c2 := of_decide_eq_true c2
      have c3 := of_decide_eq_true c3
      exact op_shl pins s σ H _ _ v u Q I rx ry ⟨i, j, rfl, rfl, ⟨of_decide_eq_true c1, by omega, Nat.lt_trans c3 (by decide)⟩, q _ H (Ex.refl H) (.int _)⟩
    | _ => cases hf
  | _ => cases hf
theorem opShr_ok : OpR X (binaryOp .RShift) (rD (gd X) opShr) := by
  intro pins s σ H x y v u Q I rx ry h
  obtain ⟨E, d1, d2, d, tr, h1, h2, hf, q⟩ := h
  cases d1 with
  | int i =>
    cases d2 with
    | int j =>
      cases h1.int_of; cases h2.int_of
      obtain ⟨c, rfl⟩ := ite_some hf
      exact op_shr pins s σ H _ _ v u Q I rx ry ⟨i, j, rfl, rfl, of_decide_eq_true c, q _ H (Ex.refl H) (.int _)⟩
    | _ => cases hf
  | _ => cases hf
theorem opAnd1_ok : OpR X (binaryOp .BitAnd) (rD (gd X) opAnd1) := by
  intro pins s σ H x y v u Q I rx ry h
  obtain ⟨E, d1, d2, d, tr, h1, h2, hf, q⟩ := h
  cases d1 with
  | int i =>
    cases d2 with
    | int j =>
      cases h1.int_of; cases h2.int_of
      obtain ⟨c, rfl⟩ := ite_some hf
      have c := of_decide_eq_true c
      subst c
      refine op_andM pins s σ H _ _ v u Q I rx ry ⟨i, 1, rfl, by decide, q _ H (Ex.refl H) ?_⟩
      exact .int _
    | _ => cases hf
  | _ => cases hf
def opNeg : PyData → Option PyData
  | .int i => some (.int (-i))
  | _ => none
theorem opNeg_ok : UnR X (unaryOp .USub) (rD1 (gd X) opNeg) := by
  intro pins s σ H x v Q I rx h
  obtain ⟨E, d1, d, tr, h1, hf, q⟩ := h
  cases d1 with
  | int i =>
    cases h1.int_of; cases hf
    exact un_neg pins s σ H _ v Q I rx ⟨i, rfl, q _ H (Ex.refl H) (.int _)⟩
  | _ => cases hf
/-! ### comparisons -/
def opCI (p : Int → Int → Bool) : PyData → PyData → Option PyData
  | .int i, .int j => some (.bool (p i j))
  | _, _ => none
abbrev opLt := opCI fun i j => decide (i < j)
abbrev opLe := opCI fun i j => decide (i ≤ j)
abbrev opGt := opCI fun i j => decide (j < i)
abbrev opGe := opCI fun i j => decide (j ≤ i)
theorem opCI_ok {f : Value → Value → Sem Value} {p : Int → Int → Bool} (ho : OpR X f (rI0 fun i j => .bl (p i j))) : OpR X f (rD (gd X) (opCI p)) := by
  intro pins s σ H x y v u Q I rx ry h
  obtain ⟨E, d1, d2, d, tr, h1, h2, hf, q⟩ := h
  cases d1 with
  | int i =>
    cases d2 with
    | int j =>
      cases h1.int_of; cases h2.int_of; cases hf
      exact ho pins s σ H _ _ v u Q I rx ry ⟨i, j, rfl, rfl, q _ H (Ex.refl H) (.bl _)⟩
    | _ => cases hf
  | _ => cases hf
theorem opLt_ok : OpR X (compareOp .Lt) (rD (gd X) opLt) := opCI_ok op_lt
theorem opLe_ok : OpR X (compareOp .LtE) (rD (gd X) opLe) := opCI_ok op_le
theorem opGt_ok : OpR X (compareOp .Gt) (rD (gd X) opGt) := opCI_ok op_gt
theorem opGe_ok : OpR X (compareOp .GtE) (rD (gd X) opGe) := opCI_ok op_ge
def opEq (d e : PyData) : Option PyData := if SeqAt.shaped d && SeqAt.shaped e then some (.bool (PyData.eqv d e)) else none
def opNe (d e : PyData) : Option PyData := if SeqAt.shaped d && SeqAt.shaped e then some (.bool (!PyData.eqv d e)) else none
theorem opEq_ok (hu : X.A.units + 64 < cLine) : OpR X (compareOp .Eq) (rD (gd X) opEq) := by
  intro pins s σ H x y v u Q I rx ry h
  obtain ⟨E, d1, d2, d, tr, h1, h2, hf, q⟩ := h
  obtain ⟨c, rfl⟩ := ite_some hf
  obtain ⟨c1, c2⟩ := ba2 c
  exact op_eqD hu pins s σ H x y v u Q I rx ry ⟨d1, d2, h1.dp (SeqAt.canLay_of_shaped c1), h2.dp (SeqAt.canLay_of_shaped c2), c1, c2, q _ H (Ex.refl H) (.bl _)⟩
theorem opNe_ok (hu : X.A.units + 64 < cLine) : OpR X (compareOp .NotEq) (rD (gd X) opNe) := by
  intro pins s σ H x y v u Q I rx ry h
  obtain ⟨E, d1, d2, d, tr, h1, h2, hf, q⟩ := h
  obtain ⟨c, rfl⟩ := ite_some hf
  obtain ⟨c1, c2⟩ := ba2 c
  exact op_neD hu pins s σ H x y v u Q I rx ry ⟨d1, d2, h1.dp (SeqAt.canLay_of_shaped c1), h2.dp (SeqAt.canLay_of_shaped c2), c1, c2, q _ H (Ex.refl H) (.bl _)⟩
def isN : PyData → Bool
  | .none => true
  | _ => false
theorem RelW.isN {g : Gd} {E : Addr → Prop} {H : Hp} {x : V} {d : PyData} (h : RelW g E H x d) : decide (x = .non) = isN d := by
  cases h with
  | of h => cases h <;> simp [Mo.isN]
  | _ => simp [Mo.isN]
def opIs (d e : PyData) : Option PyData := if isN e = true then some (.bool (isN d)) else none
def opIsNot (d e : PyData) : Option PyData := if isN e = true then some (.bool (!isN d)) else none
theorem isN_non {g : Gd} {E : Addr → Prop} {H : Hp} {x : V} {d : PyData} (h : RelW g E H x d) (c : isN d = true) : x = .non := of_decide_eq_true (h.isN.trans c)
theorem opIs_ok : OpR X (compareOp .Is) (rD (gd X) opIs) := by
  intro pins s σ H x y v u Q I rx ry h
  obtain ⟨E, d1, d2, d, tr, h1, h2, hf, q⟩ := h
  obtain ⟨c, rfl⟩ := ite_some hf
  refine op_isN pins s σ H x y v u Q I rx ry ⟨isN_non h2 c, ?_⟩
  rw [h1.isN]
  exact q _ H (Ex.refl H) (.bl _)
theorem opIsNot_ok : OpR X (compareOp .IsNot) (rD (gd X) opIsNot) := by
  intro pins s σ H x y v u Q I rx ry h
  obtain ⟨E, d1, d2, d, tr, h1, h2, hf, q⟩ := h
  obtain ⟨c, rfl⟩ := ite_some hf
  refine op_notN pins s σ H x y v u Q I rx ry ⟨isN_non h2 c, ?_⟩
  rw [h1.isN]
  exact q _ H (Ex.refl H) (.bl _)
/-- flat: none, a bool, an int, a text -/
def flat : PyData → Bool
  | .none => true
  | .bool _ => true
  | .int _ => true
  | .str _ => true
  | _ => false
theorem RelD.flatV {g : Gd} {E : Addr → Prop} {H : Hp} {x : V} {d : PyData} (h : RelD g E H x d) (c : flat d = true) : flatV x = true := by
  cases h <;> first | rfl | (simp [flat] at c)
theorem RelD.eqV {g : Gd} {E E' : Addr → Prop} {H : Hp} {x y : V} {d e : PyData} (h : RelD g E H x d) (h' : RelD g E' H y e) (c : flat d = true) (c' : flat e = true) : eqV x y = PyData.eqv d e := by
  cases h <;> cases h' <;> first | (simp [flat] at c; done) | (simp [flat] at c'; done) | simp [L2.eqV, PyData.eqv]
theorem RelW.flatD {g : Gd} {E : Addr → Prop} {H : Hp} {x : V} {d : PyData} (h : RelW g E H x d) (c : flat d = true) : RelD g E H x d := by
  cases h with
  | of h => exact h
  | _ => simp [flat] at c
theorem RelDs.flatAll {g : Gd} {E : Addr → Prop} {H : Hp} : ∀ {vs : List V} {ds : List PyData}, RelDs g E H vs ds → ds.all flat = true → vs.all L2.flatV = true
  | _, _, .nil, _ => rfl
  | _, _, .cons h t, c => by
    rw [List.all_cons, Bool.and_eq_true] at c
    rw [List.all_cons, h.flatV c.1, RelDs.flatAll t c.2]
    rfl
theorem RelDs.inV {g : Gd} {E E' : Addr → Prop} {H : Hp} {x : V} {d : PyData} (hx : RelD g E' H x d) (cx : flat d = true) : ∀ {vs : List V} {ds : List PyData}, RelDs g E H vs ds → ds.all flat = true → L2.inV x vs = ds.any fun z => PyData.eqv z d
  | _, _, .nil, _ => rfl
  | _, _, .cons h t, c => by
    rw [List.all_cons, Bool.and_eq_true] at c
    have ih := RelDs.inV hx cx t c.2
    unfold L2.inV at ih ⊢
    rw [List.any_cons, List.any_cons, ih, h.eqV hx c.1 cx]
def inD (d : PyData) : PyData → Option Bool
  | .list ds => if SeqAt.shaped d && SeqAt.shaped (.list ds) then some (ds.any fun z => PyData.eqv z d) else none
  | .tuple ds => if flat d && ds.all flat then some (ds.any fun z => PyData.eqv z d) else none
  | _ => none
def opIn (d e : PyData) : Option PyData := (inD d e).map .bool
def opNotIn (d e : PyData) : Option PyData := (inD d e).map fun b => .bool (!b)
theorem opIn_ok (hu : X.A.units + 65 < cLine) : OpR X (compareOp .In) (rD (gd X) opIn) := by
  intro pins s σ H x y v u Q I rx ry h
  obtain ⟨E, d1, d2, d, tr, h1, h2, hf, q⟩ := h
  unfold opIn at hf
  obtain ⟨b, hb, rfl⟩ := Option.map_eq_some_iff.mp hf
  cases d2 with
  | list ds =>
    obtain ⟨c, rfl⟩ := ite_some hb
    obtain ⟨c1, c2⟩ := ba2 c
    exact op_inD hu pins s σ H x y v u Q I rx ry ⟨d1, ds, h1.dp (SeqAt.canLay_of_shaped c1), h2.dp (SeqAt.canLay_of_shaped c2), c1, c2, q _ H (Ex.refl H) (.bl _)⟩
  | tuple ds =>
    obtain ⟨c, rfl⟩ := ite_some hb
    obtain ⟨c1, c2⟩ := ba2 c
    obtain ⟨a, xs, rfl, sa, ra⟩ := h2.tup_of
    have hx := h1.flatD c1
    refine op_in_seq pins s σ H x _ v u Q I rx ry ⟨a, xs, rfl, .inr sa, hx.flatV c1, ra.flatAll c2, ?_⟩
    rw [ra.inV hx c1 c2]
    exact q _ H (Ex.refl H) (.bl _)
  | _ => cases hb
theorem opNotIn_ok (hu : X.A.units + 65 < cLine) : OpR X (compareOp .NotIn) (rD (gd X) opNotIn) := by
  intro pins s σ H x y v u Q I rx ry h
  obtain ⟨E, d1, d2, d, tr, h1, h2, hf, q⟩ := h
  unfold opNotIn at hf
  obtain ⟨b, hb, rfl⟩ := Option.map_eq_some_iff.mp hf
  cases d2 with
  | list ds =>
    obtain ⟨c, rfl⟩ := ite_some hb
    obtain ⟨c1, c2⟩ := ba2 c
    exact op_notInD hu pins s σ H x y v u Q I rx ry ⟨d1, ds, h1.dp (SeqAt.canLay_of_shaped c1), h2.dp (SeqAt.canLay_of_shaped c2), c1, c2, q _ H (Ex.refl H) (.bl _)⟩
  | tuple ds =>
    obtain ⟨c, rfl⟩ := ite_some hb
    obtain ⟨c1, c2⟩ := ba2 c
    obtain ⟨a, xs, rfl, sa, ra⟩ := h2.tup_of
    have hx := h1.flatD c1
    refine op_notIn_seq pins s σ H x _ v u Q I rx ry ⟨a, xs, rfl, .inr sa, hx.flatV c1, ra.flatAll c2, ?_⟩
    rw [ra.inV hx c1 c2]
    exact q _ H (Ex.refl H) (.bl _)
  | _ => cases hb
/-! ### subscripts -/
def opIx : PyData → PyData → Option PyData
  | .list xs, .int i => atI xs i
  | .tuple xs, .int i => atI xs i
  | .str x, .int i => if szOk x.length = true then (atI x.cps.toList i).map fun c => .str ⟨#[c]⟩ else none
  | _, _ => none
theorem RelDs.at {g : Gd} {E : Addr → Prop} {H : Hp} {vs : List V} {ds : List PyData} {i : Int} {d : PyData} (h : RelDs g E H vs ds) (e : atI ds i = some d) : ∃ v, atI vs i = some v ∧ RelD g E H v d := by
  unfold atI at e ⊢
  rw [h.length]
  obtain ⟨j, h1, h2⟩ := Option.bind_eq_some_iff.mp e
  obtain ⟨v, e1, r⟩ := h.get h2
  exact ⟨v, by rw [h1]; exact e1, r⟩
theorem opIx_ok : IxR X (rD (gd X) opIx) := by
  intro value slice pins s σ H x y v u Q I rx ry h hs
  obtain ⟨E, d1, d2, d, tr, h1, h2, hf, q⟩ := h
  cases d1 with
  | list xs =>
    cases d2 with
    | int i =>
      obtain ⟨a, vs, rfl, sa, ra⟩ := h1.lst_of
      cases h2.int_of
      obtain ⟨z, e1, r⟩ := ra.at hf
      exact ix_list value slice pins s σ H _ _ v u Q I rx ry ⟨a, vs, i, z, rfl, rfl, sa, e1, q _ H (Ex.refl H) r⟩ hs
    | _ => cases hf
  | tuple xs =>
    cases d2 with
    | int i =>
      obtain ⟨a, vs, rfl, sa, ra⟩ := h1.tup_of
      cases h2.int_of
      obtain ⟨z, e1, r⟩ := ra.at hf
      exact ix_tup value slice pins s σ H _ _ v u Q I rx ry ⟨a, vs, i, z, rfl, rfl, sa, e1, q _ H (Ex.refl H) r⟩ hs
    | _ => cases hf
  | str x =>
    cases d2 with
    | int i =>
      cases h1.str_of; cases h2.int_of
      have hf : (if szOk x.length = true then Option.map (fun c => PyData.str { cps := #[c] }) (atI x.cps.toList i) else none) = some d := hf
      by_cases z : szOk x.length = true
      · rw [if_pos z] at hf
        obtain ⟨c, hc, rfl⟩ := Option.map_eq_some_iff.mp hf
        exact ix_str value slice pins s σ H _ _ v u Q I rx ry ⟨x, i, c, rfl, rfl, szOk_le z, hc, q _ H (Ex.refl H) (.str _)⟩ hs
      · rw [if_neg z] at hf; cases hf
    | _ => cases hf
  | _ => cases hf
/-! ### built-in functions -/
theorem fs1 {g : Gd} {fl : Fl} {E : Addr → Prop} {H : Hp} {vs : List V} {d : PyData} (h : RelFs g fl E H vs [d]) : ∃ v, vs = [v] ∧ RelF g fl E H v d := by
  cases h with | cons r t => cases t; exact ⟨_, rfl, r⟩
theorem fs2 {g : Gd} {fl : Fl} {E : Addr → Prop} {H : Hp} {vs : List V} {d e : PyData} (h : RelFs g fl E H vs [d, e]) : ∃ v w, vs = [v, w] ∧ RelF g fl E H v d ∧ RelF g fl E H w e := by
  cases h with | cons r t => cases t with | cons r2 t => cases t; exact ⟨_, _, rfl, r, r2⟩
def fLen : List PyData → Option PyData
  | [.list xs] => some (.int xs.length)
  | [.tuple xs] => some (.int xs.length)
  | [.str x] => if szOk x.length = true then some (.int x.length) else none
  | _ => none
theorem fLen_ok : CallR X (.builtin "len") (rDs (gd X) fLen) := by
  intro pins s σ H vs us Q I r h
  obtain ⟨E, ds, d, tr, hr, hf, q⟩ := h
  match ds, hf with
  | [.list xs], hf =>
    cases hf
    obtain ⟨v, rfl, hv⟩ := fs1 hr
    obtain ⟨a, ws, rfl, sa, ra⟩ := RelW.lst_of hv
    rw [← ra.length] at q
    exact call_len_seq pins s σ H _ us Q I r ⟨a, ws, rfl, .inl sa, q _ H (Ex.refl H) (.int _)⟩
  | [.tuple xs], hf =>
    cases hf
    obtain ⟨v, rfl, hv⟩ := fs1 hr
    obtain ⟨a, ws, rfl, sa, ra⟩ := RelW.tup_of hv
    rw [← ra.length] at q
    exact call_len_seq pins s σ H _ us Q I r ⟨a, ws, rfl, .inr sa, q _ H (Ex.refl H) (.int _)⟩
  | [.str x], hf =>
    obtain ⟨c, rfl⟩ := ite_some (show (if szOk x.length = true then some (PyData.int x.length) else none) = some d from hf)
    obtain ⟨v, rfl, hv⟩ := fs1 hr
    cases RelW.str_of hv
    exact call_len_str pins s σ H _ us Q I r ⟨x, rfl, szOk_le c, q _ H (Ex.refl H) (.int _)⟩
def fMax2 : List PyData → Option PyData
  | [.int i, .int j] => some (.int (if j > i then j else i))
  | _ => none
def fMin2 : List PyData → Option PyData
  | [.int i, .int j] => some (.int (if j < i then j else i))
  | _ => none
theorem fMax2_ok (hc : X.calm = true) : CallR X (.builtin "max") (rDs (gd X) fMax2) := by
  intro pins s σ H vs us Q I r h
  obtain ⟨E, ds, d, tr, hr, hf, q⟩ := h
  match ds, hf with
  | [.int i, .int j], hf =>
    cases hf
    obtain ⟨v, w, rfl, h1, h2⟩ := fs2 hr
    cases RelW.int_of h1; cases RelW.int_of h2
    exact call_max2 hc pins s σ H _ us Q I r ⟨i, j, rfl, q _ H (Ex.refl H) (.int _)⟩
theorem fMin2_ok (hc : X.calm = true) : CallR X (.builtin "min") (rDs (gd X) fMin2) := by
  intro pins s σ H vs us Q I r h
  obtain ⟨E, ds, d, tr, hr, hf, q⟩ := h
  match ds, hf with
  | [.int i, .int j], hf =>
    cases hf
    obtain ⟨v, w, rfl, h1, h2⟩ := fs2 hr
    cases RelW.int_of h1; cases RelW.int_of h2
    exact call_min2 hc pins s σ H _ us Q I r ⟨i, j, rfl, q _ H (Ex.refl H) (.int _)⟩
def fAbs : List PyData → Option PyData
  | [.int i] => some (.int (if i < 0 then -i else i))
  | _ => none
theorem fAbs_ok : CallR X (.builtin "abs") (rDs (gd X) fAbs) := by
  intro pins s σ H vs us Q I r h
  obtain ⟨E, ds, d, tr, hr, hf, q⟩ := h
  match ds, hf with
  | [.int i], hf =>
    cases hf
    obtain ⟨v, rfl, h1⟩ := fs1 hr
    cases RelW.int_of h1
    exact call_abs pins s σ H _ us Q I r ⟨i, rfl, q _ H (Ex.refl H) (.int _)⟩
def fDivmod : List PyData → Option PyData
  | [.int i, .int j] => if decide (0 < j) && decide (j < 1073741824) then some (.tuple [.int (i / j), .int (i % j)]) else none
  | _ => none
theorem fDivmod_ok : CallR X (.builtin "divmod") (rDs (gd X) fDivmod) := by
  intro pins s σ H vs us Q I r h
  obtain ⟨E, ds, d, tr, hr, hf, q⟩ := h
  match ds, hf with
  | [.int i, .int j], hf =>
    obtain ⟨c, rfl⟩ := ite_some hf
    obtain ⟨c1, c2⟩ := ba2 c
    obtain ⟨v, w, rfl, h1, h2⟩ := fs2 hr
    cases RelW.int_of h1; cases RelW.int_of h2
    exact call_divmodN pins s σ H _ us Q I r ⟨i, j, rfl, ⟨of_decide_eq_true c1, PyProof.noPylong_small (by have := of_decide_eq_true c1; have := of_decide_eq_true c2; omega)⟩, fun ws p n => q _ _ (Ex.new n) (new_tup n (.cons (.int _) (.cons (.int _) .nil)))⟩
def fInt1 : List PyData → Option PyData
  | [.int i] => some (.int i)
  | [.bool k] => some (.int (if k then 1 else 0))
  | _ => none
theorem fInt1_ok : CallR X (.type "int") (rDs (gd X) fInt1) := by
  intro pins s σ H vs us Q I r h
  obtain ⟨E, ds, d, tr, hr, hf, q⟩ := h
  match ds, hf with
  | [.int i], hf =>
    cases hf
    obtain ⟨v, rfl, h1⟩ := fs1 hr
    cases RelW.int_of h1
    exact call_int1 pins s σ H _ us Q I r (.inl ⟨i, rfl, q _ H (Ex.refl H) (.int _)⟩)
  | [.bool k], hf =>
    cases hf
    obtain ⟨v, rfl, h1⟩ := fs1 hr
    cases RelW.bl_of h1
    exact call_int1 pins s σ H _ us Q I r (.inr ⟨k, rfl, q _ H (Ex.refl H) (.int _)⟩)
/-- ints of data -/
def ints? : List PyData → Option (List Int)
  | [] => some []
  | .int i :: r => (ints? r).map (i :: ·)
  | _ :: _ => none
theorem ints_eq : ∀ {ds : List PyData} {ns : List Int}, ints? ds = some ns → ds = ns.map .int
  | [], _, h => by cases h; rfl
  | .int i :: r, ns, h => by
    obtain ⟨m, h1, rfl⟩ := Option.map_eq_some_iff.mp (show (ints? r).map (i :: ·) = some ns from h)
    rw [List.map_cons, ints_eq h1]
theorem RelDs.ints {g : Gd} {E : Addr → Prop} {H : Hp} : ∀ {vs : List V} {ns : List Int}, RelDs g E H vs (ns.map .int) → vs = ns.map V.int
  | _, [], .nil => rfl
  | _, n :: ns, .cons h t => by
    cases h
    rw [List.map_cons, RelDs.ints t]
def fSum : List PyData → Option PyData
  | [.list xs] => (ints? xs).map fun ns => .int ns.sum
  | _ => none
theorem fSum_ok (hc : X.calm = true) : CallR X (.builtin "sum") (rDs (gd X) fSum) := by
  intro pins s σ H vs us Q I r h
  obtain ⟨E, ds, d, tr, hr, hf, q⟩ := h
  match ds, hf with
  | [.list xs], hf =>
    obtain ⟨ns, hn, rfl⟩ := Option.map_eq_some_iff.mp (show (ints? xs).map (fun ns => PyData.int ns.sum) = some d from hf)
    obtain ⟨v, rfl, hv⟩ := fs1 hr
    obtain ⟨a, ws, rfl, sa, ra⟩ := RelW.lst_of hv
    rw [ints_eq hn] at ra
    rw [ra.ints] at sa
    exact cr_sum hc pins s σ H _ us Q I r ⟨a, ns, rfl, sa, q _ H (Ex.refl H) (.int _)⟩
def bools? : List PyData → Option (List Bool)
  | [] => some []
  | .bool i :: r => (bools? r).map (i :: ·)
  | _ :: _ => none
theorem bools_eq : ∀ {ds : List PyData} {ns : List Bool}, bools? ds = some ns → ds = ns.map .bool
  | [], _, h => by cases h; rfl
  | .bool i :: r, ns, h => by
    obtain ⟨m, h1, rfl⟩ := Option.map_eq_some_iff.mp (show (bools? r).map (i :: ·) = some ns from h)
    rw [List.map_cons, bools_eq h1]
theorem RelDs.bools {g : Gd} {E : Addr → Prop} {H : Hp} : ∀ {vs : List V} {ns : List Bool}, RelDs g E H vs (ns.map .bool) → vs = ns.map V.bl
  | _, [], .nil => rfl
  | _, n :: ns, .cons h t => by
    cases h
    rw [List.map_cons, RelDs.bools t]
def fAny : List PyData → Option PyData
  | [.list xs] => (bools? xs).map fun ns => .bool (ns.any id)
  | _ => none
def fAll : List PyData → Option PyData
  | [.list xs] => (bools? xs).map fun ns => .bool (ns.all id)
  | _ => none
theorem fAny_ok (hc : X.calm = true) : CallR X (.builtin "any") (rDs (gd X) fAny) := by
  intro pins s σ H vs us Q I r h
  obtain ⟨E, ds, d, tr, hr, hf, q⟩ := h
  match ds, hf with
  | [.list xs], hf =>
    obtain ⟨ns, hn, rfl⟩ := Option.map_eq_some_iff.mp (show (bools? xs).map (fun ns => PyData.bool (ns.any id)) = some d from hf)
    obtain ⟨v, rfl, hv⟩ := fs1 hr
    obtain ⟨a, ws, rfl, sa, ra⟩ := RelW.lst_of hv
    rw [bools_eq hn] at ra
    rw [ra.bools] at sa
    exact cr_any hc pins s σ H _ us Q I r ⟨a, ns, rfl, sa, q _ H (Ex.refl H) (.bl _)⟩
theorem fAll_ok (hc : X.calm = true) : CallR X (.builtin "all") (rDs (gd X) fAll) := by
  intro pins s σ H vs us Q I r h
  obtain ⟨E, ds, d, tr, hr, hf, q⟩ := h
  match ds, hf with
  | [.list xs], hf =>
    obtain ⟨ns, hn, rfl⟩ := Option.map_eq_some_iff.mp (show (bools? xs).map (fun ns => PyData.bool (ns.all id)) = some d from hf)
    obtain ⟨v, rfl, hv⟩ := fs1 hr
    obtain ⟨a, ws, rfl, sa, ra⟩ := RelW.lst_of hv
    rw [bools_eq hn] at ra
    rw [ra.bools] at sa
    exact cr_all hc pins s σ H _ us Q I r ⟨a, ns, rfl, sa, q _ H (Ex.refl H) (.bl _)⟩
/-- tuple(x), list(x) of a list or a tuple -/
def fTuple : List PyData → Option PyData
  | [.list xs] => some (.tuple xs)
  | [.tuple xs] => some (.tuple xs)
  | _ => none
def fList : List PyData → Option PyData
  | [.list xs] => some (.list xs)
  | [.tuple xs] => some (.list xs)
  | _ => none
theorem fTuple_ok : CallR X (.type "tuple") (rDs (gd X) fTuple) := by
  intro pins s σ H vs us Q I r h
  obtain ⟨E, ds, d, tr, hr, hf, q⟩ := h
  match ds, hf with
  | [.list xs], hf =>
    cases hf
    obtain ⟨v, rfl, hv⟩ := fs1 hr
    obtain ⟨a, ws, rfl, sa, ra⟩ := RelW.lst_of hv
    exact callT_of pins s σ H _ us Q I r ⟨a, ws, rfl, .inl ⟨sa, fun _ l n => q _ _ (Ex.new n) (new_tup n ra)⟩⟩
  | [.tuple xs], hf =>
    cases hf
    obtain ⟨v, rfl, hv⟩ := fs1 hr
    have hv' := RelW.tup hv
    obtain ⟨a, ws, rfl, sa, ra⟩ := RelW.tup_of hv
    exact callT_of pins s σ H _ us Q I r ⟨a, ws, rfl, .inr ⟨sa, q _ _ (Ex.refl H) hv'⟩⟩
theorem fList_ok : CallR X (.type "list") (rDF (gd X) fList) := by
  intro pins s σ H vs us Q I r h
  obtain ⟨E, ds, d, tr, hr, hf, q⟩ := h
  match ds, hf with
  | [.list xs], hf =>
    cases hf
    obtain ⟨v, rfl, hv⟩ := fs1 hr
    obtain ⟨a, ws, rfl, sa, ra⟩ := RelW.lst_of hv
    exact call_list_of pins s σ H _ us Q I r ⟨a, ws, rfl, .inl sa, fun l n => q l _ (Ex.new n) n (own_lst n ra)⟩
  | [.tuple xs], hf =>
    cases hf
    obtain ⟨v, rfl, hv⟩ := fs1 hr
    obtain ⟨a, ws, rfl, sa, ra⟩ := RelW.tup_of hv
    exact call_list_of pins s σ H _ us Q I r ⟨a, ws, rfl, .inr sa, fun l n => q l _ (Ex.new n) n (own_lst n ra)⟩
end
end Mo

/-! MoF: what is walked; comprehensions. -/
namespace Mo
open PySem PySem.Spec PyProof.Rows L2
/-! ### what is walked -/
abbrev MI := Env' → Res (List PyData × Env')
/-- the iterator J yields the items, as long as the sources stand for the data -/
def ItOk (g : Gd) (fl : Fl) (J : It) (items : List PyData) (vs : List V) (ds : List PyData) : Prop :=
  ∀ (E : Addr → Prop) (H' : Hp), (∀ a, E a → (H' a).isSome = true) → RelFs g fl E H' vs ds →
    (∀ i d, items[i]? = some d → J.go i H' ∧ ∀ x H2, J.yld i H' x H2 → Ex H' H2 ∧ RelD g E H2 x d) ∧ J.stop items.length H'
def tI (g : Gd) (W : WX) (fl : Fl) (p : Bool) (m : MI) : TI := fun σ H R => ∃ B G, Sta g B G σ H ∧ match m G with
  | .ok (items, G') => ∀ J vs ds H', Post g B p G G' σ H H' → RelFs g fl (Ow B G' σ) H' vs ds → ItOk g fl J items vs ds → R J H'
  | .exc x G' => ∀ cls dx H', Post g B false G G' σ H H' → ExcAt g (Ow B G' σ) H' x cls dx → W cls dx σ H'
  | .bad => False
def iSeqD (m : M) : MI := fun G => match m G with
  | .ok (.list ds, G1) => .ok (ds, G1)
  | .ok (.tuple ds, G1) => .ok (ds, G1)
  | .ok _ => .bad
  | .exc x G1 => .exc x G1
  | .bad => .bad
def iSeq (K : PySem.W.Frag) (tl : TE) : TI := fun σ H R => tl σ H fun x H1 => ∃ a, x = .ref a ∧ ((∃ xs, SqL K H1 a xs ∧ R (Itl K a) H1) ∨ ∃ xs, SqT K H1 a xs ∧ R (Itt K a) H1)
theorem pi_seq {X : Cx} {tg l : Expr} {tl : TE} (hl : PE X l tl) : PI X tg l (iSeq X.K tl) := by
  refine ⟨fun pins s σ H R I h => thn (hl.run pins s σ H _ I h) ?_⟩
  rintro v s1 ⟨x, H1, I1, r1, a, rfl, c⟩
  cases r1
  rcases c with ⟨xs, hq, q⟩ | ⟨xs, hq, q⟩
  · obtain ⟨its, rv, p, _⟩ := I1.list hq
    refine wpAny_pyIter_list p.isList (pi_one I1 _ (turn_list a _) ⟨_, Heap.get?_push_size _ rfl, rfl, rfl⟩ q)
  · obtain ⟨its, rv, p, _⟩ := I1.tuple hq
    refine wpAny_pyIter_tuple (show s1.heap.IsTuple a its.toArray from p) (pi_one I1 _ (turn_tuple a _) ⟨_, Heap.get?_push_size _ rfl, rfl, rfl⟩ q)
theorem itOk_list {g : Gd} {fl : Fl} {a : Addr} {ds : List PyData} : ItOk g fl (Itl g.K a) ds [.ref a] [.list ds] := by
  intro E H' tr h
  obtain ⟨v, e, hv⟩ := fs1 h
  cases e
  obtain ⟨b, xs, e, sb, rb⟩ := RelW.lst_of hv.w
  cases e
  refine ⟨fun i d hi => ?_, ⟨xs, sb, by rw [rb.length]; exact Nat.le_refl _⟩⟩
  obtain ⟨v, h1, r⟩ := rb.get hi
  refine ⟨⟨xs, v, sb, h1⟩, fun x H2 ⟨e, q⟩ => ?_⟩
  subst e
  have := q xs sb
  rw [h1] at this
  cases this
  exact ⟨Ex.refl _, r⟩
theorem itOk_tup {g : Gd} {fl : Fl} {a : Addr} {ds : List PyData} : ItOk g fl (Itt g.K a) ds [.ref a] [.tuple ds] := by
  intro E H' tr h
  obtain ⟨v, e, hv⟩ := fs1 h
  cases e
  obtain ⟨b, xs, e, sb, rb⟩ := RelW.tup_of hv.w
  cases e
  refine ⟨fun i d hi => ?_, ⟨xs, sb, by rw [rb.length]; exact Nat.le_refl _⟩⟩
  obtain ⟨v, h1, r⟩ := rb.get hi
  refine ⟨⟨xs, v, sb, h1⟩, fun x H2 ⟨e, q⟩ => ?_⟩
  subst e
  have := q xs sb
  rw [h1] at this
  cases this
  exact ⟨Ex.refl _, r⟩
theorem ii_seq {X : Cx} {W : WX} {fl : Fl} {p : Bool} {m : M} {tg l : Expr} (h : PE X l (tE (gd X) W fl p m)) : PI X tg l (tI (gd X) W fl p (iSeqD m)) := (pi_seq h).imp fun σ H R h => by
  obtain ⟨B, G, S, h⟩ := h
  refine ⟨B, G, S, ?_⟩
  unfold iSeqD at h
  cases h1 : m G with
  | bad => rw [h1] at h; exact h.elim
  | exc x G1 => rw [h1] at h; exact h
  | ok r1 =>
    obtain ⟨d1, G1⟩ := r1
    rw [h1] at h
    intro x H1 P1 R1
    cases d1 with
    | list ds =>
      obtain ⟨a, xs, rfl, sa, ra⟩ := R1.w.lst_of
      exact ⟨a, rfl, .inl ⟨xs, sa, h _ _ _ H1 P1 (.cons R1 .nil) itOk_list⟩⟩
    | tuple ds =>
      obtain ⟨a, xs, rfl, sa, ra⟩ := R1.w.tup_of
      exact ⟨a, rfl, .inr ⟨xs, sa, h _ _ _ H1 P1 (.cons R1 .nil) itOk_tup⟩⟩
    | _ => exact h.elim
/-- lo, lo + 1, .. -/
def rangeD (lo : Int) (n : Nat) : List PyData := (List.range n).map fun i => .int (lo + (i : Nat))
theorem itOk_range {g : Gd} {fl : Fl} {lo : Int} {n : Nat} : ItOk g fl (Itr lo n) (rangeD lo n) [] [] := by
  intro E H' tr h
  have hl : (rangeD lo n).length = n := by simp [rangeD]
  refine ⟨fun i d hi => ?_, by rw [hl]; exact Nat.le_refl _⟩
  have hn : i < n := by
    have := (List.getElem?_eq_some_iff.mp hi).1
    rwa [hl] at this
  have e : d = .int (lo + (i : Nat)) := by
    unfold rangeD at hi
    rw [List.getElem?_map, List.getElem?_range hn] at hi
    exact (Option.some.inj hi).symm
  subst e
  refine ⟨hn, fun x H2 ⟨e1, e2⟩ => ?_⟩
  subst e1 e2
  exact ⟨Ex.refl _, .int _⟩
def smallI (i : Int) : Bool := decide (-1000000000000 < i) && decide (i < 1000000000000)
def iRange1 (a : MA) : MI := fun G => match a G with
  | .ok ([.int j], G1) => if smallI j = true then .ok (rangeD 0 j.toNat, G1) else .bad
  | .ok _ => .bad
  | .exc x G1 => .exc x G1
  | .bad => .bad
def iRange2 (a : MA) : MI := fun G => match a G with
  | .ok ([.int i, .int j], G1) => if smallI i && smallI j then .ok (rangeD i (j - i).toNat, G1) else .bad
  | .ok _ => .bad
  | .exc x G1 => .exc x G1
  | .bad => .bad
theorem smallI_of {i : Int} (h : smallI i = true) : -(2 ^ 62) ≤ i ∧ i < 2 ^ 62 := by
  obtain ⟨a, b⟩ := ba2 h
  have a := of_decide_eq_true a
  have b := of_decide_eq_true b
  omega
section
variable {X : Cx} {W : WX} {fl : Fl} {p : Bool} {ma : MA} {tg a b : Expr} {q pos : Pos}
theorem ii_range1 (hg : Gl X "range") (hm : X.mg "range" = none) (ha : PA X [a] (tA (gd X) W fl p ma)) (hs : starEach [a] X.env = [(false, eval a X.env)] := by rfl) : PI X tg (.Call (.Name "range" q) [a] [] pos) (tI (gd X) W .s p (iRange1 ma)) :=
  (pi_range1 hg hm ha hs).imp fun σ H R h => by
  obtain ⟨B, G, S, h⟩ := h
  refine ⟨B, G, S, ?_⟩
  unfold iRange1 at h
  cases h1 : ma G with
  | bad => rw [h1] at h; exact h.elim
  | exc x G1 => rw [h1] at h; exact h
  | ok r1 =>
    obtain ⟨ds, G1⟩ := r1
    rw [h1] at h
    intro vs H1 P1 R1
    match ds, h with
    | [.int j], h =>
      dsimp only at h
      by_cases z : smallI j = true
      · rw [if_pos z] at h
        obtain ⟨v, rfl, hv⟩ := fs1 R1
        cases hv.w.int_of
        exact ⟨j, rfl, (smallI_of z).1, (smallI_of z).2, h _ _ _ H1 P1 .nil itOk_range⟩
      · rw [if_neg z] at h; exact h.elim
theorem ii_range2 (hg : Gl X "range") (hm : X.mg "range" = none) (ha : PA X [a, b] (tA (gd X) W fl p ma)) (hs : starEach [a, b] X.env = [(false, eval a X.env), (false, eval b X.env)] := by rfl) (hs2 : starEach [b] X.env = [(false, eval b X.env)] := by rfl) :
    PI X tg (.Call (.Name "range" q) [a, b] [] pos) (tI (gd X) W .s p (iRange2 ma)) :=
  (pi_range2 hg hm ha hs hs2).imp fun σ H R h => by
  obtain ⟨B, G, S, h⟩ := h
  refine ⟨B, G, S, ?_⟩
  unfold iRange2 at h
  cases h1 : ma G with
  | bad => rw [h1] at h; exact h.elim
  | exc x G1 => rw [h1] at h; exact h
  | ok r1 =>
    obtain ⟨ds, G1⟩ := r1
    rw [h1] at h
    intro vs H1 P1 R1
    match ds, h with
    | [.int i, .int j], h =>
      dsimp only at h
      by_cases z : (smallI i && smallI j) = true
      · rw [if_pos z] at h
        obtain ⟨v, w, rfl, h1, h2⟩ := fs2 R1
        cases h1.w.int_of; cases h2.w.int_of
        obtain ⟨z1, z2⟩ := ba2 z
        exact ⟨i, j, rfl, ⟨(smallI_of z1).1, (smallI_of z1).2, (smallI_of z2).1, (smallI_of z2).2⟩, h _ _ _ H1 P1 .nil itOk_range⟩
      · rw [if_neg z] at h; exact h.elim
end
/-! ### enumerate -/
def enumD (n : Int) : List PyData → List PyData
  | [] => []
  | d :: ds => .tuple [.int n, d] :: enumD (n + 1) ds
theorem enumD_get : ∀ (n : Int) (ds : List PyData) (i : Nat) (d : PyData), (enumD n ds)[i]? = some d → ∃ e, ds[i]? = some e ∧ d = .tuple [.int (n + (i : Nat)), e]
  | _, [], _, _, h => by simp [enumD] at h
  | n, e :: ds, 0, d, h => by
    simp [enumD] at h
    exact ⟨e, by simp, by simp [h]⟩
  | n, e :: ds, i + 1, d, h => by
    obtain ⟨e', h1, h2⟩ := enumD_get (n + 1) ds i d (by simpa [enumD] using h)
    refine ⟨e', by simpa using h1, ?_⟩
    rw [h2]
    have : n + 1 + (i : Int) = n + ((i + 1 : Nat) : Int) := by omega
    rw [this]
theorem enumD_len : ∀ (n : Int) (ds : List PyData), (enumD n ds).length = ds.length
  | _, [] => rfl
  | n, _ :: ds => congrArg Nat.succ (enumD_len (n + 1) ds)
def iEnumD (a : MA) : MI := fun G => match a G with
  | .ok ([.list ds], G1) => .ok (enumD 0 ds, G1)
  | .ok _ => .bad
  | .exc x G1 => .exc x G1
  | .bad => .bad
theorem itOk_enum {g : Gd} {fl : Fl} {a : Addr} {ds : List PyData} : ItOk g fl (IteN g.K a) (enumD 0 ds) [.ref a] [.list ds] := by
  intro E H' tr h
  obtain ⟨v, e, hv⟩ := fs1 h
  cases e
  obtain ⟨b, xs, e, sb, rb⟩ := RelW.lst_of hv.w
  cases e
  refine ⟨fun i d hi => ?_, ⟨xs, sb, by rw [rb.length, enumD_len]; exact Nat.le_refl _⟩⟩
  obtain ⟨e, he, rfl⟩ := enumD_get 0 ds i d hi
  obtain ⟨v, h1, r⟩ := rb.get he
  refine ⟨⟨xs, v, sb, h1⟩, fun x H2 ⟨us, T, y, e1, nT, e2, q⟩ => ?_⟩
  subst e1 e2
  have := q xs sb
  rw [h1] at this
  cases this
  refine ⟨Ex.new nT, new_tup nT (.cons ?_ (.cons r .nil))⟩
  rw [Int.zero_add]
  exact .int _
theorem ii_enum {X : Cx} {W : WX} {fl : Fl} {p : Bool} {ma : MA} {e : Expr} {q pos tpos : Pos} {elts : List Expr} {kk : Nat} (hg : Gl X "enumerate") (hm : X.mg "enumerate" = none) (ha : PA X [e] (tA (gd X) W fl p ma)) (hs : starEach [e] X.env = [(false, eval e X.env)] := by rfl) :
    PI X (.Tuple elts kk tpos) (.Call (.Name "enumerate" q) [e] [] pos) (tI (gd X) W fl p (iEnumD ma)) := (pi_enumN hg hm ha hs).imp fun σ H R h => by
  obtain ⟨B, G, S, h⟩ := h
  refine ⟨B, G, S, ?_⟩
  unfold iEnumD at h
  cases h1 : ma G with
  | bad => rw [h1] at h; exact h.elim
  | exc x G1 => rw [h1] at h; exact h
  | ok r1 =>
    obtain ⟨ds, G1⟩ := r1
    rw [h1] at h
    intro vs H1 P1 R1
    match ds, h with
    | [.list ds], h =>
      obtain ⟨v, rfl, hv⟩ := fs1 R1
      obtain ⟨a, xs, rfl, sa, ra⟩ := hv.w.lst_of
      exact ⟨a, xs, rfl, sa, h _ _ _ H1 P1 R1 itOk_enum⟩
/-! ### what a statement, a store leaves -/
structure PostS (g : Gd) (B : Bs) (G G' : Env') (σ σ' : L2.St) (H H' : Hp) : Prop where
  sta : Sta g B G' σ' H'
  pres : ∀ v d, RelD g (Ow B G σ) H v d → RelD g (Ow B G' σ') H' v d
  kpE : ∀ a o, B.E a → H a = some o → H' a = some o
  lnt : ∀ (i : Nat), (∃ d, G'[i]? = some (.lent d)) ↔ (∃ d, G[i]? = some (.lent d))
  dom : ∀ a, (H a).isSome = true → (H' a).isSome = true
section
variable {g : Gd} {B : Bs} {G G' G1 G2 : Env'} {σ σ' σ1 σ2 : L2.St} {H H' H1 H2 : Hp}
theorem Post.s {p : Bool} (P : Post g B p G G' σ H H') : PostS g B G G' σ σ H H' := ⟨P.sta, P.pres, P.kpE, P.lnt, P.dom⟩
theorem PostS.refl (S : Sta g B G σ H) : PostS g B G G σ σ H H := (Post.refl (p := true) S).s
theorem PostS.trans (a : PostS g B G G1 σ σ1 H H1) (b : PostS g B G1 G2 σ1 σ2 H1 H2) : PostS g B G G2 σ σ2 H H2 :=
  ⟨b.sta, fun v d h => b.pres v d (a.pres v d h), fun x o h e => b.kpE x o h (a.kpE x o h e), fun i => (b.lnt i).trans (a.lnt i), fun x h => b.dom x (a.dom x h)⟩
/-- a plain value is stored in a slot that is none of the caller's -/
theorem Sta.store {j : Nat} {v : V} {d : PyData} (S : Sta g B G σ H) (r : RelD g (Ow B G σ) H v d) (hj : j < G.length) (nl : ∀ e, G[j]? ≠ some (.lent e)) : PostS g B G (G.set j (.val d)) σ (σ.set j (some v)) H H := by
  have hj' : j < σ.length := by rw [← S.len]; exact hj
  have gj : (G.set j (.val d))[j]? = some (.val d) := by rw [List.getElem?_set_self hj]
  have sub : ∀ b, Own (G.set j (.val d)) (σ.set j (some v)) b → Own G σ b := by
    rintro b ⟨i, e, c, s⟩
    by_cases q : i = j
    · subst q
      rw [gj] at c
      rcases c with c | c <;> cases c
    · rw [set_other q] at c s
      exact ⟨i, e, c, s⟩
  have subO : ∀ b, Ow B (G.set j (.val d)) (σ.set j (some v)) b → Ow B G σ b := fun b q => q.elim .inl fun q => .inr (sub b q)
  have lnt : ∀ (i : Nat), (∃ e, (G.set j (.val d))[i]? = some (.lent e)) ↔ ∃ e, G[i]? = some (.lent e) := fun i => by
    by_cases q : i = j
    · subst q
      rw [gj]
      exact ⟨fun ⟨e, c⟩ => (nomatch c), fun ⟨e, c⟩ => absurd c (nl e)⟩
    · rw [set_other q]
  refine ⟨⟨by rw [List.length_set, List.length_set]; exact S.len, fun i e hi => ?_, fun i e hi => ?_, fun i e hi => ?_, fun i b hi => ?_, fun j1 j2 b h1 h2 s1 s2 => ?_, fun b u hb nb => ?_, S.etr⟩, fun v e r => r.sub subO, fun b u _ e => e, lnt, fun b q => q⟩
  · by_cases q : i = j
    · subst q
      rw [gj] at hi
      cases hi
      exact ⟨v, by rw [List.getElem?_set_self hj'], r.sub subO⟩
    · rw [set_other q] at hi ⊢
      obtain ⟨u, e1, r1⟩ := S.val i e hi
      exact ⟨u, e1, r1.sub subO⟩
  · have q : i ≠ j := fun q => by subst q; rw [gj] at hi; cases hi
    rw [set_other q] at hi ⊢
    obtain ⟨b, e1, n1, z1, o1⟩ := S.own i e hi
    exact ⟨b, e1, n1, z1, o1.keep (M := fun _ => False) (Ex.refl H).keep (fun _ q => q.elim) (fun _ q => q.elim) (fun b q _ => subO b q) fun q => q⟩
  · have q : i ≠ j := fun q => by subst q; rw [gj] at hi; cases hi
    rw [set_other q] at hi ⊢
    obtain ⟨e1, n1, o1⟩ := S.lent i e hi
    exact ⟨e1, n1, o1.keep (M := fun _ => False) (Ex.refl H).keep (fun _ q => q.elim) (fun _ q => q.elim) (fun b q _ => subO b q) fun q => q⟩
  · have q : i ≠ j := fun q => by subst q; rw [gj] at hi; cases hi
    rw [set_other q] at hi ⊢
    exact S.adr i b hi
  · have nj : ∀ (i : Nat), (∃ e, (G.set j (.val d))[i]? = some (.own e) ∨ (G.set j (.val d))[i]? = some (.lent e)) → i ≠ j := fun i ⟨e, c⟩ q => by
      subst q; rw [gj] at c; rcases c with c | c <;> cases c
    have n1 := nj j1 h1
    have n2 := nj j2 h2
    rw [set_other n1] at h1 s1
    rw [set_other n2] at h2 s2
    exact S.uni j1 j2 b h1 h2 s1 s2
  · exact S.ent b u hb fun ⟨i, e, c, s⟩ => nb (let ⟨e', c'⟩ := (lnt i).mpr ⟨e, c⟩; ⟨i, e', c', s⟩)
end
theorem RelDs.pres {g : Gd} {E E' : Addr → Prop} {H H' : Hp} (f : ∀ v d, RelD g E H v d → RelD g E' H' v d) : ∀ {vs : List V} {ds : List PyData}, RelDs g E H vs ds → RelDs g E' H' vs ds
  | _, _, .nil => .nil
  | _, _, .cons r t => .cons (f _ _ r) (RelDs.pres f t)
/-! ### targets -/
def lentAt (G : Env') (j : Nat) : Bool := match G[j]? with
  | some (.lent _) => true
  | none => true
  | _ => false
def bind1 (j : Nat) (d : PyData) (G : Env') : Option Env' := if lentAt G j = true then none else some (G.set j (.val d))
def bindL : List Nat → List PyData → Env' → Option Env'
  | [], [], G => some G
  | j :: js, d :: ds, G => (bind1 j d G).bind fun G1 => bindL js ds G1
  | _, _, _ => none
def bindT (js : List Nat) (d : PyData) (G : Env') : Option Env' := match d with
  | .tuple ds => bindL js ds G
  | _ => none
abbrev Bd := PyData → Env' → Option Env'
def tG (g : Gd) (js : List Nat) (bd : Bd) : TG := fun v σ H Q => ∃ B G d, Sta g B G σ H ∧ RelD g (Ow B G σ) H v d ∧ match bd d G with
  | some G1 => ∀ σ', PostS g B G G1 σ σ' H H → (∀ i, i ∉ js → σ'[i]? = σ[i]?) → σ'.length = σ.length → Q σ' H
  | none => False
theorem bind1_s {g : Gd} {B : Bs} {G G1 : Env'} {σ : L2.St} {H : Hp} {j : Nat} {d : PyData} {v : V} (S : Sta g B G σ H) (r : RelD g (Ow B G σ) H v d) (h : bind1 j d G = some G1) : PostS g B G G1 σ (σ.set j (some v)) H H := by
  unfold bind1 at h
  by_cases c : lentAt G j = true
  · rw [if_pos c] at h; cases h
  · rw [if_neg c] at h
    cases h
    refine S.store r ?_ fun e q => c ?_
    · cases q : G[j]? with
      | none => exact absurd (by unfold lentAt; rw [q]) c
      | some s => exact (List.getElem?_eq_some_iff.mp q).1
    · unfold lentAt; rw [q]
section
variable {X : Cx} {x : Str} {pos : Pos} {j : Nat}
theorem ig_name (hN : X.N.Nodup) (hi : X.N[j]? = some x := by rfl) (hx : Loc X.env.scope x := by first | exact Or.inl rfl | exact Or.inr rfl) (hf : X.fn x = true ∨ X.env.scope.names.lookup x = some .local := by first | exact .inl rfl | exact .inr rfl | assumption) : PG X (.Name x pos) (tG (gd X) [j] (bind1 j)) :=
  (pg_name hN hi hx hf).imp fun v σ H Q h => by
  obtain ⟨B, G, d, S, r, h⟩ := h
  show Q (σ.set j (some v)) H
  cases hb : bind1 j d G with
  | none => rw [hb] at h; exact h.elim
  | some G1 =>
    rw [hb] at h
    exact h _ (bind1_s S r hb) (fun i hi => set_other (by simpa using hi)) (by simp)
end
/-- several names -/
structure PNs (X : Cx) (ts : List Expr) (js : List Nat) : Prop where
  run : PGs X ts (fun vs σ H Q => vs.length = js.length ∧ Q ((js.zip vs).foldl (fun s p => s.set p.1 (some p.2)) σ) H)
theorem pns_nil {X : Cx} : PNs X [] [] := ⟨⟨fun pins s σ H vs us Q I r h => pgs_nil.run pins s σ H vs us Q I r ⟨List.eq_nil_of_length_eq_zero h.1, by have := h.2; rw [List.zip_nil_left] at this; exact this⟩⟩⟩
theorem pns_cons {X : Cx} {e : Expr} {es : List Expr} {j : Nat} {js : List Nat} (h1 : PG X e (gName j)) (h2 : PNs X es js) (hs : (assignEach (e :: es) X.env).map (·.2) = assign e X.env :: (assignEach es X.env).map (·.2) := by rfl) : PNs X (e :: es) (j :: js) :=
  ⟨⟨fun pins s σ H vs us Q I r h => (pgs_cons h1 h2.run hs).run pins s σ H vs us Q I r (by
    obtain ⟨hl, q⟩ := h
    cases vs with
    | nil => simp at hl
    | cons v vs => exact ⟨v, vs, rfl, by simpa using hl, q⟩)⟩⟩
theorem pn_name {X : Cx} {x : Str} {pos : Pos} {j : Nat} (hN : X.N.Nodup) (hi : X.N[j]? = some x := by rfl) (hx : Loc X.env.scope x := by first | exact Or.inl rfl | exact Or.inr rfl) (hf : X.fn x = true ∨ X.env.scope.names.lookup x = some .local := by first | exact .inl rfl | exact .inr rfl | assumption) : PG X (.Name x pos) (gName j) := pg_name hN hi hx hf
theorem bindL_s {g : Gd} {B : Bs} {H : Hp} : ∀ {js : List Nat} {vs : List V} {ds : List PyData} {G G1 : Env'} {σ : L2.St}, Sta g B G σ H → RelDs g (Ow B G σ) H vs ds → bindL js ds G = some G1 →
    vs.length = js.length ∧ PostS g B G G1 σ ((js.zip vs).foldl (fun s p => s.set p.1 (some p.2)) σ) H H ∧ (∀ i, i ∉ js → ((js.zip vs).foldl (fun s p => s.set p.1 (some p.2)) σ)[i]? = σ[i]?) ∧ ((js.zip vs).foldl (fun s p => s.set p.1 (some p.2)) σ).length = σ.length
  | [], _, _, G, G1, σ, S, .nil, h => by
    cases h
    exact ⟨rfl, .refl S, fun _ _ => rfl, rfl⟩
  | [], _, _, G, G1, σ, S, .cons .., h => by cases h
  | j :: js, _, _, G, G1, σ, S, .nil, h => by cases h
  | j :: js, v :: vs, d :: ds, G, G1, σ, S, .cons r t, h => by
    obtain ⟨G2, h1, h2⟩ := Option.bind_eq_some_iff.mp (show (bind1 j d G).bind (fun G1 => bindL js ds G1) = some G1 from h)
    have P := bind1_s S r h1
    have t' : RelDs g (Ow B G2 (σ.set j (some v))) H vs ds := t.pres P.pres
    obtain ⟨e1, P2, e3, e4⟩ := bindL_s P.sta t' h2
    refine ⟨by simp [e1], P.trans P2, fun i hi => ?_, by
      show (List.foldl _ (σ.set j (some v)) (js.zip vs)).length = _
      rw [e4]; simp⟩
    have n1 : i ≠ j := fun q => hi (q ▸ List.mem_cons_self)
    have n2 : i ∉ js := fun q => hi (List.mem_cons_of_mem _ q)
    show (List.foldl _ (σ.set j (some v)) (js.zip vs))[i]? = _
    rw [e3 i n2, set_other n1]
theorem ig_tup {X : Cx} {es : List Expr} {k : Nat} {pos : Pos} {js : List Nat} (hc : X.calm = true) (h : PNs X es js) (hn : (assignEach es X.env).length = js.length := by rfl) (hst : (assignEach es X.env).findIdx? (·.1) = none := by rfl) : PG X (.Tuple es k pos) (tG (gd X) js (bindT js)) :=
  (pg_tup hc h.run hn hst).imp fun v σ H Q h => by
  obtain ⟨B, G, d, S, r, h⟩ := h
  cases d with
  | tuple ds =>
    cases r with
    | tup sa ra =>
      cases hb : bindT js (.tuple ds) G with
      | none => rw [hb] at h; exact h.elim
      | some G1 =>
        rw [hb] at h
        obtain ⟨e1, P, e3, e4⟩ := bindL_s S ra hb
        exact ⟨_, _, rfl, sa.sq, e1, e1, h _ P e3 e4⟩
  | _ => exact h.elim
end Mo

/-! MoG: list comprehensions. -/
namespace Mo
open PySem PySem.Spec PyProof.Rows L2
def wipeG (G : Env') : List Nat → Env'
  | [] => G
  | v :: vs => (wipeG G vs).set v .un
/-- the slots vs as they stand in G1 -/
def putBack (G1 : Env') : List Nat → Env' → Env'
  | [], G => G
  | v :: vs, G => match G1[v]? with
    | some s => (putBack G1 vs G).set v s
    | none => putBack G1 vs G
def freeV (G : Env') (vs : List Nat) : Bool := vs.all fun i => match G[i]? with
  | some .un => true
  | some (.val _) => true
  | _ => false
def lcLoop (vs : List Nat) (bd : Bd) (tst : MB) (elt : M) : List PyData → Env' → Option (List PyData × Env')
  | [], G => some ([], G)
  | d :: ds, G => match bd d G with
    | none => none
    | some G1 => match tst G1 with
      | .ok (true, G2) => (match elt G2 with
        | .ok (e, G3) => (match lcLoop vs bd tst elt ds (wipeG G3 vs) with
          | some (es, G4) => some (e :: es, G4)
          | none => none)
        | _ => none)
      | .ok (false, G2) => lcLoop vs bd tst elt ds (wipeG G2 vs)
      | _ => none
def mLc (vs : List Nat) (mi : MI) (bd : Bd) (tst : MB) (elt : M) : M := fun G => match mi G with
  | .ok (items, G1) => if freeV G1 vs && szOk (items.length + 1) then (match lcLoop vs bd tst elt items (wipeG G1 vs) with
      | some (es, G2) => .ok (.list es, putBack G1 vs G2)
      | none => .bad) else .bad
  | .exc x G1 => .exc x G1
  | .bad => .bad
theorem wipeG_len (G : Env') : ∀ vs, (wipeG G vs).length = G.length
  | [] => rfl
  | v :: vs => by rw [wipeG, List.length_set, wipeG_len G vs]
theorem wipeG_out {G : Env'} {i : Nat} : ∀ {vs : List Nat}, i ∉ vs → (wipeG G vs)[i]? = G[i]?
  | [], _ => rfl
  | v :: vs, h => by
    rw [wipeG, set_other fun e => h (by rw [e]; exact List.mem_cons_self), wipeG_out fun e => h (List.mem_cons_of_mem _ e)]
theorem wipeG_in {G : Env'} {i : Nat} : ∀ {vs : List Nat}, i ∈ vs → (wipeG G vs)[i]? = none ∨ (wipeG G vs)[i]? = some .un
  | v :: vs, h => by
    by_cases e : i = v
    · subst e
      rw [wipeG]
      by_cases l : i < (wipeG G vs).length
      · exact .inr (List.getElem?_set_self l)
      · exact .inl (List.getElem?_eq_none_iff.mpr (by rw [List.length_set]; omega))
    · rw [wipeG, set_other e]
      exact wipeG_in ((List.mem_cons.mp h).resolve_left e)
theorem putBack_len (G1 : Env') (G : Env') : ∀ vs, (putBack G1 vs G).length = G.length
  | [] => rfl
  | v :: vs => by
    rw [putBack]
    cases G1[v]? with
    | none => exact putBack_len G1 G vs
    | some s => rw [List.length_set]; exact putBack_len G1 G vs
theorem putBack_out {G1 G : Env'} {i : Nat} : ∀ {vs : List Nat}, i ∉ vs → (putBack G1 vs G)[i]? = G[i]?
  | [], _ => rfl
  | v :: vs, h => by
    have h1 : i ≠ v := fun e => h (by rw [e]; exact List.mem_cons_self)
    have h2 : i ∉ vs := fun e => h (List.mem_cons_of_mem _ e)
    rw [putBack]
    cases G1[v]? with
    | none => exact putBack_out h2
    | some s =>
      show ((putBack G1 vs G).set v s)[i]? = _
      rw [set_other h1]; exact putBack_out h2
theorem putBack_in {G1 G : Env'} (hl : G.length = G1.length) {i : Nat} : ∀ {vs : List Nat}, i ∈ vs → (putBack G1 vs G)[i]? = G1[i]?
  | v :: vs, h => by
    rw [putBack]
    by_cases e : i = v
    · subst e
      cases q : G1[i]? with
      | none =>
        show (putBack G1 vs G)[i]? = none
        have := List.getElem?_eq_none_iff.mp q
        exact List.getElem?_eq_none_iff.mpr (by rw [putBack_len, hl]; exact this)
      | some s =>
        show ((putBack G1 vs G).set i s)[i]? = some s
        have := (List.getElem?_eq_some_iff.mp q).1
        rw [List.getElem?_set_self (by rw [putBack_len, hl]; exact this)]
    · have h2 := (List.mem_cons.mp h).resolve_left e
      cases q : G1[v]? with
      | none => exact putBack_in hl h2
      | some s =>
        show ((putBack G1 vs G).set v s)[i]? = _
        rw [set_other e]; exact putBack_in hl h2
theorem putBack_wipe (G : Env') (vs : List Nat) : putBack G vs (wipeG G vs) = G := by
  refine List.ext_getElem? fun i => ?_
  by_cases h : i ∈ vs
  · exact putBack_in (wipeG_len G vs) h
  · rw [putBack_out h, wipeG_out h]
theorem wipe_in {σ : L2.St} {i : Nat} : ∀ {vs : List Nat}, i ∈ vs → i < σ.length → (wipe σ vs)[i]? = some none
  | v :: vs, h, l => by
    by_cases e : i = v
    · subst e
      rw [wipe, List.getElem?_set_self (by rw [wipe_length]; exact l)]
    · rw [wipe, set_other e]
      exact wipe_in ((List.mem_cons.mp h).resolve_left e) l
theorem wipe_eq {σ σ' : L2.St} {vs : List Nat} (hl : σ'.length = σ.length) (h : ∀ i, i ∉ vs → σ'[i]? = σ[i]?) : wipe σ' vs = wipe σ vs := by
  refine List.ext_getElem? fun i => ?_
  by_cases c : i ∈ vs
  · by_cases l : i < σ.length
    · rw [wipe_in c l, wipe_in c (hl ▸ l)]
    · rw [List.getElem?_eq_none_iff.mpr (by rw [wipe_length]; omega), List.getElem?_eq_none_iff.mpr (by rw [wipe_length]; omega)]
  · rw [wipe_out c, wipe_out c]; exact h i c
theorem freeV_at {G : Env'} {vs : List Nat} (h : freeV G vs = true) {i : Nat} (hi : i ∈ vs) : G[i]? = some .un ∨ ∃ d, G[i]? = some (.val d) := by
  have := List.all_eq_true.mp h i hi
  cases q : G[i]? with
  | none => rw [q] at this; cases this
  | some s =>
    rw [q] at this
    cases s with
    | un => exact .inl rfl
    | val d => exact .inr ⟨d, rfl⟩
    | _ => cases this
section
variable {g : Gd} {B : Bs} {G G' : Env'} {σ σ' : L2.St} {H H' : Hp} {vs : List Nat}
/-- neither an object of one's own nor a lent one -/
def Plain (o : Option Sl) : Prop := (∀ d, o ≠ some (.own d)) ∧ (∀ d, o ≠ some (.lent d)) ∧ ∀ a, o ≠ some (.adr a)
theorem Plain.none : Plain none := ⟨fun _ q => (nomatch q), fun _ q => (nomatch q), fun _ q => (nomatch q)⟩
theorem Plain.un : Plain (some .un) := ⟨fun _ q => (nomatch q), fun _ q => (nomatch q), fun _ q => (nomatch q)⟩
theorem Plain.val {d : PyData} : Plain (some (.val d)) := ⟨fun _ q => (nomatch q), fun _ q => (nomatch q), fun _ q => (nomatch q)⟩
/-- the same slots but for plain ones at vs -/
structure SameO (vs : List Nat) (G G' : Env') (σ σ' : L2.St) : Prop where
  lG : G'.length = G.length
  lσ : σ'.length = σ.length
  outG : ∀ i, i ∉ vs → G'[i]? = G[i]?
  outσ : ∀ i, i ∉ vs → σ'[i]? = σ[i]?
  plain : ∀ i ∈ vs, Plain G[i]?
  plain' : ∀ i ∈ vs, Plain G'[i]?
theorem SameO.own (s : SameO vs G G' σ σ') (a : Addr) : Own G' σ' a ↔ Own G σ a := by
  constructor
  · rintro ⟨i, d, c, e⟩
    by_cases q : i ∈ vs
    · rcases c with c | c
      · exact absurd c ((s.plain' i q).1 d)
      · exact absurd c ((s.plain' i q).2.1 d)
    · rw [s.outG i q] at c
      rw [s.outσ i q] at e
      exact ⟨i, d, c, e⟩
  · rintro ⟨i, d, c, e⟩
    by_cases q : i ∈ vs
    · rcases c with c | c
      · exact absurd c ((s.plain i q).1 d)
      · exact absurd c ((s.plain i q).2.1 d)
    · exact ⟨i, d, by rw [s.outG i q]; exact c, by rw [s.outσ i q]; exact e⟩
theorem SameO.ow (s : SameO vs G G' σ σ') (B : Bs) : Ow B G' σ' = Ow B G σ := funext fun a => propext (or_congr Iff.rfl (s.own a))
theorem SameO.lnt (s : SameO vs G G' σ σ') (i : Nat) : (∃ d, G'[i]? = some (.lent d)) ↔ ∃ d, G[i]? = some (.lent d) := by
  by_cases q : i ∈ vs
  · exact ⟨fun ⟨d, c⟩ => absurd c ((s.plain' i q).2.1 d), fun ⟨d, c⟩ => absurd c ((s.plain i q).2.1 d)⟩
  · rw [s.outG i q]
theorem Sta.sameO (S : Sta g B G σ H) (s : SameO vs G G' σ σ') (hv : ∀ i ∈ vs, ∀ d, G'[i]? = some (.val d) → ∃ v, σ'[i]? = some (some v) ∧ RelD g (Ow B G σ) H v d) : Sta g B G' σ' H := by
  refine ⟨by rw [s.lG, s.lσ]; exact S.len, fun i d h => ?_, fun i d h => ?_, fun i d h => ?_, fun i a h => ?_, fun i j a h1 h2 s1 s2 => ?_, fun a o h n => ?_, S.etr⟩
  · rw [s.ow B]
    by_cases q : i ∈ vs
    · exact hv i q d h
    · rw [s.outG i q] at h
      rw [s.outσ i q]
      exact S.val i d h
  · rw [s.ow B]
    by_cases q : i ∈ vs
    · exact absurd h ((s.plain' i q).1 d)
    · rw [s.outG i q] at h
      rw [s.outσ i q]
      exact S.own i d h
  · rw [s.ow B]
    by_cases q : i ∈ vs
    · exact absurd h ((s.plain' i q).2.1 d)
    · rw [s.outG i q] at h
      rw [s.outσ i q]
      exact S.lent i d h
  · by_cases q : i ∈ vs
    · exact absurd h ((s.plain' i q).2.2 a)
    · rw [s.outG i q] at h
      rw [s.outσ i q]
      exact S.adr i a h
  · have back : ∀ (i : Nat), (∃ d, G'[i]? = some (.own d) ∨ G'[i]? = some (.lent d)) → i ∉ vs ∧ ∃ d, G[i]? = some (.own d) ∨ G[i]? = some (.lent d) := fun i ⟨d, c⟩ => by
      by_cases q : i ∈ vs
      · rcases c with c | c
        · exact absurd c ((s.plain' i q).1 d)
        · exact absurd c ((s.plain' i q).2.1 d)
      · rw [s.outG i q] at c
        exact ⟨q, d, c⟩
    obtain ⟨q1, w1⟩ := back i h1
    obtain ⟨q2, w2⟩ := back j h2
    rw [s.outσ i q1] at s1
    rw [s.outσ j q2] at s2
    exact S.uni i j a w1 w2 s1 s2
  · exact S.ent a o h fun ⟨i, d, c, e⟩ => n (let ⟨d', c'⟩ := (s.lnt i).mpr ⟨d, c⟩; ⟨i, d', c', e⟩)
theorem freeV_plain (f : freeV G vs = true) : ∀ i ∈ vs, Plain G[i]? := fun i h => by
  rcases freeV_at f h with e | ⟨d, e⟩
  · rw [e]; exact .un
  · rw [e]; exact .val
theorem wipeG_plain {i : Nat} (h : i ∈ vs) : Plain (wipeG G vs)[i]? := by
  rcases wipeG_in (G := G) h with e | e
  · rw [e]; exact .none
  · rw [e]; exact .un
theorem sameO_wipe (f : ∀ i ∈ vs, Plain G[i]?) : SameO vs G (wipeG G vs) σ (wipe σ vs) where
  lG := wipeG_len G vs
  lσ := wipe_length σ vs
  outG := fun i h => wipeG_out h
  outσ := fun i h => wipe_out h
  plain := f
  plain' := fun i h => wipeG_plain h
theorem Sta.wiped (S : Sta g B G σ H) (f : ∀ i ∈ vs, Plain G[i]?) : Sta g B (wipeG G vs) (wipe σ vs) H := S.sameO (sameO_wipe f) fun i hi d h => by
  rcases wipeG_in (G := G) hi with e | e <;> rw [e] at h <;> cases h
/-- an address that the callers own is written -/
theorem Sta.updE {D : Addr} {xs ys : List V} (S : Sta g B G σ H) (hD : B.E D) (hx : H D = some (.lst xs)) (h0 : B.H0 D = none) : Sta g B G σ (upd H D (.lst ys)) := by
  have kp : Keep (fun b => b = D) H (upd H D (.lst ys)) := fun b u e nb => by rw [upd_ne nb]; exact e
  have hm : ∀ b, b = D → Ch H b := fun b e => by rw [e]; exact .inl ⟨xs, hx⟩
  have hE : ∀ b, b = D → Ow B G σ b := fun b e => by rw [e]; exact .inl hD
  refine ⟨S.len, fun i d h => ?_, fun i d h => ?_, fun i d h => ?_, S.adr, S.uni, fun a o h n => ?_, fun a h => ?_⟩
  · obtain ⟨v, e, r⟩ := S.val i d h
    exact ⟨v, e, r.keep kp hm hE fun _ q _ => q⟩
  · obtain ⟨a, e, n, z, r⟩ := S.own i d h
    exact ⟨a, e, n, z, r.keep kp hm hE (fun _ q _ => q) fun c => n (by rw [c]; exact hD)⟩
  · obtain ⟨e, n, r⟩ := S.lent i d h
    exact ⟨e, n, r.keep kp hm hE (fun _ q _ => q) fun c => n (by rw [c]; exact hD)⟩
  · exact kp a o (S.ent a o h n) fun c => by subst c; rw [h0] at h; cases h
  · by_cases c : a = D
    · subst c; rw [upd_same]; rfl
    · rw [upd_ne c]; exact S.etr a h
/-- fewer addresses are the callers' -/
theorem Sta.less {E' : Addr → Prop} (S : Sta g B G σ H) (h : ∀ a, E' a → B.E a) : Sta g { B with E := E' } G σ H := by
  have sub : ∀ b, Ow { B with E := E' } G σ b → Ow B G σ b := fun b q => q.elim (fun q => .inl (h b q)) .inr
  refine ⟨S.len, fun i d c => ?_, fun i d c => ?_, fun i d c => ?_, S.adr, S.uni, S.ent, fun a q => S.etr a (h a q)⟩
  · obtain ⟨v, e, r⟩ := S.val i d c
    exact ⟨v, e, r.sub sub⟩
  · obtain ⟨a, e, n, z, r⟩ := S.own i d c
    exact ⟨a, e, fun q => n (h a q), z, r.keep (M := fun _ => False) (Ex.refl H).keep (fun _ q => q.elim) (fun _ q => q.elim) (fun b q _ => sub b q) fun q => q⟩
  · obtain ⟨e, n, r⟩ := S.lent i d c
    exact ⟨e, fun q => n (h _ q), r.keep (M := fun _ => False) (Ex.refl H).keep (fun _ q => q.elim) (fun _ q => q.elim) (fun b q _ => sub b q) fun q => q⟩
end
theorem paired_two {α β : Type} {F F' F'' : α → β → Prop} : ∀ {l : List α} {r : List β}, Paired F l r → Paired F' l r → (∀ a b, F a b → F' a b → F'' a b) → Paired F'' l r
  | _, _, .nil, _, _ => .nil
  | _, _, .cons h t, .cons h' t', f => .cons (f _ _ h h') (paired_two t t' f)
/-- no exception leaves a comprehension -/
abbrev W0 : WX := fun _ _ _ _ => False
/-- a target's names are those of the comprehension -/
def BdOk (vs : List Nat) (bd : Bd) : Prop := ∀ d G G', bd d G = some G' → (∀ i, i ∉ vs → G'[i]? = G[i]?) ∧ ∀ i ∈ vs, G'[i]? = G[i]? ∨ ∃ e, G'[i]? = some (.val e)
theorem bdOk1 (j : Nat) : BdOk [j] (bind1 j) := fun d G G' h => by
  unfold bind1 at h
  by_cases c : lentAt G j = true
  · rw [if_pos c] at h; cases h
  · rw [if_neg c] at h
    cases h
    refine ⟨fun i hi => set_other (by simpa using hi), fun i hi => ?_⟩
    have e : i = j := by simpa using hi
    subst e
    by_cases l : i < G.length
    · exact .inr ⟨d, List.getElem?_set_self l⟩
    · exact .inl (by rw [List.getElem?_eq_none_iff.mpr (by rw [List.length_set]; omega), List.getElem?_eq_none_iff.mpr (by omega)])
theorem bdOkL : ∀ (js : List Nat) (ds : List PyData) (G G' : Env'), bindL js ds G = some G' → (∀ i, i ∉ js → G'[i]? = G[i]?) ∧ ∀ i ∈ js, G'[i]? = G[i]? ∨ ∃ e, G'[i]? = some (.val e)
  | [], [], G, G', h => by cases h; exact ⟨fun _ _ => rfl, fun _ q => nomatch q⟩
  | [], _ :: _, _, _, h => by cases h
  | _ :: _, [], _, _, h => by cases h
  | j :: js, d :: ds, G, G', h => by
    obtain ⟨G2, h1, h2⟩ := Option.bind_eq_some_iff.mp (show (bind1 j d G).bind (fun G1 => bindL js ds G1) = some G' from h)
    obtain ⟨a1, a2⟩ := bdOk1 j d G G2 h1
    obtain ⟨b1, b2⟩ := bdOkL js ds G2 G' h2
    refine ⟨fun i hi => ?_, fun i hi => ?_⟩
    · rw [b1 i fun q => hi (List.mem_cons_of_mem _ q), a1 i fun q => hi (by rw [List.mem_singleton.mp q]; exact List.mem_cons_self)]
    · by_cases c : i ∈ js
      · rcases b2 i c with e | e
        · by_cases c2 : i = j
          · rcases a2 i (by rw [c2]; exact List.mem_singleton_self j) with e2 | ⟨d2, e2⟩
            · exact .inl (e.trans e2)
            · exact .inr ⟨d2, e.trans e2⟩
          · exact .inl (e.trans (a1 i fun q => c2 (List.mem_singleton.mp q)))
        · exact .inr e
      · have c2 : i = j := (List.mem_cons.mp hi).resolve_right c
        rw [b1 i c]
        exact a2 i (by rw [c2]; exact List.mem_singleton_self j)
theorem bdOkT (js : List Nat) : BdOk js (bindT js) := fun d G G' h => by
  cases d with
  | tuple ds => exact bdOkL js ds G G' h
  | _ => cases h
/-- what holds behind the turns so far -/
structure LcInv (g : Gd) (B : Bs) (fl : Fl) (p : Bool) (D : Addr) (G1 : Env') (σ : L2.St) (vs : List Nat) (H1 : Hp) (sv : List V) (sd : List PyData) (G : Env') (H : Hp) : Prop where
  sta : Sta g { B with E := fun b => B.E b ∨ b = D } G (wipe σ vs) H
  src : RelFs g fl (Ow { B with E := fun b => B.E b ∨ b = D } G (wipe σ vs)) H sv sd
  pres : ∀ v d, RelD g (Ow B G1 σ) H1 v d → RelD g (Ow { B with E := fun b => B.E b ∨ b = D } G (wipe σ vs)) H v d
  sub : ∀ a, Own G (wipe σ vs) a → Own G1 σ a
  kpE : ∀ a o, B.E a → H1 a = some o → H a = some o
  lnt : ∀ (i : Nat), (∃ d, G[i]? = some (.lent d)) ↔ ∃ d, G1[i]? = some (.lent d)
  dom : ∀ a, (H1 a).isSome = true → (H a).isSome = true
  pur : p = true → G = wipeG G1 vs ∧ Ex H1 H
  pl : ∀ i ∈ vs, Plain G[i]?
  sn : Paired (fun v d => v = V.ref D → RelD g (Ow { B with E := fun b => B.E b ∨ b = D } G (wipe σ vs)) H v d) sv sd
  out : ∀ i, i ∉ vs → ∀ (s : Sl), G1[i]? = some s → (∀ d, s ≠ .own d) → (∀ d, s ≠ .lent d) → G[i]? = some s
section
variable {g : Gd} {B : Bs} {fl : Fl} {p q1 : Bool} {D : Addr} {G1 G G2 G3 : Env'} {σ σ2 : L2.St} {vs : List Nat} {H1 H H2 H3 : Hp} {sv : List V} {sd : List PyData}
/-- one turn's end: the slots of the comprehension's own names are wiped -/
theorem LcInv.step (L : LcInv g B fl p D G1 σ vs H1 sv sd G H) (ex : Ex H H2) (P : PostS g { B with E := fun b => B.E b ∨ b = D } G G2 (wipe σ vs) σ2 H2 H2) (hl : σ2.length = (wipe σ vs).length) (hσ2 : ∀ i, i ∉ vs → σ2[i]? = (wipe σ vs)[i]?)
    (hG2 : ∀ i, i ∉ vs → G2[i]? = G[i]?) (hG2' : ∀ i ∈ vs, Plain G2[i]?) (P3 : Post g { B with E := fun b => B.E b ∨ b = D } q1 G2 G3 σ2 H2 H3) (hp : p = true → q1 = true) (hsrc : fl.isS = true ∨ p = true) :
    LcInv g B fl p D G1 σ vs H1 sv sd (wipeG G3 vs) H3 ∧ wipe σ2 vs = wipe σ vs ∧ (∀ v d, RelD g (Ow { B with E := fun b => B.E b ∨ b = D } G3 σ2) H3 v d → RelD g (Ow { B with E := fun b => B.E b ∨ b = D } (wipeG G3 vs) (wipe σ vs)) H3 v d) ∧
      (∀ v d, RelD g (Ow { B with E := fun b => B.E b ∨ b = D } G (wipe σ vs)) H v d → RelD g (Ow { B with E := fun b => B.E b ∨ b = D } (wipeG G3 vs) (wipe σ vs)) H3 v d) ∧ ∀ o, H D = some o → H3 D = some o := by
  have hσ : wipe σ2 vs = wipe σ vs := by
    have e : wipe (wipe σ vs) vs = wipe σ vs := wipe_eq (wipe_length σ vs) fun i h => wipe_out h
    rw [← e]
    exact wipe_eq hl hσ2
  have pl3 : ∀ i ∈ vs, Plain G3[i]? := fun i h => by
    cases c : G2[i]? with
    | none =>
      have l3 : G3[i]? = none := by
        have := List.getElem?_eq_none_iff.mp c
        exact List.getElem?_eq_none_iff.mpr (by rw [P3.sta.len, ← P.sta.len]; exact this)
      rw [l3]; exact .none
    | some s =>
      obtain ⟨n1, n2, n3⟩ := hG2' i h
      rw [P3.sam i s c (fun d e => n1 d (by rw [c, e])) (fun d e => n2 d (by rw [c, e])), ← c]
      exact ⟨n1, n2, n3⟩
  have so : SameO vs G3 (wipeG G3 vs) σ2 (wipe σ2 vs) := sameO_wipe pl3
  have eo : ∀ B', Ow B' (wipeG G3 vs) (wipe σ vs) = Ow B' G3 σ2 := fun B' => by rw [← hσ]; exact so.ow B'
  have pr : ∀ v d, RelD g (Ow { B with E := fun b => B.E b ∨ b = D } G (wipe σ vs)) H v d → RelD g (Ow { B with E := fun b => B.E b ∨ b = D } (wipeG G3 vs) (wipe σ vs)) H3 v d := fun v d r => by
    rw [eo]
    exact P3.pres v d (P.pres v d (r.ex ex))
  have keepD : ∀ a o, (B.E a ∨ a = D) → H a = some o → H3 a = some o := fun a o h e => P3.kpE a o h (P.kpE a o h (ex a o e))
  have ownSub : ∀ a, Own G3 σ2 a → Own G (wipe σ vs) a := fun a h => by
    obtain ⟨i, d, c, e⟩ := P3.sub a h
    have n : i ∉ vs := fun q => by
      obtain ⟨n1, n2, _⟩ := hG2' i q
      rcases c with c | c
      · exact n1 d c
      · exact n2 d c
    exact ⟨i, d, by rw [← hG2 i n]; exact c, by rw [← hσ2 i n]; exact e⟩
  have lnt : ∀ (i : Nat), (∃ d, (wipeG G3 vs)[i]? = some (.lent d)) ↔ ∃ d, G1[i]? = some (.lent d) := fun i => ((so.lnt i).trans (P3.lnt i)).trans ((P.lnt i).trans (L.lnt i))
  have ow3 : ∀ a, Own (wipeG G3 vs) (wipe σ vs) a → Own G (wipe σ vs) a := fun a h => ownSub a ((by rw [← hσ] at h; exact (so.own a).mp h))
  refine ⟨⟨by rw [← hσ]; exact P3.sta.wiped pl3, ?_, fun v d r => pr v d (L.pres v d r), fun a h => L.sub a (ow3 a h), fun a o h e => keepD a o (.inl h) (L.kpE a o h e), lnt, fun a h => P3.dom a (ex.dom a (L.dom a h)), fun e => ?_, fun i h => wipeG_plain h, Paired.mapP L.sn fun v d f e => pr v d (f e), fun i hi s h n1 n2 => ?_⟩, hσ, fun v d r => by rw [eo]; exact r, pr, fun o h => keepD D o (.inr rfl) h⟩
  · rcases hsrc with c | c
    · cases fl with
      | s => exact Paired.mapP L.src fun v d r => pr v d r
      | v => cases c
    · cases fl with
      | s => exact Paired.mapP L.src fun v d r => pr v d r
      | v =>
        obtain ⟨e1, e2⟩ := P3.pur (hp c)
        have : Ow { B with E := fun b => B.E b ∨ b = D } (wipeG G3 vs) (wipe σ vs) = Ow { B with E := fun b => B.E b ∨ b = D } G (wipe σ vs) := by
          funext a
          refine propext (or_congr Iff.rfl ⟨ow3 a, fun ⟨i, d, c, e⟩ => ?_⟩)
          have n : i ∉ vs := fun q => by
            obtain ⟨n1, n2, _⟩ := L.pl i q
            rcases c with c | c
            · exact n1 d c
            · exact n2 d c
          exact ⟨i, d, by rw [wipeG_out n, e1, hG2 i n]; exact c, e⟩
        rw [this]
        exact Paired.mapP L.src fun v d r => RelW.ex (Ex.trans ex e2) r
  · obtain ⟨e1, e2⟩ := P3.pur (hp e)
    obtain ⟨e3, e4⟩ := L.pur e
    refine ⟨List.ext_getElem? fun i => ?_, Ex.trans e4 (Ex.trans ex e2)⟩
    by_cases c : i ∈ vs
    · have l1 : (wipeG G3 vs).length = (wipeG G1 vs).length := by
        rw [wipeG_len, P3.sta.len, hl, ← e3, L.sta.len]
      rcases wipeG_in (G := G3) c with h | h
      · rw [h]
        have := List.getElem?_eq_none_iff.mp h
        exact (List.getElem?_eq_none_iff.mpr (by omega)).symm
      · rcases wipeG_in (G := G1) c with h' | h'
        · have := List.getElem?_eq_none_iff.mp h'
          rw [List.getElem?_eq_none_iff.mpr (by omega)] at h
          cases h
        · rw [h, h']
    · rw [wipeG_out c, e1, hG2 i c, e3]
  · rw [wipeG_out hi]
    refine P3.sam i s ?_ n1 n2
    rw [hG2 i hi]
    exact L.out i hi s h n1 n2
/-- the list grows -/
theorem LcInv.app {xs ys : List V} (L : LcInv g B fl p D G1 σ vs H1 sv sd G H) (hx : H D = some (.lst xs)) (h0 : B.H0 D = none) (h1 : H1 D = none) : LcInv g B fl p D G1 σ vs H1 sv sd G (upd H D (.lst ys)) ∧
    ∀ v d, RelD g (Ow { B with E := fun b => B.E b ∨ b = D } G (wipe σ vs)) H v d → RelD g (Ow { B with E := fun b => B.E b ∨ b = D } G (wipe σ vs)) (upd H D (.lst ys)) v d := by
  have kp : Keep (fun b => b = D) H (upd H D (.lst ys)) := fun b u e nb => by rw [upd_ne nb]; exact e
  have hm : ∀ b, b = D → Ch H b := fun b e => by rw [e]; exact .inl ⟨xs, hx⟩
  have hE : ∀ b, b = D → Ow { B with E := fun b => B.E b ∨ b = D } G (wipe σ vs) b := fun b e => .inl (.inr e)
  have pr : ∀ v d, RelD g (Ow { B with E := fun b => B.E b ∨ b = D } G (wipe σ vs)) H v d → RelD g (Ow { B with E := fun b => B.E b ∨ b = D } G (wipe σ vs)) (upd H D (.lst ys)) v d := fun v d r => r.keep kp hm hE fun _ q _ => q
  have nD : ∀ a, (H1 a).isSome = true → a ≠ D := fun a h e => by rw [e, h1] at h; cases h
  refine ⟨⟨L.sta.updE (.inr rfl) hx h0, ?_, fun v d r => pr v d (L.pres v d r), L.sub, fun a o h e => ?_, L.lnt, fun a h => ?_, fun e => ⟨(L.pur e).1, fun a o h => ?_⟩, L.pl, Paired.mapP L.sn fun v d f e => pr v d (f e), L.out⟩, pr⟩
  · refine paired_two L.src L.sn fun v d r nv => ?_
    cases fl with
    | s => exact pr v d r
    | v =>
      have r' : RelW g _ H v d := r
      show RelW g _ _ v d
      clear r
      by_cases eD : v = V.ref D
      · exact .of (pr v d (nv eD))
      · cases r' with
        | of r => exact .of (pr _ _ r)
        | lst h hs => exact .lst (keep_rdL kp hm (fun e => eD (by rw [e])) h) (hs.keep kp hm hE fun _ q _ => q)
        | dct h hs => exact .dct (kp _ _ h fun e => eD (by rw [e])) (hs.keep kp hm hE fun _ q _ => q)
        | dck h z hs => exact .dck (kp _ _ h fun e => eD (by rw [e])) z (hs.keep kp hm hE fun _ q _ => q)
  · rw [upd_ne (nD a (by rw [e]; rfl))]
    exact L.kpE a o h e
  · rw [upd_ne (nD a h)]
    exact L.dom a h
  · rw [upd_ne (nD a (by rw [h]; rfl))]
    exact (L.pur e).2 a o h
theorem putBack_so (f : ∀ i ∈ vs, Plain G1[i]?) (hl : G1.length = σ.length) (L : LcInv g B fl p D G1 σ vs H1 sv sd G H) : SameO vs G (putBack G1 vs G) (wipe σ vs) σ where
  lG := putBack_len G1 G vs
  lσ := (wipe_length σ vs).symm
  outG := fun i h => putBack_out h
  outσ := fun i h => (wipe_out h).symm
  plain := L.pl
  plain' := fun i h => by
    have l : G.length = G1.length := by rw [L.sta.len, wipe_length, hl]
    rw [putBack_in l h]; exact f i h
theorem LcInv.done (f : ∀ i ∈ vs, Plain G1[i]?) (S1 : Sta g B G1 σ H1) (n : H1 D = none) (L : LcInv g B fl p D G1 σ vs H1 sv sd G H) : Post g { B with E := fun b => B.E b ∨ b = D } p G1 (putBack G1 vs G) σ H1 H ∧ Post g B p G1 (putBack G1 vs G) σ H1 H := by
  have so := putBack_so f S1.len L
  have l : G.length = G1.length := by rw [L.sta.len, wipe_length, S1.len]
  have e1 : Ow { B with E := fun b => B.E b ∨ b = D } (putBack G1 vs G) σ = Ow { B with E := fun b => B.E b ∨ b = D } G (wipe σ vs) := so.ow _
  have pr : ∀ v d, RelD g (Ow B G1 σ) H1 v d → RelD g (Ow { B with E := fun b => B.E b ∨ b = D } (putBack G1 vs G) σ) H v d := fun v d r => by
    rw [e1]; exact L.pres v d r
  have S2 : Sta g { B with E := fun b => B.E b ∨ b = D } (putBack G1 vs G) σ H := L.sta.sameO so fun i hi d h => by
    rw [putBack_in l hi] at h
    obtain ⟨v, e, r⟩ := S1.val i d h
    exact ⟨v, e, L.pres v d r⟩
  have nD : ∀ a, (H1 a).isSome = true → a ≠ D := fun a h e => by rw [e, n] at h; cases h
  have sam : ∀ (i : Nat) (s : Sl), G1[i]? = some s → (∀ d, s ≠ .own d) → (∀ d, s ≠ .lent d) → (putBack G1 vs G)[i]? = some s := fun i s h n1 n2 => by
    by_cases c : i ∈ vs
    · rw [putBack_in l c]; exact h
    · rw [putBack_out c]; exact L.out i c s h n1 n2
  have pur : p = true → putBack G1 vs G = G1 ∧ Ex H1 H := fun e => ⟨by rw [(L.pur e).1]; exact putBack_wipe G1 vs, (L.pur e).2⟩
  have sub : ∀ a, Own (putBack G1 vs G) σ a → Own G1 σ a := fun a h => L.sub a ((so.own a).mp h)
  have lnt : ∀ (i : Nat), (∃ d, (putBack G1 vs G)[i]? = some (.lent d)) ↔ ∃ d, G1[i]? = some (.lent d) := fun i => (so.lnt i).trans (L.lnt i)
  refine ⟨⟨S2, fun v d r => pr v d (r.sub fun b q => q.elim (fun q => .inl (.inl q)) .inr), sub, fun a o h e => ?_, lnt, L.dom, sam, pur⟩, ⟨S2.less fun a q => .inl q, fun v d r => (pr v d r).sub fun b q => q.elim (fun q => .inl (.inl q)) .inr, sub, L.kpE, lnt, L.dom, sam, pur⟩⟩
  rcases h with h | h
  · exact L.kpE a o h e
  · exact absurd h (nD a (by rw [e]; rfl))
theorem Post.join {q2 : Bool} {G0 : Env'} {H0 : Hp} (P1 : Post g B p G0 G1 σ H0 H1) (n : H1 D = none) (PX : Post g { B with E := fun b => B.E b ∨ b = D } q2 G1 G2 σ H1 H2) : Post g { B with E := fun b => B.E b ∨ b = D } (p && q2) G0 G2 σ H0 H2 := by
  refine ⟨PX.sta, fun v d r => PX.pres v d ?_, fun a h => P1.sub a (PX.sub a h), fun a o h e => ?_, fun i => (PX.lnt i).trans (P1.lnt i), fun a h => PX.dom a (P1.dom a h), fun i s h n1 n2 => PX.sam i s (P1.sam i s h n1 n2) n1 n2, fun e => ?_⟩
  · refine (P1.pres v d (r.sub fun b q => q.elim (fun q => .inl (.inl q)) .inr)).keep (M := fun _ => False) (Ex.refl H1).keep (fun _ q => q.elim) (fun _ q => q.elim) fun b q e => ?_
    rcases q with (q | q) | q
    · exact .inl q
    · subst q; rw [n] at e; cases e
    · exact .inr q
  · rcases h with h | h
    · exact PX.kpE a o (.inl h) (P1.kpE a o h e)
    · subst h
      have := P1.dom a (by rw [e]; rfl)
      rw [n] at this; cases this
  · obtain ⟨a, b⟩ := ba2 e
    exact ⟨(PX.pur b).1.trans (P1.pur a).1, Ex.trans (P1.pur a).2 (PX.pur b).2⟩
end
/-- RelF at the start of a comprehension: the new list at D apart -/
theorem relF_new {g : Gd} {fl : Fl} {E E' : Addr → Prop} {H : Hp} {D : Addr} {o : HO} (n : H D = none) (hE : ∀ b, E' b → (H b).isSome = true → E b) {v : V} {d : PyData} (h : RelF g fl E H v d) : RelF g fl E' (upd H D o) v d := by
  have kp : Keep (fun _ => False) H (upd H D o) := (Ex.new n).keep
  cases fl with
  | s => exact RelD.keep kp (fun _ q => q.elim) (fun _ q => q.elim) hE h
  | v =>
    have h' : RelW g E H v d := h
    show RelW g E' _ v d
    clear h
    cases h' with
    | of h => exact .of (h.keep kp (fun _ q => q.elim) (fun _ q => q.elim) hE)
    | lst h hs => exact .lst (keep_rdL kp (fun _ q => q.elim) (fun q => q) h) (hs.keep kp (fun _ q => q.elim) (fun _ q => q.elim) hE)
    | dct h hs => exact .dct (Ex.new n _ _ h) (hs.keep kp (fun _ q => q.elim) (fun _ q => q.elim) hE)
    | dck h z hs => exact .dck (Ex.new n _ _ h) z (hs.keep kp (fun _ q => q.elim) (fun _ q => q.elim) hE)
theorem relW_new {g : Gd} {E : Addr → Prop} {H : Hp} {a : Addr} {d : PyData} (h : RelW g E H (.ref a) d) (n : H a = none) : RelD g E H (.ref a) d := by
  cases h with
  | of h => exact h
  | lst h _ => rcases h with h | ⟨o, h⟩ <;> (rw [n] at h; cases h)
  | dct h _ => rw [n] at h; cases h
  | dck h _ _ => rw [n] at h; cases h
/-- [elt for target in iter if ..] -/
theorem t_lc {g : Gd} {W : WX} {fl : Fl} {p0 p1 p2 : Bool} {vs : List Nat} {mi : MI} {bd : Bd} {tst : MB} {elt : M} {σ : L2.St} {H : Hp} {Q : VK} (hb : BdOk vs bd) (hsrc : fl.isS = true ∨ (p1 && p2) = true)
    (h : tF g W (p0 && (p1 && p2)) (mLc vs mi bd tst elt) σ H Q) : tLc (tI g W fl p0 mi) (tG g vs bd) (tT g W0 p1 tst) (tE g W0 .s p2 elt) vs σ H Q := by
  obtain ⟨B, G0, S, h⟩ := h
  refine ⟨B, G0, S, ?_⟩
  unfold mLc at h
  cases h1 : mi G0 with
  | bad => rw [h1] at h; exact h.elim
  | exc x G1 => rw [h1] at h; exact h
  | ok r1 =>
    obtain ⟨items, G1⟩ := r1
    rw [h1] at h
    intro J sv sd H1 P1 hs hit
    dsimp only at h
    by_cases c : (freeV G1 vs && szOk (items.length + 1)) = true
    · rw [if_pos c] at h
      obtain ⟨cf, cz⟩ := ba2 c
      cases hl : lcLoop vs bd tst elt items (wipeG G1 vs) with
      | none => rw [hl] at h; exact h.elim
      | some r2 =>
        obtain ⟨out, G2⟩ := r2
        rw [hl] at h
        intro D nD
        have h0 : B.H0 D = none := by
          cases q : B.H0 D with
          | none => rfl
          | some o =>
            by_cases l : Lent G1 B D
            · obtain ⟨i, d, c1, c2⟩ := l
              obtain ⟨_, _, o1⟩ := P1.sta.lent i d c1
              have := o1.some
              rw [c2, nD] at this
              cases this
            · rw [P1.sta.ent D o q l] at nD
              cases nD
        have S1 : Sta g { B with E := fun b => B.E b ∨ b = D } G1 σ (upd H1 D (.lst [])) := P1.sta.shut nD (Ex.new nD) (by rw [upd_same]; rfl)
        have so : SameO vs G1 (wipeG G1 vs) σ (wipe σ vs) := sameO_wipe (freeV_plain cf)
        have eo : ∀ B', Ow B' (wipeG G1 vs) (wipe σ vs) = Ow B' G1 σ := fun B' => so.ow B'
        have hE' : ∀ b, Ow { B with E := fun b => B.E b ∨ b = D } G1 σ b → (H1 b).isSome = true → Ow B G1 σ b := fun b q e => by
          rcases q with (q | q) | q
          · exact .inl q
          · subst q; rw [nD] at e; cases e
          · exact .inr q
        have L0 : LcInv g B fl (p1 && p2) D G1 σ vs H1 sv sd (wipeG G1 vs) (upd H1 D (.lst [])) := by
          refine ⟨S1.wiped (freeV_plain cf), ?_, fun v d r => ?_, fun a q => (so.own a).mp q, fun a o _ e => Ex.new nD a o e, fun i => so.lnt i, fun a q => (Ex.new nD).dom a q, fun _ => ⟨rfl, Ex.new nD⟩, fun i q => wipeG_plain q, ?_, fun i hi s q _ _ => by rw [wipeG_out hi]; exact q⟩
          · rw [eo]
            exact Paired.mapP hs fun v d r => relF_new nD hE' r
          · rw [eo]
            exact r.keep (M := fun _ => False) (Ex.new nD).keep (fun _ q => q.elim) (fun _ q => q.elim) hE'
          · exact Paired.mapP hs fun v d r e => by
              subst e
              rw [eo]
              exact (relW_new r.w nD).keep (M := fun _ => False) (Ex.new nD).keep (fun _ q => q.elim) (fun _ q => q.elim) hE'
        have Bp : ∀ b, Ow B G1 σ b → (fun b => B.E b ∨ Own G1 σ b) b := fun b q => q
        refine ⟨fun i m H' => (m = items.length - i ∧ i ≤ items.length) ∧ ∃ G acc es es2, LcInv g B fl (p1 && p2) D G1 σ vs H1 sv sd G H' ∧ H' D = some (.lst acc) ∧ RelDs g (Ow { B with E := fun b => B.E b ∨ b = D } G (wipe σ vs)) H' acc es ∧ es.length ≤ i ∧
          lcLoop vs bd tst elt (items.drop i) G = some (es2, G2) ∧ es ++ es2 = out, ⟨items.length - 0, ⟨rfl, Nat.zero_le _⟩, wipeG G1 vs, [], [], out, L0, upd_same, .nil, Nat.le_refl _, by rw [List.drop_zero]; exact hl, rfl⟩, ?_⟩
        rintro i m H' ⟨⟨rfl, hle⟩, G, acc, es, es2, L, hD, ra, le, hlp, hout⟩
        have tr : ∀ a, Ow { B with E := fun b => B.E b ∨ b = D } G (wipe σ vs) a → (H' a).isSome = true := fun a q => L.sta.owTr q
        obtain ⟨hgo, hstop⟩ := hit _ H' tr L.src
        by_cases hi : i < items.length
        · right
          have gi : items[i]? = some items[i] := List.getElem?_eq_getElem hi
          obtain ⟨go, yld⟩ := hgo i _ gi
          rw [List.drop_eq_getElem_cons hi] at hlp
          have nx : items.length - (i + 1) < items.length - i := by omega
          refine ⟨go, fun H'' => ∃ G acc es es2, LcInv g B fl (p1 && p2) D G1 σ vs H1 sv sd G H'' ∧ H'' D = some (.lst acc) ∧ RelDs g (Ow { B with E := fun b => B.E b ∨ b = D } G (wipe σ vs)) H'' acc es ∧ es.length ≤ i + 1 ∧
            lcLoop vs bd tst elt (items.drop (i + 1)) G = some (es2, G2) ∧ es ++ es2 = out, fun H'' q => ⟨items.length - (i + 1), nx, ⟨rfl, hi⟩, q⟩, fun x H2 hy => ?_⟩
          obtain ⟨ex, rx⟩ := yld x H2 hy
          refine ⟨{ B with E := fun b => B.E b ∨ b = D }, G, items[i], L.sta.ex ex, rx, ?_⟩
          unfold lcLoop at hlp
          cases hbd : bd items[i] G with
          | none => rw [hbd] at hlp; cases hlp
          | some G3 =>
            rw [hbd] at hlp
            dsimp only at hlp ⊢
            intro σ2 P2 hσ2 hl2
            obtain ⟨hG3, hG3'⟩ := hb _ _ _ hbd
            have pl3 : ∀ k ∈ vs, Plain G3[k]? := fun k hk => by
              rcases hG3' k hk with e | ⟨d, e⟩
              · rw [e]; exact L.pl k hk
              · rw [e]; exact .val
            have hw : wipe σ2 vs = wipe σ vs := by
              have e : wipe (wipe σ vs) vs = wipe σ vs := wipe_eq (wipe_length σ vs) fun i h => wipe_out h
              rw [← e]
              exact wipe_eq hl2 hσ2
            refine ⟨hw, { B with E := fun b => B.E b ∨ b = D }, G3, P2.sta, ?_⟩
            cases ht : tst G3 with
            | bad => rw [ht] at hlp; cases hlp
            | exc x G4 => rw [ht] at hlp; cases hlp
            | ok r4 =>
              obtain ⟨b, G4⟩ := r4
              rw [ht] at hlp
              intro H3 P3
              cases b with
              | false =>
                show ∃ G acc es es2, _
                obtain ⟨L', _, _, pr, kD⟩ := L.step ex P2 hl2 hσ2 hG3 pl3 P3 (fun e => (Bool.and_eq_true _ _ ▸ e).1) hsrc
                exact ⟨_, acc, es, es2, L', kD _ hD, ra.pres pr, Nat.le_succ_of_le le, hlp, hout⟩
              | true =>
                show tE g W0 .s p2 elt σ2 H3 _
                refine ⟨{ B with E := fun b => B.E b ∨ b = D }, G4, P3.sta, ?_⟩
                dsimp only at hlp
                cases he : elt G4 with
                | bad => rw [he] at hlp; cases hlp
                | exc x G5 => rw [he] at hlp; cases hlp
                | ok r5 =>
                  obtain ⟨e5, G5⟩ := r5
                  rw [he] at hlp
                  dsimp only at hlp
                  cases hr : lcLoop vs bd tst elt (items.drop (i + 1)) (wipeG G5 vs) with
                  | none => rw [hr] at hlp; cases hlp
                  | some r6 =>
                    obtain ⟨es6, G6⟩ := r6
                    rw [hr] at hlp
                    cases hlp
                    intro y H4 P4 ry
                    obtain ⟨L', _, prN, pr, kD⟩ := L.step ex P2 hl2 hσ2 hG3 pl3 (P3.trans P4) (fun e => e) hsrc
                    obtain ⟨L'', pr2⟩ := L'.app (ys := acc ++ [y]) (kD _ hD) h0 nD
                    refine ⟨acc, kD _ hD, ?_, _, acc ++ [y], es ++ [e5], es6, L'', upd_same, ((ra.pres pr).append (.one (prN _ _ ry))).pres pr2, by rw [List.length_append]; simp; omega, hr, by rw [List.append_assoc]; exact hout⟩
                    have := szOk_lt cz
                    rw [ra.length]
                    omega
        · left
          have e0 : items.drop i = [] := List.drop_eq_nil_of_le (by omega)
          rw [e0] at hlp
          cases hlp
          rw [List.append_nil] at hout
          subst hout
          have e1 : i = items.length := by omega
          subst e1
          obtain ⟨PX, PB⟩ := L.done (freeV_plain cf) P1.sta nD
          have eo2 := (putBack_so (freeV_plain cf) P1.sta.len L).ow { B with E := fun b => B.E b ∨ b = D }
          have h : ∀ a H', Post g B _ G0 _ σ H H' → Post g { B with E := fun b => B.E b ∨ b = a } _ G0 _ σ H H' → H a = none → OwnAt g (fun b => Ow B _ σ b ∨ b = a) H' a _ → Q (.ref a) H' := h
          refine ⟨hstop, h D H' (P1.trans PB) (P1.join nD PX) (P1.back nD) (.lst hD (ra.sub fun b q => ?_))⟩
          rw [← eo2]
          rcases q with (q | q) | q
          · exact .inl (.inl q)
          · exact .inr q
          · exact .inl (.inr q)
    · rw [if_neg c] at h; exact h.elim
section
variable {X : Cx} {W : WX} {fl : Fl} {p0 p1 p2 : Bool} {vs : List Nat} {mi : MI} {bd : Bd} {tst : MB} {elt : M} {e tg iter : Expr} {ifs : List Expr} {scope : Scope} {own : List (Str × Nat)} {pos : Pos}
theorem if_lc (hc : X.calm = true) (hN : X.N.Nodup) (ok : BlkOk X.N X.env.scope scope own) (hb : BdOk (own.map (·.2)) bd) (hi : PI X tg iter (tI (gd X) W fl p0 mi))
    (hg : ∀ (s : Shared) (H : Hp) (C : Addr) (cl : List (Str × Addr)) (fp : List Addr), PG (X.blk s H scope (compEnvC scope cl C X.env) fp) tg (tG (gd X) (own.map (·.2)) bd))
    (ht : ∀ (s : Shared) (H : Hp) (C : Addr) (cl : List (Str × Addr)) (fp : List Addr), PTs (X.blk s H scope (compEnvC scope cl C X.env) fp) ifs (tT (gd X) W0 p1 tst))
    (he : ∀ (s : Shared) (H : Hp) (C : Addr) (cl : List (Str × Addr)) (fp : List Addr), PE (X.blk s H scope (compEnvC scope cl C X.env) fp) e (tE (gd X) W0 .s p2 elt))
    (hsrc : fl.isS = true ∨ (p1 && p2) = true := by first | exact Or.inl rfl | exact Or.inr rfl) (hs : ∀ x, foldedSetIterable iter X.env x = pure x := by intro _; rfl) :
    PE X (.ListComp e [⟨tg, iter, ifs, 0⟩] scope pos) (tF (gd X) W (p0 && (p1 && p2)) (mLc (own.map (·.2)) mi bd tst elt)) := (pe_lc hc hN hi ok hg ht he hs).imp fun σ H Q h => t_lc hb hsrc h
def bYes : MB := fun G => .ok (true, G)
theorem its_nil : PTs X [] (tT (gd X) W true bYes) := ⟨fun pins s σ H Q I h => pts_nil.run pins s σ H Q I (by
    obtain ⟨B, G, S, h⟩ := h
    exact h H (.refl S))⟩
theorem its_one {c : Expr} {t : MB} {p : Bool} (h : PT X c (tT (gd X) W p t)) : PTs X [c] (tT (gd X) W p t) := pts_one h
end
end Mo

/-! MoH: statements told as meanings over data. -/
namespace Mo
open PySem PySem.Spec PyProof.Rows L2
inductive SR where
  | nx (G : Env') | rt (d : PyData) (G : Env') | bk (G : Env') | ct (G : Env') | exc (x : Exn) (G : Env') | bad
abbrev SM := Env' → SR
/-- what a return hands over: a kept value; or (fr) an object just made, or a plain value -/
def Rtn (g : Gd) (B : Bs) (fr : Bool) (G G' : Env') (σ : L2.St) (H : Hp) (d : PyData) (rt : VK) : Prop :=
  if (fr && isObj d) = true then ∀ a σ' H', PostS g B G G' σ σ' H H' → Sta g { B with E := fun b => B.E b ∨ b = a } G' σ' H' → B.H0 a = none → OwnAt g (fun b => Ow B G' σ' b ∨ b = a) H' a d → rt (.ref a) H'
  else ∀ v σ' H', PostS g B G G' σ σ' H H' → RelD g (Ow B G' σ') H' v d → rt v H'
def tS (g : Gd) (W : WX) (fr : Bool) (s : SM) : TS := fun Dn σ H => ∃ B G, Sta g B G σ H ∧ match s G with
  | .nx G' => ∀ σ' H', PostS g B G G' σ σ' H H' → Dn.nx σ' H'
  | .bk G' => ∀ σ' H', PostS g B G G' σ σ' H H' → Dn.bk σ' H'
  | .ct G' => ∀ σ' H', PostS g B G G' σ σ' H H' → Dn.ct σ' H'
  | .rt d G' => Rtn g B fr G G' σ H d Dn.rt
  | .exc x G' => ∀ cls dx σ' H', PostS g B G G' σ σ' H H' → ExcAt g (Ow B G' σ') H' x cls dx → W cls dx σ' H'
  | .bad => False
def sNext : SM := fun G => .nx G
def sBreak : SM := fun G => .bk G
def sCont : SM := fun G => .ct G
def sSeq (a b : SM) : SM := fun G => match a G with
  | .nx G1 => b G1
  | r => r
def sDrop (m : M) : SM := fun G => match m G with
  | .ok (_, G1) => .nx G1
  | .exc x G1 => .exc x G1
  | .bad => .bad
def sAsg (bd : Bd) (m : M) : SM := fun G => match m G with
  | .ok (d, G1) => (match bd d G1 with
    | some G2 => .nx G2
    | none => .bad)
  | .exc x G1 => .exc x G1
  | .bad => .bad
def slotOf (d : PyData) : Sl := if isObj d = true then .own d else .val d
/-- the slot owns what was just made -/
def sAsgO (j : Nat) (m : M) : SM := fun G => match m G with
  | .ok (d, G1) => if lentAt G1 j = true then .bad else .nx (G1.set j (slotOf d))
  | .exc x G1 => .exc x G1
  | .bad => .bad
def sIf (c : MB) (a b : SM) : SM := fun G => match c G with
  | .ok (true, G1) => a G1
  | .ok (false, G1) => b G1
  | .exc x G1 => .exc x G1
  | .bad => .bad
def sRet (m : M) : SM := fun G => match m G with
  | .ok (d, G1) => .rt d G1
  | .exc x G1 => .exc x G1
  | .bad => .bad
def sRetN : SM := fun G => .rt .none G
/-- return x, x an object of one's own -/
def sRetO (i : Nat) : SM := fun G => match G[i]? with
  | some (.own d) => .rt d (G.set i .un)
  | some (.val d) => if isObj d = true then .bad else .rt d G
  | _ => .bad
section
variable {g : Gd} {W : WX} {fr : Bool} {B : Bs} {G G1 G2 : Env'} {σ σ1 σ2 : L2.St} {H H1 H2 : Hp} {Dn : Ends} {fl : Fl} {p : Bool} {m : M}
theorem Rtn.after {d : PyData} {rt : VK} {G' : Env'} (P : PostS g B G G1 σ σ1 H H1) (h : Rtn g B fr G G' σ H d rt) : Rtn g B fr G1 G' σ1 H1 d rt := by
  unfold Rtn at h ⊢
  by_cases c : (fr && isObj d) = true
  · rw [if_pos c] at h ⊢
    exact fun a σ' H' P2 S z o => h a σ' H' (P.trans P2) S z o
  · rw [if_neg c] at h ⊢
    exact fun v σ' H' P2 r => h v σ' H' (P.trans P2) r
/-- a reading, from a later state -/
theorem tS_after {s : SM} (S : Sta g B G1 σ1 H1) (P : PostS g B G G1 σ σ1 H H1) (h : match s G1 with
    | .nx G' => ∀ σ' H', PostS g B G G' σ σ' H H' → Dn.nx σ' H'
    | .bk G' => ∀ σ' H', PostS g B G G' σ σ' H H' → Dn.bk σ' H'
    | .ct G' => ∀ σ' H', PostS g B G G' σ σ' H H' → Dn.ct σ' H'
    | .rt d G' => Rtn g B fr G G' σ H d Dn.rt
    | .exc x G' => ∀ cls dx σ' H', PostS g B G G' σ σ' H H' → ExcAt g (Ow B G' σ') H' x cls dx → W cls dx σ' H'
    | .bad => False) : tS g W fr s Dn σ1 H1 := by
  refine ⟨B, G1, S, ?_⟩
  cases hs : s G1 with
  | nx G' => rw [hs] at h; exact fun σ' H' P2 => h σ' H' (P.trans P2)
  | bk G' => rw [hs] at h; exact fun σ' H' P2 => h σ' H' (P.trans P2)
  | ct G' => rw [hs] at h; exact fun σ' H' P2 => h σ' H' (P.trans P2)
  | rt d G' => rw [hs] at h; exact Rtn.after P h
  | exc x G' => rw [hs] at h; exact fun cls dx σ' H' P2 e => h cls dx σ' H' (P.trans P2) e
  | bad => rw [hs] at h; exact h
theorem t_sSeq {a b : SM} (h : tS g W fr (sSeq a b) Dn σ H) : tSeq (tS g W fr a) (tS g W fr b) Dn σ H := by
  obtain ⟨B, G, S, h⟩ := h
  refine ⟨B, G, S, ?_⟩
  unfold sSeq at h
  cases ha : a G with
  | nx G' =>
    rw [ha] at h
    exact fun σ' H' P => tS_after P.sta P h
  | bk G' => rw [ha] at h; exact h
  | ct G' => rw [ha] at h; exact h
  | rt d G' => rw [ha] at h; exact h
  | exc x G' => rw [ha] at h; exact h
  | bad => rw [ha] at h; exact h
theorem t_sNext (h : tS g W fr sNext Dn σ H) : tNext Dn σ H := by
  obtain ⟨B, G, S, h⟩ := h
  exact h σ H (.refl S)
theorem t_sBreak (h : tS g W fr sBreak Dn σ H) : tBreak Dn σ H := by
  obtain ⟨B, G, S, h⟩ := h
  exact h σ H (.refl S)
theorem t_sCont (h : tS g W fr sCont Dn σ H) : tCont Dn σ H := by
  obtain ⟨B, G, S, h⟩ := h
  exact h σ H (.refl S)
theorem t_sDrop (h : tS g W fr (sDrop m) Dn σ H) : tDrop (tE g W fl p m) Dn σ H := by
  obtain ⟨B, G, S, h⟩ := h
  refine ⟨B, G, S, ?_⟩
  unfold sDrop at h
  cases h1 : m G with
  | bad => rw [h1] at h; exact h.elim
  | exc x G1 => rw [h1] at h; exact fun cls dx H' P e => h cls dx σ H' P.s e
  | ok r1 =>
    obtain ⟨d1, G1⟩ := r1
    rw [h1] at h
    exact fun v H' P _ => h σ H' P.s
theorem t_sAsg {js : List Nat} {bd : Bd} (h : tS g W fr (sAsg bd m) Dn σ H) : tAsg (tE g W .s p m) (tG g js bd) Dn σ H := by
  obtain ⟨B, G, S, h⟩ := h
  refine ⟨B, G, S, ?_⟩
  unfold sAsg at h
  cases h1 : m G with
  | bad => rw [h1] at h; exact h.elim
  | exc x G1 => rw [h1] at h; exact fun cls dx H' P e => h cls dx σ H' P.s e
  | ok r1 =>
    obtain ⟨d1, G1⟩ := r1
    rw [h1] at h
    intro v H' P r
    refine ⟨B, G1, d1, P.sta, r, ?_⟩
    dsimp only at h
    cases hb : bd d1 G1 with
    | none => rw [hb] at h; exact h.elim
    | some G2 =>
      rw [hb] at h
      exact fun σ' P2 _ _ => h σ' H' (P.s.trans P2)
/-- what was made is owned by the slot j -/
theorem Sta.storeO {j : Nat} {a : Addr} {d : PyData} (S0 : Sta g B G σ H) (PX : Post g { B with E := fun b => B.E b ∨ b = a } p G G1 σ H H1) (P : Post g B p G G1 σ H H1) (na : H a = none) (o : OwnAt g (fun b => Ow B G1 σ b ∨ b = a) H1 a d) (nl : lentAt G1 j = false) :
    PostS g B G (G1.set j (.own d)) σ (σ.set j (some (.ref a))) H H1 := by
  have hj : j < G1.length := by
    cases q : G1[j]? with
    | none => unfold lentAt at nl; rw [q] at nl; cases nl
    | some s => exact (List.getElem?_eq_some_iff.mp q).1
  have nl' : ∀ e, G1[j]? ≠ some (.lent e) := fun e q => by unfold lentAt at nl; rw [q] at nl; cases nl
  have S := PX.sta
  have gj : (G1.set j (.own d))[j]? = some (.own d) := List.getElem?_set_self hj
  have hj' : j < σ.length := by rw [← S.len]; exact hj
  have sj : (σ.set j (some (.ref a)))[j]? = some (some (V.ref a)) := List.getElem?_set_self hj'
  have nE : ¬ B.E a := fun q => by
    have := S0.etr a q
    rw [na] at this; cases this
  have z : B.H0 a = none := by
    cases q : B.H0 a with
    | none => rfl
    | some u =>
      by_cases l : Lent G B a
      · obtain ⟨i, e, c1, c2⟩ := l
        obtain ⟨_, _, o1⟩ := S0.lent i e c1
        have := o1.some
        rw [c2, na] at this; cases this
      · have := S0.ent a u q l
        rw [na] at this; cases this
  have nO : ∀ b, Own G1 σ b → b ≠ a := fun b q e => by
    obtain ⟨i, d', c, s⟩ := q
    exact (slot_addr S c s).2.1 (.inr e)
  have sub : ∀ b, Own (G1.set j (.own d)) (σ.set j (some (.ref a))) b → Own G1 σ b ∨ b = a := by
    rintro b ⟨i, e, c, s⟩
    by_cases q : i = j
    · subst q
      rw [sj] at s
      injection s with s; injection s with s; injection s with s
      exact .inr s.symm
    · rw [set_other q] at c s
      exact .inl ⟨i, e, c, s⟩
  have subO : ∀ b, Ow B (G1.set j (.own d)) (σ.set j (some (.ref a))) b → Ow { B with E := fun b => B.E b ∨ b = a } G1 σ b := fun b q => by
    rcases q with q | q
    · exact .inl (.inl q)
    · rcases sub b q with q | q
      · exact .inr q
      · exact .inl (.inr q)
  have lnt : ∀ (i : Nat), (∃ e, (G1.set j (.own d))[i]? = some (.lent e)) ↔ ∃ e, G1[i]? = some (.lent e) := fun i => by
    by_cases q : i = j
    · subst q
      rw [gj]
      exact ⟨fun ⟨e, c⟩ => (nomatch c), fun ⟨e, c⟩ => absurd c (nl' e)⟩
    · rw [set_other q]
  refine ⟨⟨by rw [List.length_set, List.length_set]; exact S.len, fun i e hi => ?_, fun i e hi => ?_, fun i e hi => ?_, fun i b hi => ?_, fun j1 j2 b h1 h2 s1 s2 => ?_, fun b u hb nb => ?_, P.sta.etr⟩, fun v e r => ?_, P.kpE, fun i => (lnt i).trans (P.lnt i), P.dom⟩
  · have q : i ≠ j := fun q => by subst q; rw [gj] at hi; cases hi
    rw [set_other q] at hi ⊢
    obtain ⟨u, e1, r1⟩ := S.val i e hi
    exact ⟨u, e1, r1.sub subO⟩
  · by_cases q : i = j
    · subst q
      rw [gj] at hi
      cases hi
      refine ⟨a, sj, nE, z, o.keep (M := fun _ => False) (Ex.refl H1).keep (fun _ q => q.elim) (fun _ q => q.elim) (fun b q _ => ?_) fun q => q⟩
      rcases subO b q with (q | q) | q
      · exact .inl (.inl q)
      · exact .inr q
      · exact .inl (.inr q)
    · rw [set_other q] at hi ⊢
      obtain ⟨b, e1, n1, z1, o1⟩ := S.own i e hi
      exact ⟨b, e1, fun c => n1 (.inl c), z1, o1.keep (M := fun _ => False) (Ex.refl H1).keep (fun _ q => q.elim) (fun _ q => q.elim) (fun b q _ => subO b q) fun q => q⟩
  · have q : i ≠ j := fun q => by subst q; rw [gj] at hi; cases hi
    rw [set_other q] at hi ⊢
    obtain ⟨e1, n1, o1⟩ := S.lent i e hi
    exact ⟨e1, fun c => n1 (.inl c), o1.keep (M := fun _ => False) (Ex.refl H1).keep (fun _ q => q.elim) (fun _ q => q.elim) (fun b q _ => subO b q) fun q => q⟩
  · have q : i ≠ j := fun q => by subst q; rw [gj] at hi; cases hi
    rw [set_other q] at hi ⊢
    exact S.adr i b hi
  · by_cases q1 : j1 = j
    · by_cases q2 : j2 = j
      · rw [q1, q2]
      · subst q1
        rw [sj] at s1
        injection s1 with s1; injection s1 with s1; injection s1 with s1
        rw [set_other q2] at h2 s2
        obtain ⟨e2, c2⟩ := h2
        exact absurd s1.symm (nO b ⟨j2, e2, c2, s2⟩)
    · by_cases q2 : j2 = j
      · subst q2
        rw [sj] at s2
        injection s2 with s2; injection s2 with s2; injection s2 with s2
        rw [set_other q1] at h1 s1
        obtain ⟨e1, c1⟩ := h1
        exact absurd s2.symm (nO b ⟨j1, e1, c1, s1⟩)
      · rw [set_other q1] at h1 s1
        rw [set_other q2] at h2 s2
        exact S.uni j1 j2 b h1 h2 s1 s2
  · exact S.ent b u hb fun ⟨i, e, c, s⟩ => nb (let ⟨e', c'⟩ := (lnt i).mpr ⟨e, c⟩; ⟨i, e', c', s⟩)
  · refine (PX.pres v e ?_).sub subO
    exact r.keep (M := fun _ => False) (Ex.refl H).keep (fun _ q => q.elim) (fun _ q => q.elim) fun b q e => by
      rcases q with (q | q) | q
      · exact .inl q
      · subst q; rw [na] at e; cases e
      · exact .inr q
theorem t_sAsgO {j : Nat} (h : tS g W fr (sAsgO j m) Dn σ H) : tAsg (tF g W p m) (gName j) Dn σ H := by
  obtain ⟨B, G, S, h⟩ := h
  refine ⟨B, G, S, ?_⟩
  unfold sAsgO at h
  cases h1 : m G with
  | bad => rw [h1] at h; exact h.elim
  | exc x G1 => rw [h1] at h; exact fun cls dx H' P e => h cls dx σ H' P.s e
  | ok r1 =>
    obtain ⟨d1, G1⟩ := r1
    rw [h1] at h
    dsimp only at h ⊢
    cases c : lentAt G1 j with
    | true => rw [c, if_pos rfl] at h; exact h.elim
    | false =>
      rw [c, if_neg Bool.false_ne_true] at h
      by_cases ob : isObj d1 = true
      · rw [if_pos ob]
        unfold slotOf at h
        rw [if_pos ob] at h
        exact fun a H' P PX na o => h _ H' (Sta.storeO S PX P na o c)
      · rw [if_neg ob]
        unfold slotOf at h
        rw [if_neg ob] at h
        intro v H' P r
        have hb : bind1 j d1 G1 = some (G1.set j (.val d1)) := by unfold bind1; rw [c, if_neg Bool.false_ne_true]
        exact h _ H' (P.s.trans (bind1_s P.sta r hb))
theorem t_sIf {c : MB} {a b : SM} (h : tS g W fr (sIf c a b) Dn σ H) : tIfS (tT g W p c) (tS g W fr a) (tS g W fr b) Dn σ H := by
  obtain ⟨B, G, S, h⟩ := h
  refine ⟨B, G, S, ?_⟩
  unfold sIf at h
  cases h1 : c G with
  | bad => rw [h1] at h; exact h.elim
  | exc x G1 => rw [h1] at h; exact fun cls dx H' P e => h cls dx σ H' P.s e
  | ok r1 =>
    obtain ⟨d1, G1⟩ := r1
    rw [h1] at h
    intro H1 P1
    cases d1 with
    | true =>
      show tS g W fr a Dn σ H1
      exact tS_after P1.sta P1.s h
    | false =>
      show tS g W fr b Dn σ H1
      exact tS_after P1.sta P1.s h
theorem t_sRet (h : tS g W false (sRet m) Dn σ H) : tRet (tE g W .s p m) Dn σ H := by
  obtain ⟨B, G, S, h⟩ := h
  refine ⟨B, G, S, ?_⟩
  unfold sRet at h
  cases h1 : m G with
  | bad => rw [h1] at h; exact h.elim
  | exc x G1 => rw [h1] at h; exact fun cls dx H' P e => h cls dx σ H' P.s e
  | ok r1 =>
    obtain ⟨d1, G1⟩ := r1
    rw [h1] at h
    exact fun v H' P r => h v σ H' P.s r
theorem sta_z (S0 : Sta g B G σ H) {a : Addr} (na : H a = none) : B.H0 a = none := by
  cases q : B.H0 a with
  | none => rfl
  | some u =>
    by_cases l : Lent G B a
    · obtain ⟨i, e, c1, c2⟩ := l
      obtain ⟨_, _, o1⟩ := S0.lent i e c1
      have := o1.some
      rw [c2, na] at this; cases this
    · have := S0.ent a u q l
      rw [na] at this; cases this
theorem t_sRetF (h : tS g W true (sRet m) Dn σ H) : tRet (tF g W p m) Dn σ H := by
  obtain ⟨B, G, S, h⟩ := h
  refine ⟨B, G, S, ?_⟩
  unfold sRet at h
  cases h1 : m G with
  | bad => rw [h1] at h; exact h.elim
  | exc x G1 => rw [h1] at h; exact fun cls dx H' P e => h cls dx σ H' P.s e
  | ok r1 =>
    obtain ⟨d1, G1⟩ := r1
    rw [h1] at h
    dsimp only [Rtn] at h ⊢
    by_cases ob : isObj d1 = true
    · rw [if_pos ob]
      rw [if_pos (by rw [ob]; rfl)] at h
      exact fun a H' P PX na o => h a σ H' P.s PX.sta (sta_z S na) o
    · rw [if_neg ob]
      rw [if_neg (by simpa using ob)] at h
      exact fun v H' P r => h v σ H' P.s r
theorem t_sRetN (h : tS g W fr sRetN Dn σ H) : tRetN Dn σ H := by
  obtain ⟨B, G, S, h⟩ := h
  have h : Rtn g B fr G G σ H .none Dn.rt := h
  unfold Rtn at h
  rw [if_neg (by simp [isObj])] at h
  exact h .non σ H (.refl S) .non
theorem t_sRetO {i : Nat} (h : tS g W true (sRetO i) Dn σ H) : tRet (tVar i) Dn σ H := by
  obtain ⟨B, G, S, h⟩ := h
  unfold sRetO at h
  show ∃ v, σ[i]? = some (some v) ∧ Dn.rt v H
  cases q : G[i]? with
  | none => rw [q] at h; exact h.elim
  | some s =>
    rw [q] at h
    cases s with
    | own d =>
      obtain ⟨a, hs, nE, z, o⟩ := S.own i d q
      refine ⟨.ref a, hs, ?_⟩
      have h : Rtn g B true G (G.set i .un) σ H d Dn.rt := h
      unfold Rtn at h
      rw [if_pos (by rw [o.obj]; rfl)] at h
      have sub : ∀ b, Own (G.set i .un) σ b → Own G σ b := by
        rintro b ⟨j, e, c, s⟩
        by_cases qq : j = i
        · subst qq
          rw [set_get q] at c
          rcases c with c | c <;> cases c
        · rw [set_other qq] at c
          exact ⟨j, e, c, s⟩
      have lnt : ∀ (j : Nat), (∃ e, (G.set i .un)[j]? = some (.lent e)) ↔ ∃ e, G[j]? = some (.lent e) := fun j => by
        by_cases qq : j = i
        · subst qq
          rw [set_get q, q]
          exact ⟨fun ⟨e, c⟩ => (nomatch c), fun ⟨e, c⟩ => (nomatch c)⟩
        · rw [set_other qq]
      have isown : Own G σ a := ⟨i, d, .inl q, hs⟩
      have subE : ∀ b, Ow { B with E := fun b => B.E b ∨ b = a } (G.set i .un) σ b → Ow B G σ b := fun b q => by
        rcases q with (q | q) | q
        · exact .inl q
        · rw [q]; exact .inr isown
        · exact .inr (sub b q)
      have keepO : ∀ {b d'}, OwnAt g (Ow B G σ) H b d' → OwnAt g (Ow { B with E := fun b => B.E b ∨ b = a } (G.set i .un) σ) H b d' := fun o => o.keep (M := fun _ => False) (Ex.refl H).keep (fun _ q => q.elim) (fun _ q => q.elim) (fun b q _ => subE b q) fun q => q
      have SX : Sta g { B with E := fun b => B.E b ∨ b = a } (G.set i .un) σ H := by
        refine ⟨by rw [List.length_set]; exact S.len, fun j e hj => ?_, fun j e hj => ?_, fun j e hj => ?_, fun j b hj => ?_, fun j1 j2 b h1 h2 s1 s2 => ?_, fun b u hb nb => ?_, fun b hb => ?_⟩
        · have qq : j ≠ i := fun qq => by subst qq; rw [set_get q] at hj; cases hj
          rw [set_other qq] at hj
          obtain ⟨v, e1, r⟩ := S.val j e hj
          exact ⟨v, e1, r.sub subE⟩
        · have qq : j ≠ i := fun qq => by subst qq; rw [set_get q] at hj; cases hj
          rw [set_other qq] at hj
          obtain ⟨b, e1, n1, z1, o1⟩ := S.own j e hj
          refine ⟨b, e1, fun c => c.elim n1 fun c => qq ?_, z1, keepO o1⟩
          subst c
          exact S.uni j i b ⟨e, .inl hj⟩ ⟨d, .inl q⟩ e1 hs
        · have qq : j ≠ i := fun qq => by subst qq; rw [set_get q] at hj; cases hj
          rw [set_other qq] at hj
          obtain ⟨e1, n1, o1⟩ := S.lent j e hj
          refine ⟨e1, fun c => c.elim n1 fun c => qq ?_, keepO o1⟩
          exact S.uni j i a ⟨e, .inr hj⟩ ⟨d, .inl q⟩ (by rw [← c]; exact e1) hs
        · have qq : j ≠ i := fun qq => by subst qq; rw [set_get q] at hj; cases hj
          rw [set_other qq] at hj
          exact S.adr j b hj
        · have back : ∀ (j : Nat), (∃ e, (G.set i .un)[j]? = some (.own e) ∨ (G.set i .un)[j]? = some (.lent e)) → ∃ e, G[j]? = some (.own e) ∨ G[j]? = some (.lent e) := fun j ⟨e, c⟩ => by
            by_cases qq : j = i
            · subst qq; rw [set_get q] at c; rcases c with c | c <;> cases c
            · rw [set_other qq] at c; exact ⟨e, c⟩
          exact S.uni j1 j2 b (back j1 h1) (back j2 h2) s1 s2
        · exact S.ent b u hb fun ⟨j, e, c, s⟩ => nb (let ⟨e', c'⟩ := (lnt j).mpr ⟨e, c⟩; ⟨j, e', c', s⟩)
        · rcases hb with hb | hb
          · exact S.etr b hb
          · rw [hb]; exact o.some
      have subB : ∀ b, Ow B (G.set i .un) σ b → Ow B G σ b := fun b q => q.elim .inl fun q => .inr (sub b q)
      refine h a σ H ⟨SX.less fun b q => .inl q, fun v e r => r.sub subB, fun b u _ e => e, lnt, fun b q => q⟩ SX z (o.keep (M := fun _ => False) (Ex.refl H).keep (fun _ q => q.elim) (fun _ q => q.elim) (fun b q _ => ?_) fun q => q)
      rcases q with q | q
      · exact subB b q
      · rw [q]; exact .inr isown
    | val d =>
      obtain ⟨v, e, r⟩ := S.val i d q
      refine ⟨v, e, ?_⟩
      dsimp only at h
      by_cases ob : isObj d = true
      · rw [if_pos ob] at h; exact h.elim
      · rw [if_neg ob] at h
        have h : Rtn g B true G G σ H d Dn.rt := h
        unfold Rtn at h
        rw [if_neg (by simpa using ob)] at h
        exact h v σ H (.refl S) r
    | _ => exact h.elim
end
section
variable {X : Cx} {W : WX} {fr : Bool} {fl : Fl} {p : Bool} {m : M} {st : Stmt} {rest : List Stmt} {s s1 s2 : SM} {e tg : Expr} {pos : Pos}
theorem iss_nil : PSs X [] (tS (gd X) W fr sNext) := pss_nil.imp fun D σ H h => t_sNext h
theorem iss_cons (h1 : PS X st (tS (gd X) W fr s1)) (h2 : PSs X rest (tS (gd X) W fr s2)) : PSs X (st :: rest) (tS (gd X) W fr (sSeq s1 s2)) := (pss_cons h1 h2).imp fun D σ H h => t_sSeq h
theorem iss_one (h1 : PS X st (tS (gd X) W fr s)) : PSs X [st] (tS (gd X) W fr s) := pss_one h1
theorem is_pass : PS X (.Pass pos) (tS (gd X) W fr sNext) := ps_pass.imp fun D σ H h => t_sNext h
theorem is_break : PS X (.Break pos) (tS (gd X) W fr sBreak) := ps_break.imp fun D σ H h => t_sBreak h
theorem is_cont : PS X (.Continue pos) (tS (gd X) W fr sCont) := ps_continue.imp fun D σ H h => t_sCont h
theorem is_expr (he : PE X e (tE (gd X) W fl p m)) (hs : swapsWith e none pos.line X.env = pure false := by rfl) : PS X (.Expr e pos) (tS (gd X) W fr (sDrop m)) := (ps_expr he hs).imp fun D σ H h => t_sDrop h
theorem is_ret (he : PE X e (tE (gd X) W .s p m)) : PS X (.Return (some e) pos) (tS (gd X) W false (sRet m)) := (ps_ret he).imp fun D σ H h => t_sRet h
theorem is_retF (he : PE X e (tF (gd X) W p m)) : PS X (.Return (some e) pos) (tS (gd X) W true (sRet m)) := (ps_ret he).imp fun D σ H h => t_sRetF h
theorem is_retN : PS X (.Return none pos) (tS (gd X) W fr sRetN) := ps_retN.imp fun D σ H h => t_sRetN h
theorem is_retO {i : Nat} {x : Str} {pos' : Pos} (hN : X.N[i]? = some x := by rfl) (hv : Vis X.env.scope x := by first | exact Or.inl rfl | exact Or.inr (Or.inl rfl) | exact Or.inr (Or.inr rfl)) (hd : (x == ("__debug__" : Str)) = false := by decide) (hcd : (x == ("__classdict__" : Str)) = false := by decide) :
    PS X (.Return (some (.Name x pos')) pos) (tS (gd X) W true (sRetO i)) := (ps_ret (pe_var hN hv hd hcd)).imp fun D σ H h => t_sRetO h
/-- a plain value returned where objects just made are promised -/
theorem is_retV (he : PE X e (tE (gd X) W .s p m)) (ho : ∀ G d G', m G = .ok (d, G') → isObj d = false) : PS X (.Return (some e) pos) (tS (gd X) W true (sRet m)) := is_retF (he.imp fun σ H Q h => by
  obtain ⟨B, G, S, h⟩ := h
  refine ⟨B, G, S, ?_⟩
  cases h1 : m G with
  | bad => rw [h1] at h; exact h.elim
  | exc x G1 => rw [h1] at h; exact h
  | ok r1 =>
    obtain ⟨d1, G1⟩ := r1
    rw [h1] at h
    dsimp only at h
    rw [ho G d1 G1 h1, if_neg Bool.false_ne_true] at h
    exact h)
/-- name = e -/
theorem is_set {i : Nat} {x : Str} {pos' : Pos} (hN : X.N.Nodup) (he : PE X e (tE (gd X) W .s p m)) (hi : X.N[i]? = some x := by rfl) (hx : Loc X.env.scope x := by first | exact Or.inl rfl | exact Or.inr rfl) (hs : swapsWith e (some (.Name x pos')) pos.line X.env = pure false := by rfl) (hf : X.fn x = true ∨ X.env.scope.names.lookup x = some .local := by first | exact .inl rfl | exact .inr rfl | assumption) :
    PS X (.Assign [.Name x pos'] e pos) (tS (gd X) W fr (sAsg (bind1 i) m)) := (ps_set hN hi hx he hs hf).imp fun D σ H h => by
  have q := t_sAsg (js := [i]) (p := p) h
  obtain ⟨B, G, S, q⟩ := q
  refine ⟨B, G, S, ?_⟩
  cases h1 : m G with
  | bad => rw [h1] at q; exact q.elim
  | exc x G1 => rw [h1] at q; exact q
  | ok r1 =>
    obtain ⟨d1, G1⟩ := r1
    rw [h1] at q
    intro v H' P r
    obtain ⟨B2, G2, d2, S2, r2, q⟩ := q v H' P r
    cases hb : bind1 i d2 G2 with
    | none => rw [hb] at q; exact q.elim
    | some G3 =>
      rw [hb] at q
      exact q _ (bind1_s S2 r2 hb) (fun j hj => set_other (by simpa using hj)) (by simp)
/-- target = e -/
theorem is_asg {js : List Nat} {bd : Bd} (he : PE X e (tE (gd X) W .s p m)) (hg : PG X tg (tG (gd X) js bd)) (hs : swapsWithSole [tg] e pos.line X.env = pure false := by rfl) (hw : swappedStores [tg] e X.env = pure none := by rfl)
    (h1 : (assignEach [tg] X.env).map (·.2) = [assign tg X.env] := by rfl) : PS X (.Assign [tg] e pos) (tS (gd X) W fr (sAsg bd m)) := (ps_asg he hg hs hw h1).imp fun D σ H h => t_sAsg h
/-- name = an object just made: the name owns it -/
theorem is_setO {i : Nat} {x : Str} {pos' : Pos} (hN : X.N.Nodup) (he : PE X e (tF (gd X) W p m)) (hi : X.N[i]? = some x := by rfl) (hx : Loc X.env.scope x := by first | exact Or.inl rfl | exact Or.inr rfl) (hs : swapsWith e (some (.Name x pos')) pos.line X.env = pure false := by rfl) (hf : X.fn x = true ∨ X.env.scope.names.lookup x = some .local := by first | exact .inl rfl | exact .inr rfl | assumption) :
    PS X (.Assign [.Name x pos'] e pos) (tS (gd X) W fr (sAsgO i m)) := (ps_set hN hi hx he hs hf).imp fun D σ H h => t_sAsgO h
theorem is_if {c : Expr} {a b : List Stmt} {cb : MB} (hc : PT X c (tT (gd X) W p cb)) (ha : PSs X a (tS (gd X) W fr s1)) (hb : PSs X b (tS (gd X) W fr s2)) : PS X (.If c a b pos) (tS (gd X) W fr (sIf cb s1 s2)) := (ps_if hc ha hb).imp fun D σ H h => t_sIf h
end
end Mo

/-! MoI: loops; own lists written. -/
namespace Mo
open PySem PySem.Spec PyProof.Rows L2
def forLoop (bd : Bd) (body : SM) : List PyData → Env' → SR
  | [], G => .nx G
  | d :: ds, G => match bd d G with
    | none => .bad
    | some G1 => match body G1 with
      | .nx G2 => forLoop bd body ds G2
      | .ct G2 => forLoop bd body ds G2
      | .bk G2 => .nx G2
      | r => r
def sFor (mi : MI) (bd : Bd) (body : SM) : SM := fun G => match mi G with
  | .ok (items, G1) => forLoop bd body items G1
  | .exc x G1 => .exc x G1
  | .bad => .bad
def whLoop (c : MB) (body : SM) : Nat → Env' → SR
  | 0, _ => .bad
  | n + 1, G => match c G with
    | .ok (true, G1) => (match body G1 with
      | .nx G2 => whLoop c body n G2
      | .ct G2 => whLoop c body n G2
      | .bk G2 => .nx G2
      | r => r)
    | .ok (false, G1) => .nx G1
    | .exc x G1 => .exc x G1
    | .bad => .bad
def sWhile (n : Nat) (c : MB) (body : SM) : SM := whLoop c body n
/-- what is wanted of a statement's end -/
def Fin (g : Gd) (W : WX) (fr : Bool) (B : Bs) (G : Env') (σ : L2.St) (H : Hp) (Dn : Ends) : SR → Prop
  | .nx G' => ∀ σ' H', PostS g B G G' σ σ' H H' → Dn.nx σ' H'
  | .bk G' => ∀ σ' H', PostS g B G G' σ σ' H H' → Dn.bk σ' H'
  | .ct G' => ∀ σ' H', PostS g B G G' σ σ' H H' → Dn.ct σ' H'
  | .rt d G' => Rtn g B fr G G' σ H d Dn.rt
  | .exc x G' => ∀ cls dx σ' H', PostS g B G G' σ σ' H H' → ExcAt g (Ow B G' σ') H' x cls dx → W cls dx σ' H'
  | .bad => False
section
variable {g : Gd} {W : WX} {fr : Bool} {B : Bs} {G G1 G2 : Env'} {σ σ1 σ2 : L2.St} {H H1 H2 : Hp} {Dn : Ends} {fl : Fl} {p : Bool}
theorem tS_fin {s : SM} (h : tS g W fr s Dn σ H) : ∃ B G, Sta g B G σ H ∧ Fin g W fr B G σ H Dn (s G) := by
  obtain ⟨B, G, S, h⟩ := h
  refine ⟨B, G, S, ?_⟩
  cases hs : s G <;> rw [hs] at h <;> exact h
theorem fin_tS {s : SM} (S : Sta g B G σ H) (h : Fin g W fr B G σ H Dn (s G)) : tS g W fr s Dn σ H := by
  refine ⟨B, G, S, ?_⟩
  cases hs : s G <;> rw [hs] at h <;> exact h
theorem Fin.after {r : SR} (P : PostS g B G G1 σ σ1 H H1) (h : Fin g W fr B G σ H Dn r) : Fin g W fr B G1 σ1 H1 Dn r := by
  cases r with
  | nx G' => exact fun σ' H' P2 => h σ' H' (P.trans P2)
  | bk G' => exact fun σ' H' P2 => h σ' H' (P.trans P2)
  | ct G' => exact fun σ' H' P2 => h σ' H' (P.trans P2)
  | rt d G' => exact Rtn.after P h
  | exc x G' => exact fun cls dx σ' H' P2 e => h cls dx σ' H' (P.trans P2) e
  | bad => exact h
/-- the body of a loop: its next turn N, its way out -/
theorem Fin.body {r : SR} {N : L2.St → Hp → Prop} {out : Env' → SR} (hN : ∀ G' σ' H', (r = .nx G' ∨ r = .ct G') → PostS g B G G' σ σ' H H' → N σ' H') (h : ∀ G', r = .bk G' → ∀ σ' H', PostS g B G G' σ σ' H H' → Dn.nx σ' H')
    (h2 : (∀ d G', r = .rt d G' → Rtn g B fr G G' σ H d Dn.rt)) (h3 : ∀ x G', r = .exc x G' → ∀ cls dx σ' H', PostS g B G G' σ σ' H H' → ExcAt g (Ow B G' σ') H' x cls dx → W cls dx σ' H') (h4 : r ≠ .bad) :
    Fin g W fr B G σ H { Dn with nx := N, ct := N, bk := Dn.nx } r := by
  cases r with
  | nx G' => exact fun σ' H' P => hN G' σ' H' (.inl rfl) P
  | ct G' => exact fun σ' H' P => hN G' σ' H' (.inr rfl) P
  | bk G' => exact fun σ' H' P => h G' rfl σ' H' P
  | rt d G' => exact h2 d G' rfl
  | exc x G' => exact h3 x G' rfl
  | bad => exact absurd rfl h4
theorem t_sFor {js : List Nat} {mi : MI} {bd : Bd} {body : SM} (h : tS g W fr (sFor mi bd body) Dn σ H) : tFor (tI g W .s p mi) (tG g js bd) (tS g W fr body) Dn σ H := by
  obtain ⟨B, G, S, h⟩ := tS_fin h
  refine ⟨B, G, S, ?_⟩
  unfold sFor at h
  cases h1 : mi G with
  | bad => rw [h1] at h; exact h.elim
  | exc x G1 => rw [h1] at h; exact fun cls dx H' P e => h cls dx σ H' P.s e
  | ok r1 =>
    obtain ⟨items, G1⟩ := r1
    rw [h1] at h
    intro J sv sd H1 P1 hs hit
    dsimp only at h
    obtain ⟨r0, hr0⟩ : ∃ r0, forLoop bd body items G1 = r0 := ⟨_, rfl⟩
    rw [hr0] at h
    refine ⟨fun i m σ' H' => (m = items.length - i ∧ i ≤ items.length) ∧ ∃ G', PostS g B G1 G' σ σ' H1 H' ∧ RelFs g .s (Ow B G' σ') H' sv sd ∧ forLoop bd body (items.drop i) G' = r0,
      ⟨items.length - 0, ⟨rfl, Nat.zero_le _⟩, G1, .refl P1.sta, hs, by rw [List.drop_zero]; exact hr0⟩, ?_⟩
    rintro i m σ' H' ⟨⟨rfl, hle⟩, G', P, src, e⟩
    obtain ⟨hgo, hstop⟩ := hit _ H' (fun a q => P.sta.owTr q) src
    by_cases hi : i < items.length
    · right
      have gi : items[i]? = some items[i] := List.getElem?_eq_getElem hi
      obtain ⟨go, yld⟩ := hgo i _ gi
      rw [List.drop_eq_getElem_cons hi] at e
      refine ⟨go, fun σ'' H'' => ∃ G', PostS g B G1 G' σ σ'' H1 H'' ∧ RelFs g .s (Ow B G' σ'') H'' sv sd ∧ forLoop bd body (items.drop (i + 1)) G' = r0, fun σ'' H'' q => ⟨items.length - (i + 1), by omega, ⟨rfl, hi⟩, q⟩, fun x H2 hy => ?_⟩
      obtain ⟨ex, rx⟩ := yld x H2 hy
      refine ⟨B, G', items[i], P.sta.ex ex, rx, ?_⟩
      unfold forLoop at e
      cases hb : bd items[i] G' with
      | none => rw [hb] at e; rw [← e] at h; exact h.elim
      | some G2 =>
        rw [hb] at e
        intro σ2 P2 _ _
        have Px : PostS g B G1 G2 σ σ2 H1 H2 := (P.trans (Post.pure (p := true) P.sta ex).s).trans P2
        refine fin_tS P2.sta ?_
        dsimp only at e
        have hF : Fin g W fr B G2 σ2 H2 Dn r0 := Fin.after (P1.s.trans Px) h
        cases hr : body G2 with
        | nx G3 =>
          rw [hr] at e
          intro σ3 H3 P3
          exact ⟨G3, Px.trans P3, (RelFs.rel src).fs |> fun q => Paired.mapP q fun v d r => P3.pres v d (P2.pres v d (r.ex ex)), e⟩
        | ct G3 =>
          rw [hr] at e
          intro σ3 H3 P3
          exact ⟨G3, Px.trans P3, (RelFs.rel src).fs |> fun q => Paired.mapP q fun v d r => P3.pres v d (P2.pres v d (r.ex ex)), e⟩
        | bk G3 => rw [hr] at e; rw [← e] at hF; exact hF
        | rt d G3 => rw [hr] at e; rw [← e] at hF; exact hF
        | exc x G3 => rw [hr] at e; rw [← e] at hF; exact hF
        | bad => rw [hr] at e; rw [← e] at hF; exact hF
    · left
      have e1 : i = items.length := by omega
      subst e1
      rw [List.drop_length] at e
      refine ⟨hstop, ?_⟩
      rw [← e] at h
      exact h σ' H' (P1.s.trans P)
theorem t_sWhile {n : Nat} {c : MB} {body : SM} (h : tS g W fr (sWhile n c body) Dn σ H) : tWhile (tT g W p c) (tS g W fr body) Dn σ H := by
  obtain ⟨B, G, S, h⟩ := tS_fin h
  obtain ⟨r0, hr0⟩ : ∃ r0, whLoop c body n G = r0 := ⟨_, rfl⟩
  have h : Fin g W fr B G σ H Dn r0 := by rw [← hr0]; exact h
  refine ⟨fun m σ' H' => ∃ G', PostS g B G G' σ σ' H H' ∧ whLoop c body m G' = r0, ⟨n, G, .refl S, hr0⟩, ?_⟩
  rintro m σ' H' ⟨G', P, e⟩
  rw [← e] at h
  refine ⟨B, G', P.sta, ?_⟩
  cases m with
  | zero => exact h.elim
  | succ m =>
    unfold whLoop at h e
    cases hc : c G' with
    | bad => rw [hc] at h; exact h.elim
    | exc x G1 => rw [hc] at h; exact fun cls dx H2 P2 e => h cls dx σ' H2 (P.trans P2.s) e
    | ok r1 =>
      obtain ⟨b, G1⟩ := r1
      rw [hc] at h e
      intro H2 P2
      cases b with
      | false =>
        show Dn.nx σ' H2
        exact h σ' H2 (P.trans P2.s)
      | true =>
        show ∃ N : L2.St → Hp → Prop, _
        refine ⟨fun σ'' H'' => ∃ G'', PostS g B G G'' σ σ'' H H'' ∧ whLoop c body m G'' = r0, fun σ'' H'' q => ⟨m, Nat.lt_succ_self m, q⟩, fin_tS P2.sta ?_⟩
        dsimp only at h e
        have hF := Fin.after (P.trans P2.s) h
        cases hr : body G1 with
        | nx G3 => rw [hr] at e; exact fun σ3 H3 P3 => ⟨G3, (P.trans P2.s).trans P3, e⟩
        | ct G3 => rw [hr] at e; exact fun σ3 H3 P3 => ⟨G3, (P.trans P2.s).trans P3, e⟩
        | bk G3 => rw [hr] at hF; exact hF
        | rt d G3 => rw [hr] at hF; exact hF
        | exc x G3 => rw [hr] at hF; exact hF
        | bad => rw [hr] at hF; exact hF
end
section
variable {X : Cx} {W : WX} {fr : Bool} {p : Bool} {s : SM} {tg iter : Expr} {pos : Pos} {body : List Stmt}
theorem is_for {js : List Nat} {mi : MI} {bd : Bd} (hp : PassesOwn (model X.prog X.w) X.A X.env X.xe) (hc : X.calm = true) (hi : PI X tg iter (tI (gd X) W .s p mi)) (hg : PG X tg (tG (gd X) js bd)) (hb : PSs X body (tS (gd X) W fr s))
    (hs : ∀ x, foldedSetIterable iter X.env x = pure x := by intro _; rfl) : PS X (.For tg iter body [] pos) (tS (gd X) W fr (sFor mi bd s)) := (ps_for hp hc hi hg hb hs).imp fun D σ H h => t_sFor h
theorem is_while {c : Expr} {cb : MB} (n : Nat) (hp : PassesOwn (model X.prog X.w) X.A X.env X.xe) (hc : PT X c (tT (gd X) W p cb)) (hb : PSs X body (tS (gd X) W fr s)) : PS X (.While c body [] pos) (tS (gd X) W fr (sWhile n cb s)) := (ps_while hp hc hb).imp fun D σ H h => t_sWhile h
end
/-! ### comprehensions given to a name -/
section
variable {X : Cx} {W : WX} {fr : Bool} {fl : Fl} {p0 p1 p2 : Bool} {mi : MI} {bd : Bd} {tst : MB} {elt : M} {e tg iter : Expr} {ifs : List Expr} {scope : Scope} {own : List (Str × Nat)} {pos py spos : Pos} {i : Nat} {y : Str}
theorem tE_set {g : Gd} {m : M} {p : Bool} {Dn : Ends} {σ : L2.St} {H : Hp} (h : tS g W fr (sAsg (bind1 i) m) Dn σ H) : tAsg (tE g W .s p m) (gName i) Dn σ H := by
  have q := t_sAsg (js := [i]) (p := p) h
  obtain ⟨B, G, S, q⟩ := q
  refine ⟨B, G, S, ?_⟩
  cases h1 : m G with
  | bad => rw [h1] at q; exact q.elim
  | exc x G1 => rw [h1] at q; exact q
  | ok r1 =>
    obtain ⟨d1, G1⟩ := r1
    rw [h1] at q
    intro v H' P r
    obtain ⟨B2, G2, d2, S2, r2, q⟩ := q v H' P r
    cases hb : bind1 i d2 G2 with
    | none => rw [hb] at q; exact q.elim
    | some G3 =>
      rw [hb] at q
      exact q _ (bind1_s S2 r2 hb) (fun j hj => set_other (by simpa using hj)) (by simp)
theorem is_setLc (hN : X.N.Nodup) (hc : X.calm = true) (ok : BlkOk X.N X.env.scope scope own) (hb : BdOk (own.map (·.2)) bd) (hi : PI X tg iter (tI (gd X) W fl p0 mi))
    (hg : ∀ (s : Shared) (H : Hp) (C : Addr) (cl : List (Str × Addr)) (fp : List Addr), PG (X.blk s H scope (compEnvC scope cl C X.env) fp) tg (tG (gd X) (own.map (·.2)) bd))
    (ht : ∀ (s : Shared) (H : Hp) (C : Addr) (cl : List (Str × Addr)) (fp : List Addr), PTs (X.blk s H scope (compEnvC scope cl C X.env) fp) ifs (tT (gd X) W0 p1 tst))
    (he : ∀ (s : Shared) (H : Hp) (C : Addr) (cl : List (Str × Addr)) (fp : List Addr), PE (X.blk s H scope (compEnvC scope cl C X.env) fp) e (tE (gd X) W0 .s p2 elt))
    (hsw : swapsWith (.ListComp e [⟨tg, iter, ifs, 0⟩] scope pos) (some (.Name y py)) spos.line X.env = pure true)
    (hy : X.N[i]? = some y := by rfl) (hyl : X.env.scope.names.lookup y = some .local := by rfl) (hsrc : fl.isS = true ∨ (p1 && p2) = true := by first | exact Or.inl rfl | exact Or.inr rfl) (hs : ∀ x, foldedSetIterable iter X.env x = pure x := by intro _; rfl) :
    PS X (.Assign [.Name y py] (.ListComp e [⟨tg, iter, ifs, 0⟩] scope pos) spos) (tS (gd X) W fr (sAsg (bind1 i) (mLc (own.map (·.2)) mi bd tst elt))) :=
  (ps_setLc hc hN hy hyl hsw hi ok hg ht he hs).imp fun D σ H h => t_lc hb hsrc (t_sF (tE_set (p := p0 && (p1 && p2)) h))
theorem is_setLcO (hN : X.N.Nodup) (hc : X.calm = true) (ok : BlkOk X.N X.env.scope scope own) (hb : BdOk (own.map (·.2)) bd) (hi : PI X tg iter (tI (gd X) W fl p0 mi))
    (hg : ∀ (s : Shared) (H : Hp) (C : Addr) (cl : List (Str × Addr)) (fp : List Addr), PG (X.blk s H scope (compEnvC scope cl C X.env) fp) tg (tG (gd X) (own.map (·.2)) bd))
    (ht : ∀ (s : Shared) (H : Hp) (C : Addr) (cl : List (Str × Addr)) (fp : List Addr), PTs (X.blk s H scope (compEnvC scope cl C X.env) fp) ifs (tT (gd X) W0 p1 tst))
    (he : ∀ (s : Shared) (H : Hp) (C : Addr) (cl : List (Str × Addr)) (fp : List Addr), PE (X.blk s H scope (compEnvC scope cl C X.env) fp) e (tE (gd X) W0 .s p2 elt))
    (hsw : swapsWith (.ListComp e [⟨tg, iter, ifs, 0⟩] scope pos) (some (.Name y py)) spos.line X.env = pure true)
    (hy : X.N[i]? = some y := by rfl) (hyl : X.env.scope.names.lookup y = some .local := by rfl) (hsrc : fl.isS = true ∨ (p1 && p2) = true := by first | exact Or.inl rfl | exact Or.inr rfl) (hs : ∀ x, foldedSetIterable iter X.env x = pure x := by intro _; rfl) :
    PS X (.Assign [.Name y py] (.ListComp e [⟨tg, iter, ifs, 0⟩] scope pos) spos) (tS (gd X) W fr (sAsgO i (mLc (own.map (·.2)) mi bd tst elt))) :=
  (ps_setLc hc hN hy hyl hsw hi ok hg ht he hs).imp fun D σ H h => t_lc hb hsrc (t_sAsgO (p := p0 && (p1 && p2)) h)
end
/-! ### own lists written -/
def isLst (s : Option Sl) : Bool := match s with
  | some (.own (.list _)) => true
  | some (.lent (.list _)) => true
  | _ => false
def app1 (i : Nat) : Res (PyData × Env') → SR
  | .ok (d, G1) => (match G1[i]? with
    | some (.own (.list ds)) => if szOk (ds.length + 1) = true then .nx (G1.set i (.own (.list (ds ++ [d])))) else .bad
    | some (.lent (.list ds)) => if szOk (ds.length + 1) = true then .nx (G1.set i (.lent (.list (ds ++ [d])))) else .bad
    | _ => .bad)
  | .exc x G1 => .exc x G1
  | .bad => .bad
/-- x.append(e) -/
def sApp (i : Nat) (m : M) : SM := fun G => if isLst G[i]? = true then app1 i (m G) else .bad
def set1 (i : Nat) (d : PyData) : Res (PyData × Env') → SR
  | .ok (.int j, G2) => (match G2[i]? with
    | some (.own (.list ds)) => (match ixN ds.length j with
      | some k => .nx (G2.set i (.own (.list (ds.set k d))))
      | none => .bad)
    | some (.lent (.list ds)) => (match ixN ds.length j with
      | some k => .nx (G2.set i (.lent (.list (ds.set k d))))
      | none => .bad)
    | _ => .bad)
  | .ok _ => .bad
  | .exc x G2 => .exc x G2
  | .bad => .bad
/-- x[j] = e -/
def sSetL (i : Nat) (m mj : M) : SM := fun G => match m G with
  | .ok (d, G1) => if isLst G1[i]? = true then set1 i d (mj G1) else .bad
  | .exc x G1 => .exc x G1
  | .bad => .bad
section
variable {g : Gd} {W : WX} {fr : Bool} {B : Bs} {G G1 G2 : Env'} {σ : L2.St} {H : Hp} {Dn : Ends} {fl : Fl} {p p2 : Bool} {m mj : M} {i : Nat}
theorem OwnAt.lst_of {g : Gd} {E : Addr → Prop} {H : Hp} {a : Addr} {ds : List PyData} (h : OwnAt g E H a (.list ds)) : ∃ xs, H a = Option.some (HO.lst xs) ∧ RelDs g E H xs ds := by
  cases h with | lst h r => exact ⟨_, h, r⟩
theorem RelDs.upd {g : Gd} {E : Addr → Prop} {H : Hp} {a : Addr} {o o' : HO} (c : Ch H a) (hE : E a) {xs : List V} {ds : List PyData} (h : RelDs g E H xs ds) : RelDs g E (upd H a o) xs ds :=
  h.keep (M := fun b => b = a) (fun b u e n => by rw [upd_ne n]; exact e) (fun b e => by rw [e]; exact c) (fun b e => by rw [e]; exact hE) fun _ q _ => q
theorem slot_lst (S : Sta g B G σ H) {ds : List PyData} {k : PyData → Sl} (hk : k = .own ∨ k = .lent) (h : G[i]? = some (k (.list ds))) : ∃ a xs, σ[i]? = some (some (.ref a)) ∧ H a = some (.lst xs) ∧ RelDs g (Ow B G σ) H xs ds ∧ Own G σ a := by
  rcases hk with rfl | rfl
  · obtain ⟨a, hs, _, _, o⟩ := S.own i _ h
    obtain ⟨xs, e, r⟩ := o.lst_of
    exact ⟨a, xs, hs, e, r, i, _, .inl h, hs⟩
  · obtain ⟨hs, _, o⟩ := S.lent i _ h
    obtain ⟨xs, e, r⟩ := o.lst_of
    exact ⟨_, xs, hs, e, r, i, _, .inr h, hs⟩
/-- the list of slot i is written -/
theorem slot_write (S : Sta g B G σ H) {ds ds' : List PyData} {k : PyData → Sl} (hk : k = .own ∨ k = .lent) (h : G[i]? = some (k (.list ds))) {a : Addr} {xs ys : List V} (hs : σ[i]? = some (some (.ref a))) (he : H a = some (.lst xs)) (ho : Own G σ a) (r : RelDs g (Ow B G σ) H ys ds') :
    Post g B false G (G.set i (k (.list ds'))) σ H (upd H a (.lst ys)) :=
  S.write hk h hs (.lst upd_same (r.upd (o' := .lst ys) (.inl ⟨xs, he⟩) (.inr ho)))
theorem isLst_of {s : Option Sl} (h : isLst s = true) : ∃ (k : PyData → Sl) (ds : List PyData), (k = .own ∨ k = .lent) ∧ s = some (k (.list ds)) := by
  unfold isLst at h
  split at h
  · exact ⟨_, _, .inl rfl, rfl⟩
  · exact ⟨_, _, .inr rfl, rfl⟩
  · cases h
theorem t_sApp (h : tS g W fr (sApp i m) Dn σ H) : tDrop (tBM g.K "list" rAppend (tVar i) (tCons (tE g W .s p m) tNil)) Dn σ H := by
  obtain ⟨B, G, S, h⟩ := tS_fin h
  unfold sApp at h
  by_cases c : isLst G[i]? = true
  · rw [if_pos c] at h
    obtain ⟨k, ds, hk, hG⟩ := isLst_of c
    obtain ⟨a, xs, hs, he, _, _⟩ := slot_lst S hk hG
    refine ⟨.ref a, hs, .inl ⟨rfl, xs, .inl (.inl he)⟩, B, G, S, ?_⟩
    cases h1 : m G with
    | bad => rw [h1] at h; exact h.elim
    | exc x G1 => rw [h1] at h; exact fun cls dx H' P e => h cls dx σ H' P.s e
    | ok r1 =>
      obtain ⟨d1, G1⟩ := r1
      rw [h1] at h
      intro v H' P r
      have go : ∀ (k : PyData → Sl) (ds : List PyData), (k = .own ∨ k = .lent) → G1[i]? = some (k (.list ds)) → szOk (ds.length + 1) = true → Fin g W fr B G σ H Dn (.nx (G1.set i (k (.list (ds ++ [d1]))))) → rAppend (.ref a) [v] H' fun _ H1 => Dn.nx σ H1 := fun k ds hk hG z h => by
        obtain ⟨a', ys, hs', he2, ra, ho⟩ := slot_lst P.sta hk hG
        have ea : a' = a := by
          rw [hs] at hs'; injection hs' with hs'; injection hs' with hs'; injection hs' with hs'; exact hs'.symm
        subst ea
        exact ⟨a', ys, v, rfl, rfl, he2, by rw [ra.length]; exact szOk_lt z, h σ _ (P.s.trans (slot_write P.sta hk hG hs he2 ho (ra.append (.one r))).s)⟩
      unfold app1 at h
      dsimp only at h
      cases q : G1[i]? with
      | none => rw [q] at h; exact h.elim
      | some s =>
        rw [q] at h
        cases s with
        | own d =>
          cases d with
          | list ds =>
            dsimp only at h
            by_cases z : szOk (ds.length + 1) = true
            · rw [if_pos z] at h; exact go .own ds (.inl rfl) q z h
            · rw [if_neg z] at h; exact h.elim
          | _ => exact h.elim
        | lent d =>
          cases d with
          | list ds =>
            dsimp only at h
            by_cases z : szOk (ds.length + 1) = true
            · rw [if_pos z] at h; exact go .lent ds (.inr rfl) q z h
            · rw [if_neg z] at h; exact h.elim
          | _ => exact h.elim
        | _ => exact h.elim
  · rw [if_neg c] at h; exact h.elim
theorem t_sSetL (h : tS g W fr (sSetL i m mj) Dn σ H) : tAsg (tE g W .s p m) (gSub (tVar i) (tE g W fl p2 mj) rSetL) Dn σ H := by
  obtain ⟨B, G, S, h⟩ := tS_fin h
  refine ⟨B, G, S, ?_⟩
  unfold sSetL at h
  cases h1 : m G with
  | bad => rw [h1] at h; exact h.elim
  | exc x G1 => rw [h1] at h; exact fun cls dx H' P e => h cls dx σ H' P.s e
  | ok r1 =>
    obtain ⟨d1, G1⟩ := r1
    rw [h1] at h
    intro v H1 P1 r1
    dsimp only at h
    by_cases c : isLst G1[i]? = true
    · rw [if_pos c] at h
      obtain ⟨k, ds, hk, hG⟩ := isLst_of c
      obtain ⟨a, xs, hs, he, _, _⟩ := slot_lst P1.sta hk hG
      refine ⟨.ref a, hs, B, G1, P1.sta, ?_⟩
      cases h2 : mj G1 with
      | bad => rw [h2] at h; exact h.elim
      | exc x G2 => rw [h2] at h; exact fun cls dx H' P e => h cls dx σ H' (P1.s.trans P.s) e
      | ok r2 =>
        obtain ⟨dj, G2⟩ := r2
        rw [h2] at h
        intro u H2 P2 r2
        have rv : RelD g (Ow B G2 σ) H2 v d1 := P2.pres v d1 r1
        cases dj with
        | int j =>
          cases r2.w.int_of
          have go : ∀ (k : PyData → Sl) (ds : List PyData) (n : Nat), (k = .own ∨ k = .lent) → G2[i]? = some (k (.list ds)) → ixN ds.length j = some n → Fin g W fr B G σ H Dn (.nx (G2.set i (k (.list (ds.set n d1))))) → rSetL (.ref a) (.int j) v H2 fun H3 => Dn.nx σ H3 := fun k ds n hk hG hn h => by
            obtain ⟨a', ys, hs', he2, ra, ho⟩ := slot_lst P2.sta hk hG
            have ea : a' = a := by
              rw [hs] at hs'; injection hs' with hs'; injection hs' with hs'; injection hs' with hs'; exact hs'.symm
            subst ea
            exact ⟨a', ys, j, n, rfl, rfl, he2, by rw [ra.length]; exact hn, h σ _ ((P1.s.trans P2.s).trans (slot_write P2.sta hk hG hs he2 ho (RelDs.set rv n ra)).s)⟩
          unfold set1 at h
          dsimp only at h
          cases q : G2[i]? with
          | none => rw [q] at h; exact h.elim
          | some s =>
            rw [q] at h
            cases s with
            | own d =>
              cases d with
              | list ds =>
                dsimp only at h
                cases z : ixN ds.length j with
                | none => rw [z] at h; exact h.elim
                | some n => rw [z] at h; exact go .own ds n (.inl rfl) q z h
              | _ => exact h.elim
            | lent d =>
              cases d with
              | list ds =>
                dsimp only at h
                cases z : ixN ds.length j with
                | none => rw [z] at h; exact h.elim
                | some n => rw [z] at h; exact go .lent ds n (.inr rfl) q z h
              | _ => exact h.elim
            | _ => exact h.elim
        | _ => exact h.elim
    · rw [if_neg c] at h; exact h.elim
end
section
variable {X : Cx} {W : WX} {fr : Bool} {fl : Fl} {p p2 : Bool} {m mj : M} {i : Nat} {x : Str} {px apos cpos pos : Pos} {e ej : Expr}
theorem is_app (he : PE X e (tE (gd X) W .s p m)) (hN : X.N[i]? = some x := by rfl) (hv : Vis X.env.scope x := by first | exact Or.inl rfl | exact Or.inr (Or.inl rfl) | exact Or.inr (Or.inr rfl)) (hd : (x == ("__debug__" : Str)) = false := by decide) (hcd : (x == ("__classdict__" : Str)) = false := by decide)
    (hfew : ((backTo cpos (starEach [e] X.env)).all (fun x => !x.1) && (backToKw cpos (keywordEach [] X.env)).all (fun x => x.1.isSome)
      && decide ([e].length + ([] : List Keyword).length + (if ([] : List Keyword).isEmpty then 0 else 1) < 30)) = true := by rfl)
    (hline : (apos.endLine == cpos.line) = true := by rfl) (hse : starEach [e] X.env = (false, eval e X.env) :: starEach [] X.env := by rfl)
    (hbase : attributeBase (.Name x px) "append" X.env (eval (.Name x px) X.env) = eval (.Name x px) X.env := by rfl)
    (hs : swapsWith (.Call (.Attribute (.Name x px) "append" apos) [e] [] cpos) none pos.line X.env = pure false := by rfl) :
    PS X (.Expr (.Call (.Attribute (.Name x px) "append" apos) [e] [] cpos) pos) (tS (gd X) W fr (sApp i m)) :=
  (ps_expr (pe_bm PySem.F.plainAttrs_list PySem.F.slot_list_append PySem.F.type_list_append mt_append (pe_var hN hv hd hcd) (pa_cons he pa_nil hse) hbase hfew hline hse rfl) hs).imp fun D σ H h => t_sApp h
theorem is_setL (he : PE X e (tE (gd X) W .s p m)) (hj : PE X ej (tE (gd X) W fl p2 mj)) (hN : X.N[i]? = some x := by rfl) (hv : Vis X.env.scope x := by first | exact Or.inl rfl | exact Or.inr (Or.inl rfl) | exact Or.inr (Or.inr rfl)) (hd : (x == ("__debug__" : Str)) = false := by decide) (hcd : (x == ("__classdict__" : Str)) = false := by decide)
    (ha : ∀ v, assign (.Subscript (.Name x px) ej apos) X.env v = (do
      let ov ← holding [v] (eval (.Name x px) X.env)
      let iv ← holding [v, ov] (eval ej X.env)
      standAt apos
      holding [v, ov, iv] (setItem ov iv v)
      release [v, ov, iv] []) := by intro _; rfl)
    (hs : swapsWithSole [.Subscript (.Name x px) ej apos] e pos.line X.env = pure false := by rfl) (hw : swappedStores [.Subscript (.Name x px) ej apos] e X.env = pure none := by rfl)
    (h1 : (assignEach [.Subscript (.Name x px) ej apos] X.env).map (·.2) = [assign (.Subscript (.Name x px) ej apos) X.env] := by rfl) :
    PS X (.Assign [.Subscript (.Name x px) ej apos] e pos) (tS (gd X) W fr (sSetL i m mj)) :=
  (ps_asg he (pg_sub (pe_var hN hv hd hcd) hj set_list ha) hs hw h1).imp fun D σ H h => t_sSetL h
end
end Mo

/-! MoJ: defs and their calls. -/
namespace Mo
open PySem PySem.Spec PyProof.Rows L2
/-- how an argument is handed over: a value; an object lent; a known address -/
inductive AK | val | lent | adr (a : Addr)
inductive FR | ok (d : PyData) (outs : List PyData) | exc (x : Exn) (outs : List PyData) | bad
/-- a def's meaning -/
abbrev Fn := List PyData → FR
def LA (io : List AK) (vs : List V) (a : Addr) : Prop := ∃ i : Nat, io[i]? = some .lent ∧ vs[i]? = some (.ref a)
structure ArgsOk (g : Gd) (E0 : Addr → Prop) (io : List AK) (vs : List V) (ds : List PyData) (H : Hp) : Prop where
  lv : vs.length = io.length
  ld : ds.length = io.length
  etr : ∀ a, E0 a → (H a).isSome = true
  val : ∀ i : Nat, io[i]? = some .val → ∃ v d, vs[i]? = some v ∧ ds[i]? = some d ∧ RelD g (fun b => E0 b ∨ LA io vs b) H v d
  lent : ∀ i : Nat, io[i]? = some .lent → ∃ a d, vs[i]? = some (.ref a) ∧ ds[i]? = some d ∧ ¬ E0 a ∧ OwnAt g (fun b => E0 b ∨ LA io vs b) H a d
  adr : ∀ (i : Nat) (a : Addr), io[i]? = some (.adr a) → vs[i]? = some (.ref a)
  uni : ∀ (i j : Nat) (a : Addr), io[i]? = some .lent → io[j]? = some .lent → vs[i]? = some (.ref a) → vs[j]? = some (.ref a) → i = j
def OutsOk (g : Gd) (E : Addr → Prop) (io : List AK) (vs : List V) (outs : List PyData) (H : Hp) : Prop :=
  ∀ i : Nat, io[i]? = some .lent → ∃ a o, vs[i]? = some (.ref a) ∧ outs[i]? = some o ∧ OwnAt g E H a o
/-- a def's promise -/
def spF (g : Gd) (io : List AK) (fr : Bool) (F : Fn) : Sp := fun vs H Q E => ∃ E0 ds, ArgsOk g E0 io vs ds H ∧ match F ds with
  | .ok d outs => if (fr && isObj d) = true then
      ∀ a H', Keep (LA io vs) H H' → H a = none → OutsOk g (fun b => (E0 b ∨ LA io vs b) ∨ b = a) io vs outs H' → OwnAt g (fun b => (E0 b ∨ LA io vs b) ∨ b = a) H' a d → Q (.ref a) H'
    else ∀ v H', Keep (LA io vs) H H' → OutsOk g (fun b => E0 b ∨ LA io vs b) io vs outs H' → RelD g (fun b => E0 b ∨ LA io vs b) H' v d → Q v H'
  | .exc x outs => ∀ cls dx H', Keep (LA io vs) H H' → OutsOk g (fun b => E0 b ∨ LA io vs b) io vs outs H' → ExcAt g (fun b => E0 b ∨ LA io vs b) H' x cls dx → E cls dx H'
  | .bad => False
/-! ### a def by its body -/
def argSl : AK → PyData → Sl
  | .val, d => .val d
  | .lent, d => .lent d
  | .adr a, _ => .adr a
def startG (io : List AK) (ds : List PyData) (n : Nat) : Env' := List.zipWith argSl io ds ++ List.replicate (n - io.length) .un
def outsOf (k : Nat) (G : Env') : List PyData := (G.take k).map fun s => match s with
  | .lent d => d
  | _ => .none
def bodyF (io : List AK) (n : Nat) (s : SM) : Fn := fun ds => match s (startG io ds n) with
  | .nx G => .ok .none (outsOf io.length G)
  | .rt d G => .ok d (outsOf io.length G)
  | .exc x G => .exc x (outsOf io.length G)
  | _ => .bad
theorem startG_at {io : List AK} {ds : List PyData} {n i : Nat} {k : AK} {d : PyData} (h1 : io[i]? = some k) (h2 : ds[i]? = some d) : (startG io ds n)[i]? = some (argSl k d) := by
  have a1 := (List.getElem?_eq_some_iff.mp h1).1
  have a2 := (List.getElem?_eq_some_iff.mp h2).1
  unfold startG
  rw [List.getElem?_append_left (by rw [List.length_zipWith]; omega), List.getElem?_zipWith, h1, h2]
theorem startG_inv {io : List AK} {ds : List PyData} {n i : Nat} {s : Sl} (hl : ds.length = io.length) (h : (startG io ds n)[i]? = some s) : (∃ k d, io[i]? = some k ∧ ds[i]? = some d ∧ s = argSl k d) ∨ s = .un := by
  unfold startG at h
  by_cases c : i < io.length
  · rw [List.getElem?_append_left (by rw [List.length_zipWith]; omega), List.getElem?_zipWith, List.getElem?_eq_getElem c, List.getElem?_eq_getElem (by omega : i < ds.length)] at h
    exact .inl ⟨io[i], ds[i], List.getElem?_eq_getElem c, List.getElem?_eq_getElem (by omega), (Option.some.inj h).symm⟩
  · rw [List.getElem?_append_right (by rw [List.length_zipWith]; omega)] at h
    exact .inr (List.eq_of_mem_replicate (List.mem_of_getElem? h))
theorem startσ_at {N : List Str} {vs : List V} {i : Nat} {v : V} (h : vs[i]? = some v) : (L2.start N vs)[i]? = some (some v) := by
  have a1 := (List.getElem?_eq_some_iff.mp h).1
  unfold L2.start
  rw [List.getElem?_append_left (by rw [List.length_map]; exact a1), List.getElem?_map, h]
  rfl
section
variable {g : Gd} {E0 : Addr → Prop} {io : List AK} {vs : List V} {ds : List PyData} {H : Hp} {N : List Str}
def baseOf (E0 : Addr → Prop) (vs : List V) (H : Hp) : Bs := ⟨E0, fun i => match vs[i]? with
  | some (.ref a) => a
  | _ => 0, H⟩
theorem baseOf_L {i : Nat} {a : Addr} (h : vs[i]? = some (.ref a)) : (baseOf E0 vs H).L i = a := by
  show (match vs[i]? with
    | some (.ref a) => a
    | _ => 0) = a
  rw [h]
theorem start_own (A : ArgsOk g E0 io vs ds H) (a : Addr) : Own (startG io ds N.length) (L2.start N vs) a ↔ LA io vs a := by
  constructor
  · rintro ⟨i, d, c, s⟩
    have hk : io[i]? = some .lent := by
      rcases c with c | c
      · rcases startG_inv A.ld c with ⟨k, e, h1, h2, h3⟩ | h3
        · cases k <;> simp [argSl] at h3
        · cases h3
      · rcases startG_inv A.ld c with ⟨k, e, h1, h2, h3⟩ | h3
        · cases k with
          | lent => exact h1
          | _ => simp [argSl] at h3
        · cases h3
    obtain ⟨b, e, hv, _⟩ := A.lent i hk
    rw [startσ_at hv] at s
    injection s with s; injection s with s; injection s with s
    exact ⟨i, hk, by rw [hv, s]⟩
  · rintro ⟨i, hk, hv⟩
    obtain ⟨b, d, _, hd, _⟩ := A.lent i hk
    exact ⟨i, d, .inr (startG_at hk hd), startσ_at hv⟩
theorem start_ow (A : ArgsOk g E0 io vs ds H) : Ow (baseOf E0 vs H) (startG io ds N.length) (L2.start N vs) = fun b => E0 b ∨ LA io vs b := funext fun a => propext (or_congr Iff.rfl (start_own A a))
theorem start_sta (A : ArgsOk g E0 io vs ds H) (hN : io.length ≤ N.length) : Sta g (baseOf E0 vs H) (startG io ds N.length) (L2.start N vs) H := by
  have ow := start_ow (N := N) A
  refine ⟨?_, fun i d h => ?_, fun i d h => ?_, fun i d h => ?_, fun i a h => ?_, fun i j a h1 h2 s1 s2 => ?_, fun a o h _ => h, A.etr⟩
  · unfold startG L2.start
    rw [List.length_append, List.length_append, List.length_zipWith, List.length_map, List.length_replicate, List.length_replicate, A.ld, A.lv]
    omega
  · rw [ow]
    rcases startG_inv A.ld h with ⟨k, e, h1, h2, h3⟩ | h3
    · cases k with
      | val =>
        obtain ⟨v, d', hv, hd, r⟩ := A.val i h1
        rw [h2] at hd; cases hd
        cases h3
        exact ⟨v, startσ_at hv, r⟩
      | _ => simp [argSl] at h3
    · cases h3
  · rcases startG_inv A.ld h with ⟨k, e, h1, h2, h3⟩ | h3
    · cases k <;> simp [argSl] at h3
    · cases h3
  · rw [ow]
    rcases startG_inv A.ld h with ⟨k, e, h1, h2, h3⟩ | h3
    · cases k with
      | lent =>
        obtain ⟨a, d', hv, hd, n, o⟩ := A.lent i h1
        rw [h2] at hd; cases hd
        cases h3
        rw [baseOf_L hv]
        exact ⟨startσ_at hv, n, o⟩
      | _ => simp [argSl] at h3
    · cases h3
  · rcases startG_inv A.ld h with ⟨k, e, h1, h2, h3⟩ | h3
    · cases k with
      | adr b =>
        cases h3
        exact startσ_at (A.adr i _ h1)
      | _ => simp [argSl] at h3
    · cases h3
  · have back : ∀ i : Nat, (∃ d, (startG io ds N.length)[i]? = some (.own d) ∨ (startG io ds N.length)[i]? = some (.lent d)) → (L2.start N vs)[i]? = some (some (.ref a)) → io[i]? = some .lent ∧ vs[i]? = some (.ref a) := fun i ⟨d, c⟩ s => by
      have hk : io[i]? = some .lent := by
        rcases c with c | c
        · rcases startG_inv A.ld c with ⟨k, e, h1, h2, h3⟩ | h3
          · cases k <;> simp [argSl] at h3
          · cases h3
        · rcases startG_inv A.ld c with ⟨k, e, h1, h2, h3⟩ | h3
          · cases k with
            | lent => exact h1
            | _ => simp [argSl] at h3
          · cases h3
      obtain ⟨b, e, hv, _⟩ := A.lent i hk
      rw [startσ_at hv] at s
      injection s with s; injection s with s; injection s with s
      exact ⟨hk, by rw [hv, s]⟩
    obtain ⟨k1, v1⟩ := back i h1 s1
    obtain ⟨k2, v2⟩ := back j h2 s2
    exact A.uni i j a k1 k2 v1 v2
theorem start_lent (A : ArgsOk g E0 io vs ds H) {G' : Env'} (hl : ∀ i : Nat, (∃ d, G'[i]? = some (.lent d)) ↔ ∃ d, (startG io ds N.length)[i]? = some (.lent d)) {a : Addr} (h : Lent G' (baseOf E0 vs H) a) : LA io vs a := by
  obtain ⟨i, d, c, e⟩ := h
  obtain ⟨d', c'⟩ := (hl i).mp ⟨d, c⟩
  rcases startG_inv A.ld c' with ⟨k, e', h1, h2, h3⟩ | h3
  · cases k with
    | lent =>
      obtain ⟨b, _, hv, _⟩ := A.lent i h1
      rw [baseOf_L hv] at e
      subst e
      exact ⟨i, h1, hv⟩
    | _ => simp [argSl] at h3
  · cases h3
/-- the lent objects at the end -/
theorem end_outs (A : ArgsOk g E0 io vs ds H) (hN : io.length ≤ N.length) {B' : Bs} (hB : B'.L = (baseOf E0 vs H).L) {G' : Env'} {σ' : L2.St} {H' : Hp} (hl : ∀ i : Nat, (∃ d, G'[i]? = some (.lent d)) ↔ ∃ d, (startG io ds N.length)[i]? = some (.lent d)) (S : Sta g B' G' σ' H') {E : Addr → Prop} (hE : ∀ b, E b → Ow B' G' σ' b) :
    OutsOk g E io vs (outsOf io.length G') H' := fun i hk => by
  obtain ⟨a, d, hv, hd, _⟩ := A.lent i hk
  obtain ⟨o, c⟩ := (hl i).mpr ⟨d, startG_at hk hd⟩
  obtain ⟨_, _, oo⟩ := S.lent i o c
  rw [hB, baseOf_L hv] at oo
  have i1 := (List.getElem?_eq_some_iff.mp hk).1
  refine ⟨a, o, hv, ?_, oo.keep (M := fun _ => False) (Ex.refl H').keep (fun _ q => q.elim) (fun _ q => q.elim) (fun b q _ => hE b q) fun q => q⟩
  unfold outsOf
  rw [List.getElem?_map, List.getElem?_take, if_pos i1, c]
  rfl
theorem end_sub (A : ArgsOk g E0 io vs ds H) {B' : Bs} (hB : B'.L = (baseOf E0 vs H).L) (hE : ∀ b, E0 b → B'.E b) {G' : Env'} {σ' : L2.St} {H' : Hp} (hl : ∀ i : Nat, (∃ d, G'[i]? = some (.lent d)) ↔ ∃ d, (startG io ds N.length)[i]? = some (.lent d)) (S : Sta g B' G' σ' H') : ∀ b, E0 b ∨ LA io vs b → Ow B' G' σ' b := fun b h => by
  rcases h with h | ⟨i, hk, hv⟩
  · exact .inl (hE b h)
  · obtain ⟨a, d, _, hd, _⟩ := A.lent i hk
    obtain ⟨o, c⟩ := (hl i).mpr ⟨d, startG_at hk hd⟩
    obtain ⟨e1, _⟩ := S.lent i o c
    rw [hB, baseOf_L hv] at e1
    exact .inr ⟨i, o, .inr c, e1⟩
end
/-- THE RULE for a def -/
theorem fn_body {P : Program} {w : World} {K : PySem.W.Frag} {mg : Str → Option Value} {base : Heap} {x qual : Str} {params : Arguments} {body : List Stmt} {scope : Scope} {f : Addr} {fd : FuncData} {N ps : List Str} {k : Nat} {io : List AK} {fr : Bool} {s : SM}
    (F : FunD K x qual params body scope [] [] f fd) (S : FnScope N ps scope) (hio : io.length = ps.length) (hN : io.length ≤ N.length)
    (hbody : ∀ (cdv : Value) (A : Around) (outer : List Env) (s0 : Shared) (H : Hp) (E : XK), Room k (A.deeper (envOfC qual scope s0.heap.objs.size f cdv)) →
      PSs (cxOf (L2.CX P w) P w K mg base N qual scope f cdv A outer s0 H E) body (tS ⟨P, w, K, mg⟩ (fun cls d _ H => E cls d H) fr s)) :
    FnOk P w K mg base (L2.CX P w) (k + 1) f fd ps (spF ⟨P, w, K, mg⟩ io fr (bodyF io N.length s)) := by
  refine F.ok S (fun vs H Q E h => ?_) fun cdv A outer s0 H vs Q E hr h => ⟨_, hbody cdv A outer s0 H E hr, ?_⟩
  · obtain ⟨E0, ds, A, _⟩ := h
    rw [A.lv, hio]
  · obtain ⟨E0, ds, A, h⟩ := h
    have S0 := start_sta (N := N) A hN
    refine fin_tS S0 ?_
    unfold bodyF at h
    have kp : ∀ {G' : Env'} {σ' : L2.St} {H' : Hp}, PostS ⟨P, w, K, mg⟩ (baseOf E0 vs H) (startG io ds N.length) G' (L2.start N vs) σ' H H' → Keep (LA io vs) H H' := fun {G'} {σ'} {H'} P a o e n => P.sta.ent a o e fun l => n (start_lent A P.lnt l)
    cases hs : s (startG io ds N.length) with
    | nx G' =>
      rw [hs] at h
      intro σ' H' P
      dsimp only at h
      rw [if_neg (by simp [isObj])] at h
      exact h .non H' (kp P) (end_outs A hN rfl P.lnt P.sta (end_sub A rfl (fun _ q => q) P.lnt P.sta)) .non
    | rt d G' =>
      rw [hs] at h
      dsimp only at h
      show Rtn _ _ _ _ _ _ _ _ _
      unfold Rtn
      by_cases c : (fr && isObj d) = true
      · rw [if_pos c] at h ⊢
        intro a σ' H' P SX z o
        have sb := end_sub (B' := ⟨fun b => E0 b ∨ b = a, (baseOf E0 vs H).L, H⟩) A rfl (fun _ q => .inl q) P.lnt SX
        refine h a H' (kp P) z (end_outs (B' := ⟨fun b => E0 b ∨ b = a, (baseOf E0 vs H).L, H⟩) A hN rfl P.lnt SX fun b q => q.elim (sb b) fun q => .inl (.inr q)) (o.keep (M := fun _ => False) (Ex.refl H').keep (fun _ q => q.elim) (fun _ q => q.elim) (fun b q _ => q.elim (fun q => .inl (end_sub A rfl (fun _ q => q) P.lnt P.sta b q)) .inr) fun q => q)
      · rw [if_neg c] at h ⊢
        intro v σ' H' P r
        exact h v H' (kp P) (end_outs A hN rfl P.lnt P.sta (end_sub A rfl (fun _ q => q) P.lnt P.sta)) (r.sub (end_sub A rfl (fun _ q => q) P.lnt P.sta))
    | exc x G' =>
      rw [hs] at h
      intro cls dx σ' H' P e
      exact h cls dx H' (kp P) (end_outs A hN rfl P.lnt P.sta (end_sub A rfl (fun _ q => q) P.lnt P.sta)) e.any
    | bk G' => rw [hs] at h; exact h.elim
    | ct G' => rw [hs] at h; exact h.elim
    | bad => rw [hs] at h; exact h.elim
end Mo

/-! MoK: calls of own defs. -/
namespace Mo
open PySem PySem.Spec PyProof.Rows L2
inductive Arg | e (m : M) | io (j : Nat) | vw (j : Nat) | fn (a : Addr)
def isOwn (s : Option Sl) : Bool := match s with
  | some (.own _) => true
  | some (.lent _) => true
  | _ => false
def ownD (s : Option Sl) : Option PyData := match s with
  | some (.own d) => some d
  | some (.lent d) => some d
  | _ => none
def evArgs : List Arg → Env' → Res (List PyData × Env')
  | [], G => .ok ([], G)
  | .e m :: r, G => match m G with
    | .ok (d, G1) => (match evArgs r G1 with
      | .ok (ds, G2) => .ok (d :: ds, G2)
      | .exc x G2 => .exc x G2
      | .bad => .bad)
    | .exc x G1 => .exc x G1
    | .bad => .bad
  | .io j :: r, G => if isOwn G[j]? = true then (match evArgs r G with
      | .ok (ds, G2) => (match ownD G2[j]? with
        | some d => .ok (d :: ds, G2)
        | none => .bad)
      | .exc x G2 => .exc x G2
      | .bad => .bad) else .bad
  | .vw j :: r, G => if isOwn G[j]? = true then (match evArgs r G with
      | .ok (ds, G2) => (match ownD G2[j]? with
        | some d => .ok (d :: ds, G2)
        | none => .bad)
      | .exc x G2 => .exc x G2
      | .bad => .bad) else .bad
  | .fn _ :: r, G => match evArgs r G with
    | .ok (ds, G2) => .ok (.none :: ds, G2)
    | .exc x G2 => .exc x G2
    | .bad => .bad
def akOf : Arg → AK
  | .e _ => .val
  | .io _ => .lent
  | .vw _ => .val
  | .fn a => .adr a
inductive ArgRel (g : Gd) (B : Bs) (G : Env') (σ : L2.St) (H : Hp) : List Arg → List V → List PyData → Prop
  | nil : ArgRel g B G σ H [] [] []
  | e {m : M} {r vs ds v d} : RelD g (Ow B G σ) H v d → ArgRel g B G σ H r vs ds → ArgRel g B G σ H (.e m :: r) (v :: vs) (d :: ds)
  | io {j : Nat} {r vs ds a d} : (G[j]? = some (.own d) ∨ G[j]? = some (.lent d)) → σ[j]? = some (some (.ref a)) → ArgRel g B G σ H r vs ds → ArgRel g B G σ H (.io j :: r) (.ref a :: vs) (d :: ds)
  | vw {j : Nat} {r vs ds a d} : (G[j]? = some (.own d) ∨ G[j]? = some (.lent d)) → σ[j]? = some (some (.ref a)) → ArgRel g B G σ H r vs ds → ArgRel g B G σ H (.vw j :: r) (.ref a :: vs) (d :: ds)
  | fn {a : Addr} {r vs ds} : ArgRel g B G σ H r vs ds → ArgRel g B G σ H (.fn a :: r) (.ref a :: vs) (.none :: ds)
def tAO (g : Gd) (W : WX) (p : Bool) (args : List Arg) : TA := fun σ H Q => ∃ B G, Sta g B G σ H ∧ match evArgs args G with
  | .ok (ds, G') => ∀ vs H', Post g B p G G' σ H H' → ArgRel g B G' σ H' args vs ds → Q vs H'
  | .exc x G' => ∀ cls dx H', Post g B false G G' σ H H' → ExcAt g (Ow B G' σ) H' x cls dx → W cls dx σ H'
  | .bad => False
section
variable {g : Gd} {W : WX} {B : Bs} {G G1 : Env'} {σ : L2.St} {H H1 : Hp} {p p1 p2 : Bool} {m : M} {r : List Arg} {Q : List V → Hp → Prop}
theorem isOwn_of {s : Option Sl} (h : isOwn s = true) : ∃ d, s = some (.own d) ∨ s = some (.lent d) := by
  unfold isOwn at h
  split at h
  · exact ⟨_, .inl rfl⟩
  · exact ⟨_, .inr rfl⟩
  · cases h
theorem ownD_of {s : Option Sl} {d : PyData} (h : ownD s = some d) : s = some (.own d) ∨ s = some (.lent d) := by
  unfold ownD at h
  split at h
  · cases h; exact .inl rfl
  · cases h; exact .inr rfl
  · cases h
theorem own_addr (S : Sta g B G σ H) {j : Nat} {d : PyData} (h : G[j]? = some (.own d) ∨ G[j]? = some (.lent d)) : ∃ a, σ[j]? = some (some (.ref a)) := by
  rcases h with h | h
  · obtain ⟨a, e, _⟩ := S.own j d h; exact ⟨a, e⟩
  · exact ⟨_, (S.lent j d h).1⟩
theorem t_oNil (h : tAO g W p [] σ H Q) : tNil σ H Q := by
  obtain ⟨B, G, S, h⟩ := h
  exact h [] H (.refl S) .nil
theorem t_oE (h : tAO g W (p1 && p2) (.e m :: r) σ H Q) : tCons (tE g W .s p1 m) (tAO g W p2 r) σ H Q := by
  obtain ⟨B, G, S, h⟩ := h
  refine ⟨B, G, S, ?_⟩
  unfold evArgs at h
  cases h1 : m G with
  | bad => rw [h1] at h; exact h.elim
  | exc x G1 => rw [h1] at h; exact h
  | ok r1 =>
    obtain ⟨d1, G1⟩ := r1
    rw [h1] at h
    intro x H1 P1 R1
    refine ⟨B, G1, P1.sta, ?_⟩
    dsimp only at h
    cases h2 : evArgs r G1 with
    | bad => rw [h2] at h; exact h.elim
    | exc x G2 => rw [h2] at h; exact fun cls dx H' P2 e => h cls dx H' (P1.trans' P2) e
    | ok r2 =>
      obtain ⟨ds, G2⟩ := r2
      rw [h2] at h
      exact fun vs H2 P2 R2 => h (x :: vs) H2 (P1.trans P2) (.e (P2.pres x d1 R1) R2)
theorem t_oIo {j : Nat} (h : tAO g W p (.io j :: r) σ H Q) : tCons (tVar j) (tAO g W p r) σ H Q := by
  obtain ⟨B, G, S, h⟩ := h
  unfold evArgs at h
  by_cases c : isOwn G[j]? = true
  · rw [if_pos c] at h
    obtain ⟨d, hd⟩ := isOwn_of c
    obtain ⟨a, ha⟩ := own_addr S hd
    refine ⟨.ref a, ha, B, G, S, ?_⟩
    cases h2 : evArgs r G with
    | bad => rw [h2] at h; exact h.elim
    | exc x G2 => rw [h2] at h; exact h
    | ok r2 =>
      obtain ⟨ds, G2⟩ := r2
      rw [h2] at h
      dsimp only at h
      cases h3 : ownD G2[j]? with
      | none => rw [h3] at h; exact h.elim
      | some d2 =>
        rw [h3] at h
        exact fun vs H2 P2 R2 => h (.ref a :: vs) H2 P2 (.io (ownD_of h3) ha R2)
  · rw [if_neg c] at h; exact h.elim
theorem t_oVw {j : Nat} (h : tAO g W p (.vw j :: r) σ H Q) : tCons (tVar j) (tAO g W p r) σ H Q := by
  obtain ⟨B, G, S, h⟩ := h
  unfold evArgs at h
  by_cases c : isOwn G[j]? = true
  · rw [if_pos c] at h
    obtain ⟨d, hd⟩ := isOwn_of c
    obtain ⟨a, ha⟩ := own_addr S hd
    refine ⟨.ref a, ha, B, G, S, ?_⟩
    cases h2 : evArgs r G with
    | bad => rw [h2] at h; exact h.elim
    | exc x G2 => rw [h2] at h; exact h
    | ok r2 =>
      obtain ⟨ds, G2⟩ := r2
      rw [h2] at h
      dsimp only at h
      cases h3 : ownD G2[j]? with
      | none => rw [h3] at h; exact h.elim
      | some d2 =>
        rw [h3] at h
        exact fun vs H2 P2 R2 => h (.ref a :: vs) H2 P2 (.vw (ownD_of h3) ha R2)
  · rw [if_neg c] at h; exact h.elim
theorem t_oFn {a : Addr} (h : tAO g W p (.fn a :: r) σ H Q) : tCons (tC (.ref a)) (tAO g W p r) σ H Q := by
  obtain ⟨B, G, S, h⟩ := h
  refine ⟨B, G, S, ?_⟩
  unfold evArgs at h
  cases h2 : evArgs r G with
  | bad => rw [h2] at h; exact h.elim
  | exc x G2 => rw [h2] at h; exact h
  | ok r2 =>
    obtain ⟨ds, G2⟩ := r2
    rw [h2] at h
    exact fun vs H2 P2 R2 => h (.ref a :: vs) H2 P2 (.fn R2)
end
section
variable {X : Cx} {W : WX} {p p1 p2 : Bool} {m : M} {r : List Arg} {e : Expr} {es : List Expr} {x : Str} {pos : Pos} {j : Nat}
theorem io_nil : PA X [] (tAO (gd X) W true []) := pa_nil.imp fun σ H Q h => t_oNil h
theorem io_e (h1 : PE X e (tE (gd X) W .s p1 m)) (h2 : PA X es (tAO (gd X) W p2 r)) (hs : starEach (e :: es) X.env = (false, eval e X.env) :: starEach es X.env := by rfl) : PA X (e :: es) (tAO (gd X) W (p1 && p2) (.e m :: r)) := (pa_cons h1 h2 hs).imp fun σ H Q h => t_oE h
theorem io_io (j : Nat) (h2 : PA X es (tAO (gd X) W p r)) (hN : X.N[j]? = some x := by rfl) (hv : Vis X.env.scope x := by first | exact Or.inl rfl | exact Or.inr (Or.inl rfl) | exact Or.inr (Or.inr rfl)) (hd : (x == ("__debug__" : Str)) = false := by decide) (hcd : (x == ("__classdict__" : Str)) = false := by decide)
    (hs : starEach (.Name x pos :: es) X.env = (false, eval (.Name x pos) X.env) :: starEach es X.env := by rfl) : PA X (.Name x pos :: es) (tAO (gd X) W p (.io j :: r)) := (pa_cons (pe_var hN hv hd hcd) h2 hs).imp fun σ H Q h => t_oIo h
theorem io_vw (j : Nat) (h2 : PA X es (tAO (gd X) W p r)) (hN : X.N[j]? = some x := by rfl) (hv : Vis X.env.scope x := by first | exact Or.inl rfl | exact Or.inr (Or.inl rfl) | exact Or.inr (Or.inr rfl)) (hd : (x == ("__debug__" : Str)) = false := by decide) (hcd : (x == ("__classdict__" : Str)) = false := by decide)
    (hs : starEach (.Name x pos :: es) X.env = (false, eval (.Name x pos) X.env) :: starEach es X.env := by rfl) : PA X (.Name x pos :: es) (tAO (gd X) W p (.vw j :: r)) := (pa_cons (pe_var hN hv hd hcd) h2 hs).imp fun σ H Q h => t_oVw h
theorem io_fn {a : Addr} (h2 : PA X es (tAO (gd X) W p r)) (hg : Gl X x) (hm : X.mg x = some (.ref a)) (hd : (x == ("__debug__" : Str)) = false := by decide)
    (hs : starEach (.Name x pos :: es) X.env = (false, eval (.Name x pos) X.env) :: starEach es X.env := by rfl) : PA X (.Name x pos :: es) (tAO (gd X) W p (.fn a :: r)) := (pa_cons (pe_glob hg hm (v := .ref a) rfl hd) h2 hs).imp fun σ H Q h => t_oFn h
end
/-! ### the call -/
def setK (j : Nat) (o : PyData) (G : Env') : Env' := match G[j]? with
  | some (.own _) => G.set j (.own o)
  | some (.lent _) => G.set j (.lent o)
  | _ => G
def putOuts : List Arg → List PyData → Env' → Env'
  | .io j :: r, o :: os, G => setK j o (putOuts r os G)
  | _ :: r, _ :: os, G => putOuts r os G
  | _, _, G => G
def hasVw : List Arg → Bool
  | [] => false
  | .vw _ :: _ => true
  | _ :: r => hasVw r
def ios : List Arg → List Nat
  | [] => []
  | .io j :: r => j :: ios r
  | _ :: r => ios r
def mCall (F : Fn) (args : List Arg) : M := fun G => match evArgs args G with
  | .ok (ds, G1) => (match F ds with
    | .ok d outs => if !hasVw args || noL d then .ok (d, putOuts args outs G1) else .bad
    | .exc x outs => .exc x (putOuts args outs G1)
    | .bad => .bad)
  | .exc x G1 => .exc x G1
  | .bad => .bad
theorem setK_len (j : Nat) (o : PyData) (G : Env') : (setK j o G).length = G.length := by
  unfold setK; split <;> simp
theorem setK_other {j i : Nat} {o : PyData} {G : Env'} (h : i ≠ j) : (setK j o G)[i]? = G[i]? := by
  unfold setK; split
  · exact set_other h
  · exact set_other h
  · rfl
theorem setK_own {j : Nat} {o d : PyData} {G : Env'} (h : G[j]? = some (.own d)) : (setK j o G)[j]? = some (.own o) := by
  unfold setK; rw [h]; exact set_get h
theorem setK_lent {j : Nat} {o d : PyData} {G : Env'} (h : G[j]? = some (.lent d)) : (setK j o G)[j]? = some (.lent o) := by
  unfold setK; rw [h]; exact set_get h
theorem putOuts_len : ∀ (args : List Arg) (outs : List PyData) (G : Env'), (putOuts args outs G).length = G.length
  | [], _, _ => by cases ‹List PyData› <;> rfl
  | .io j :: r, [], _ => rfl
  | .e _ :: r, [], _ => rfl
  | .vw _ :: r, [], _ => rfl
  | .fn _ :: r, [], _ => rfl
  | .io j :: r, o :: os, G => by rw [putOuts, setK_len]; exact putOuts_len r os G
  | .e _ :: r, o :: os, G => putOuts_len r os G
  | .vw _ :: r, o :: os, G => putOuts_len r os G
  | .fn _ :: r, o :: os, G => putOuts_len r os G
theorem mem_ios : ∀ {args : List Arg} {j : Nat}, j ∈ ios args ↔ ∃ i : Nat, args[i]? = some (Arg.io j)
  | [], j => by simp [ios]
  | a :: r, j => by
    have ih := mem_ios (args := r) (j := j)
    constructor
    · intro h
      have : (a = .io j) ∨ j ∈ ios r := by
        cases a with
        | io k => rcases List.mem_cons.mp (show j ∈ k :: ios r from h) with h | h
                  · exact .inl (by rw [h])
                  · exact .inr h
        | _ => exact .inr h
      rcases this with h | h
      · exact ⟨0, by rw [h]; rfl⟩
      · obtain ⟨i, hi⟩ := ih.mp h
        exact ⟨i + 1, by simpa using hi⟩
    · rintro ⟨i, hi⟩
      cases i with
      | zero =>
        simp at hi
        subst hi
        exact List.mem_cons_self
      | succ i =>
        have : j ∈ ios r := ih.mpr ⟨i, by simpa using hi⟩
        cases a with
        | io k => exact List.mem_cons_of_mem _ this
        | _ => exact this
theorem putOuts_out : ∀ {args : List Arg} {outs : List PyData} {G : Env'} {j : Nat}, j ∉ ios args → (putOuts args outs G)[j]? = G[j]?
  | [], outs, _, _, _ => by cases outs <;> rfl
  | .io k :: r, [], _, _, _ => rfl
  | .e _ :: r, [], _, _, _ => rfl
  | .vw _ :: r, [], _, _, _ => rfl
  | .fn _ :: r, [], _, _, _ => rfl
  | .io k :: r, o :: os, G, j, h => by
    rw [putOuts, setK_other fun e => h (by rw [e]; exact List.mem_cons_self)]
    exact putOuts_out fun q => h (List.mem_cons_of_mem _ q)
  | .e _ :: r, o :: os, G, j, h => putOuts_out (args := r) h
  | .vw _ :: r, o :: os, G, j, h => putOuts_out (args := r) h
  | .fn _ :: r, o :: os, G, j, h => putOuts_out (args := r) h
/-- what an inout slot holds -/
theorem putOuts_in : ∀ {args : List Arg} {outs : List PyData} {G : Env'} {i j : Nat} {o : PyData}, (ios args).Nodup → args[i]? = some (.io j) → outs[i]? = some o →
    (∀ d, G[j]? = some (.own d) → (putOuts args outs G)[j]? = some (.own o)) ∧ ∀ d, G[j]? = some (.lent d) → (putOuts args outs G)[j]? = some (.lent o)
  | [], _, _, i, _, _, _, h, _ => by simp at h
  | _ :: _, [], _, i, _, _, _, _, h => by simp at h
  | a :: r, o' :: os, G, 0, j, o, nd, h1, h2 => by
    simp at h1 h2
    subst h1 h2
    have nj : j ∉ ios r := (List.nodup_cons.mp (show (j :: ios r).Nodup from nd)).1
    rw [putOuts]
    exact ⟨fun d h => setK_own (by rw [putOuts_out nj]; exact h), fun d h => setK_lent (by rw [putOuts_out nj]; exact h)⟩
  | a :: r, o' :: os, G, i + 1, j, o, nd, h1, h2 => by
    have h1' : r[i]? = some (.io j) := by simpa using h1
    have h2' : os[i]? = some o := by simpa using h2
    cases a with
    | io k =>
      obtain ⟨nk, nd'⟩ := List.nodup_cons.mp (show (k :: ios r).Nodup from nd)
      have ne : j ≠ k := fun e => nk (by rw [← e]; exact mem_ios.mpr ⟨i, h1'⟩)
      rw [putOuts, setK_other ne]
      exact putOuts_in nd' h1' h2'
    | _ => exact putOuts_in (args := r) nd h1' h2'
theorem ios_inj : ∀ {args : List Arg} {i1 i2 j : Nat}, (ios args).Nodup → args[i1]? = some (.io j) → args[i2]? = some (.io j) → i1 = i2
  | [], i1, _, _, _, h, _ => by simp at h
  | a :: r, 0, 0, _, _, _, _ => rfl
  | a :: r, 0, i + 1, j, nd, h1, h2 => by
    simp at h1
    subst h1
    exact absurd (mem_ios.mpr ⟨i, by simpa using h2⟩) (List.nodup_cons.mp (show (j :: ios r).Nodup from nd)).1
  | a :: r, i + 1, 0, j, nd, h1, h2 => by
    simp at h2
    subst h2
    exact absurd (mem_ios.mpr ⟨i, by simpa using h1⟩) (List.nodup_cons.mp (show (j :: ios r).Nodup from nd)).1
  | a :: r, i1 + 1, i2 + 1, j, nd, h1, h2 => by
    have nd' : (ios r).Nodup := by
      cases a with
      | io k => exact (List.nodup_cons.mp (show (k :: ios r).Nodup from nd)).2
      | _ => exact nd
    rw [ios_inj nd' (show r[i1]? = some (.io j) by simpa using h1) (show r[i2]? = some (.io j) by simpa using h2)]
/-! ### what the callee is told, what comes back -/
section
variable {g : Gd} {B : Bs} {G : Env'} {σ : L2.St} {H : Hp}
theorem ArgRel.len : ∀ {args : List Arg} {vs : List V} {ds : List PyData}, ArgRel g B G σ H args vs ds → vs.length = args.length ∧ ds.length = args.length
  | _, _, _, .nil => ⟨rfl, rfl⟩
  | _, _, _, .e _ t => ⟨congrArg Nat.succ t.len.1, congrArg Nat.succ t.len.2⟩
  | _, _, _, .io _ _ t => ⟨congrArg Nat.succ t.len.1, congrArg Nat.succ t.len.2⟩
  | _, _, _, .vw _ _ t => ⟨congrArg Nat.succ t.len.1, congrArg Nat.succ t.len.2⟩
  | _, _, _, .fn t => ⟨congrArg Nat.succ t.len.1, congrArg Nat.succ t.len.2⟩
theorem ArgRel.atE : ∀ {args : List Arg} {vs : List V} {ds : List PyData} {i : Nat} {m : M}, ArgRel g B G σ H args vs ds → args[i]? = some (.e m) → ∃ v d, vs[i]? = some v ∧ ds[i]? = some d ∧ RelD g (Ow B G σ) H v d
  | _, _, _, i, _, .nil, h => by simp at h
  | _, _, _, 0, _, .e r t, h => ⟨_, _, rfl, rfl, r⟩
  | _, _, _, 0, _, .io _ _ _, h => by simp at h
  | _, _, _, 0, _, .vw _ _ _, h => by simp at h
  | _, _, _, 0, _, .fn _, h => by simp at h
  | _, _, _, i + 1, _, .e _ t, h => t.atE (i := i) (by simpa using h)
  | _, _, _, i + 1, _, .io _ _ t, h => t.atE (i := i) (by simpa using h)
  | _, _, _, i + 1, _, .vw _ _ t, h => t.atE (i := i) (by simpa using h)
  | _, _, _, i + 1, _, .fn t, h => t.atE (i := i) (by simpa using h)
theorem ArgRel.atIo : ∀ {args : List Arg} {vs : List V} {ds : List PyData} {i j : Nat}, ArgRel g B G σ H args vs ds → (args[i]? = some (.io j) ∨ args[i]? = some (.vw j)) → ∃ a d, vs[i]? = some (.ref a) ∧ ds[i]? = some d ∧ (G[j]? = some (.own d) ∨ G[j]? = some (.lent d)) ∧ σ[j]? = some (some (.ref a))
  | _, _, _, i, _, .nil, h => by simp at h
  | _, _, _, 0, _, .e r t, h => by simp at h
  | _, _, _, 0, _, .io c s _, h => by
    have e := h.elim (fun h => Arg.io.inj (Option.some.inj h)) fun h => nomatch (Option.some.inj h)
    subst e
    exact ⟨_, _, rfl, rfl, c, s⟩
  | _, _, _, 0, _, .vw c s _, h => by
    have e := h.elim (fun h => nomatch (Option.some.inj h)) fun h => Arg.vw.inj (Option.some.inj h)
    subst e
    exact ⟨_, _, rfl, rfl, c, s⟩
  | _, _, _, 0, _, .fn _, h => by simp at h
  | _, _, _, i + 1, _, .e _ t, h => t.atIo (i := i) (by simpa using h)
  | _, _, _, i + 1, _, .io _ _ t, h => t.atIo (i := i) (by simpa using h)
  | _, _, _, i + 1, _, .vw _ _ t, h => t.atIo (i := i) (by simpa using h)
  | _, _, _, i + 1, _, .fn t, h => t.atIo (i := i) (by simpa using h)
theorem ArgRel.atFn : ∀ {args : List Arg} {vs : List V} {ds : List PyData} {i : Nat} {a : Addr}, ArgRel g B G σ H args vs ds → args[i]? = some (.fn a) → vs[i]? = some (.ref a)
  | _, _, _, i, _, .nil, h => by simp at h
  | _, _, _, 0, _, .e r t, h => by simp at h
  | _, _, _, 0, _, .io _ _ _, h => by simp at h
  | _, _, _, 0, _, .vw _ _ _, h => by simp at h
  | _, _, _, 0, _, .fn _, h => by
    have e := Arg.fn.inj (Option.some.inj h)
    subst e
    rfl
  | _, _, _, i + 1, _, .e _ t, h => t.atFn (i := i) (by simpa using h)
  | _, _, _, i + 1, _, .io _ _ t, h => t.atFn (i := i) (by simpa using h)
  | _, _, _, i + 1, _, .vw _ _ t, h => t.atFn (i := i) (by simpa using h)
  | _, _, _, i + 1, _, .fn t, h => t.atFn (i := i) (by simpa using h)
theorem hasVw_of : ∀ {args : List Arg} {i j : Nat}, args[i]? = some (.vw j) → hasVw args = true
  | [], i, _, h => by simp at h
  | .vw _ :: _, _, _, _ => rfl
  | .e _ :: r, 0, _, h => by simp at h
  | .io _ :: r, 0, _, h => by simp at h
  | .fn _ :: r, 0, _, h => by simp at h
  | .e _ :: r, i + 1, j, h => hasVw_of (args := r) (i := i) (by simpa using h)
  | .io _ :: r, i + 1, j, h => hasVw_of (args := r) (i := i) (by simpa using h)
  | .fn _ :: r, i + 1, j, h => hasVw_of (args := r) (i := i) (by simpa using h)
/-- what an argument may be: objects lent, or objects looked at, not both -/
def argsC (args : List Arg) : Prop := (ios args).Nodup ∧ (hasVw args = true → ios args = [])
/-- the address of an object that is handed over -/
def Sp1 (args : List Arg) (σ : L2.St) (a : Addr) : Prop := ∃ (i j : Nat), (args[i]? = some (.io j) ∨ args[i]? = some (.vw j)) ∧ σ[j]? = some (some (.ref a))
theorem akOf_at {args : List Arg} {i : Nat} {k : AK} (h : (args.map akOf)[i]? = some k) : ∃ a, args[i]? = some a ∧ akOf a = k := by
  rw [List.getElem?_map] at h
  exact Option.map_eq_some_iff.mp h
theorem akOf_lent {args : List Arg} {i : Nat} (h : (args.map akOf)[i]? = some .lent) : ∃ j, args[i]? = some (.io j) := by
  obtain ⟨a, h1, h2⟩ := akOf_at h
  cases a with
  | io j => exact ⟨j, h1⟩
  | _ => cases h2
theorem la_io {args : List Arg} {vs : List V} {ds : List PyData} (A : ArgRel g B G σ H args vs ds) {a : Addr} : LA (args.map akOf) vs a ↔ ∃ (i j : Nat), args[i]? = some (.io j) ∧ σ[j]? = some (some (.ref a)) := by
  constructor
  · rintro ⟨i, hk, hv⟩
    obtain ⟨j, hj⟩ := akOf_lent hk
    obtain ⟨b, d, h1, _, _, s⟩ := A.atIo (.inl hj)
    rw [hv] at h1
    injection h1 with h1; injection h1 with h1
    subst h1
    exact ⟨i, j, hj, s⟩
  · rintro ⟨i, j, hj, s⟩
    obtain ⟨b, d, h1, _, _, s'⟩ := A.atIo (.inl hj)
    rw [s] at s'
    injection s' with s'; injection s' with s'; injection s' with s'
    subst s'
    exact ⟨i, by rw [List.getElem?_map, hj]; rfl, h1⟩
theorem args_ok (S : Sta g B G σ H) {args : List Arg} {vs : List V} {ds : List PyData} (A : ArgRel g B G σ H args vs ds) (C : argsC args) : ArgsOk g (fun b => Ow B G σ b ∧ ¬ Sp1 args σ b) (args.map akOf) vs ds H := by
  have sub : ∀ b, (Ow B G σ b ∧ ¬ Sp1 args σ b) ∨ LA (args.map akOf) vs b → Ow B G σ b := fun b h => by
    rcases h with h | h
    · exact h.1
    · obtain ⟨i, j, hj, s⟩ := (la_io A).mp h
      obtain ⟨a, d, _, _, c, s'⟩ := A.atIo (.inl hj)
      exact .inr ⟨j, d, c, s⟩
  refine ⟨by rw [List.length_map]; exact A.len.1, by rw [List.length_map]; exact A.len.2, fun a h => S.owTr h.1, fun i h => ?_, fun i h => ?_, fun i a h => ?_, fun i j a h1 h2 v1 v2 => ?_⟩
  · obtain ⟨a, h1, h2⟩ := akOf_at h
    cases a with
    | e m =>
      obtain ⟨v, d, hv, hd, r⟩ := A.atE h1
      exact ⟨v, d, hv, hd, r.sub sub⟩
    | vw j =>
      obtain ⟨a, d, hv, hd, c, s⟩ := A.atIo (.inr h1)
      obtain ⟨o, _, _⟩ := slot_addr S c s
      refine ⟨.ref a, d, hv, hd, o.rel sub fun q => ?_⟩
      rcases q with q | q
      · exact q.2 ⟨i, j, .inr h1, s⟩
      · obtain ⟨i', j', hj', _⟩ := (la_io A).mp q
        have := C.2 (hasVw_of h1)
        have m := mem_ios.mpr ⟨i', hj'⟩
        rw [this] at m
        cases m
    | _ => cases h2
  · obtain ⟨j, hj⟩ := akOf_lent h
    obtain ⟨a, d, hv, hd, c, s⟩ := A.atIo (.inl hj)
    obtain ⟨o, _, _⟩ := slot_addr S c s
    exact ⟨a, d, hv, hd, fun q => q.2 ⟨i, j, .inl hj, s⟩, o.keep (M := fun _ => False) (Ex.refl H).keep (fun _ q => q.elim) (fun _ q => q.elim) (fun b q _ => sub b q) fun q => q⟩
  · obtain ⟨b, h1, h2⟩ := akOf_at h
    cases b with
    | fn c => cases h2; exact A.atFn h1
    | _ => cases h2
  · obtain ⟨k1, e1⟩ := akOf_lent h1
    obtain ⟨k2, e2⟩ := akOf_lent h2
    obtain ⟨a1, d1, w1, _, c1, s1⟩ := A.atIo (.inl e1)
    obtain ⟨a2, d2, w2, _, c2, s2⟩ := A.atIo (.inl e2)
    rw [v1] at w1; rw [v2] at w2
    injection w1 with w1; injection w1 with w1; injection w2 with w2; injection w2 with w2
    subst w1; subst w2
    have ek := S.uni k1 k2 a ⟨d1, c1⟩ ⟨d2, c2⟩ s1 s2
    subst ek
    exact ios_inj C.1 e1 e2
/-- behind the call -/
theorem call_post (S : Sta g B G σ H) {args : List Arg} {vs : List V} {ds outs : List PyData} (A : ArgRel g B G σ H args vs ds) (C : argsC args) {H' : Hp} (kp : Keep (LA (args.map akOf) vs) H H')
    (ho : OutsOk g (fun b => (Ow B G σ b ∧ ¬ Sp1 args σ b) ∨ LA (args.map akOf) vs b) (args.map akOf) vs outs H') : Post g B (ios args).isEmpty G (putOuts args outs G) σ H H' := by
  have ioAt : ∀ {j : Nat}, j ∈ ios args → ∃ (i : Nat) (a : Addr) (d o : PyData), args[i]? = some (.io j) ∧ vs[i]? = some (.ref a) ∧ outs[i]? = some o ∧ (G[j]? = some (.own d) ∨ G[j]? = some (.lent d)) ∧ σ[j]? = some (some (.ref a)) ∧
      OwnAt g (fun b => (Ow B G σ b ∧ ¬ Sp1 args σ b) ∨ LA (args.map akOf) vs b) H' a o := fun {j} h => by
    obtain ⟨i, hi⟩ := mem_ios.mp h
    obtain ⟨a, d, hv, _, c, s⟩ := A.atIo (.inl hi)
    obtain ⟨a', o, hv', ho', oo⟩ := ho i (by rw [List.getElem?_map, hi]; rfl)
    rw [hv] at hv'
    injection hv' with hv'; injection hv' with hv'
    subst hv'
    exact ⟨i, a, d, o, hi, hv, ho', c, s, oo⟩
  have laOwn : ∀ {b : Addr}, LA (args.map akOf) vs b → ∃ j d, j ∈ ios args ∧ (G[j]? = some (.own d) ∨ G[j]? = some (.lent d)) ∧ σ[j]? = some (some (.ref b)) := fun {b} h => by
    obtain ⟨i, j, hj, s⟩ := (la_io A).mp h
    obtain ⟨_, d, _, _, c, _⟩ := A.atIo (.inl hj)
    exact ⟨j, d, mem_ios.mpr ⟨i, hj⟩, c, s⟩
  have ch : ∀ b, LA (args.map akOf) vs b → Ch H b := fun b h => by
    obtain ⟨j, d, _, c, s⟩ := laOwn h
    exact (slot_addr S c s).1.ch
  have hE : ∀ b, LA (args.map akOf) vs b → Ow B G σ b := fun b h => by
    obtain ⟨j, d, _, c, s⟩ := laOwn h
    exact .inr ⟨j, d, c, s⟩
  have nLE : ∀ b, B.E b → ¬ LA (args.map akOf) vs b := fun b hb h => by
    obtain ⟨j, d, _, c, s⟩ := laOwn h
    exact (slot_addr S c s).2.1 hb
  have io2 : ∀ {j : Nat}, j ∈ ios args → ∃ d o, ((G[j]? = some (.own d) ∧ (putOuts args outs G)[j]? = some (.own o)) ∨ (G[j]? = some (.lent d) ∧ (putOuts args outs G)[j]? = some (.lent o))) ∧
      ∀ a, σ[j]? = some (some (.ref a)) → OwnAt g (Ow B G σ) H' a o := fun {j} h => by
    obtain ⟨i, a, d, o, hi, hv, hq, c, s, oo⟩ := ioAt h
    refine ⟨d, o, ?_, fun a' s' => ?_⟩
    · have p := putOuts_in (G := G) C.1 hi hq
      rcases c with c | c
      · exact .inl ⟨c, p.1 d c⟩
      · exact .inr ⟨c, p.2 d c⟩
    · rw [s] at s'
      injection s' with s'; injection s' with s'; injection s' with s'
      subst s'
      refine oo.keep (M := fun _ => False) (Ex.refl H').keep (fun _ q => q.elim) (fun _ q => q.elim) (fun b q _ => ?_) fun q => q
      by_cases sp : Sp1 args σ b
      · right
        obtain ⟨i', j', hj', s'⟩ := sp
        rcases hj' with hj' | hj'
        · exact (la_io A).mpr ⟨i', j', hj', s'⟩
        · rw [C.2 (hasVw_of hj')] at h
          cases h
      · exact .inl ⟨q, sp⟩
  have own : ∀ b, Own (putOuts args outs G) σ b ↔ Own G σ b := fun b => by
    constructor
    · rintro ⟨j, e, c, s⟩
      by_cases q : j ∈ ios args
      · obtain ⟨d, o, h, _⟩ := io2 q
        rcases h with ⟨h, _⟩ | ⟨h, _⟩
        · exact ⟨j, d, .inl h, s⟩
        · exact ⟨j, d, .inr h, s⟩
      · rw [putOuts_out q] at c
        exact ⟨j, e, c, s⟩
    · rintro ⟨j, e, c, s⟩
      by_cases q : j ∈ ios args
      · obtain ⟨d, o, h, _⟩ := io2 q
        rcases h with ⟨_, h⟩ | ⟨_, h⟩
        · exact ⟨j, o, .inl h, s⟩
        · exact ⟨j, o, .inr h, s⟩
      · exact ⟨j, e, by rw [putOuts_out q]; exact c, s⟩
  have eOw : Ow B (putOuts args outs G) σ = Ow B G σ := funext fun b => propext (or_congr Iff.rfl (own b))
  have lnt : ∀ (j : Nat), (∃ d, (putOuts args outs G)[j]? = some (.lent d)) ↔ ∃ d, G[j]? = some (.lent d) := fun j => by
    by_cases q : j ∈ ios args
    · obtain ⟨d, o, h, _⟩ := io2 q
      rcases h with ⟨h1, h2⟩ | ⟨h1, h2⟩
      · rw [h1, h2]
        exact ⟨fun ⟨_, c⟩ => (nomatch c), fun ⟨_, c⟩ => (nomatch c)⟩
      · rw [h1, h2]
        exact ⟨fun _ => ⟨d, rfl⟩, fun _ => ⟨o, rfl⟩⟩
    · rw [putOuts_out q]
  have pr : ∀ v d, RelD g (Ow B G σ) H v d → RelD g (Ow B (putOuts args outs G) σ) H' v d := fun v d r => by
    rw [eOw]; exact r.keep kp ch hE fun _ q _ => q
  have kpE : ∀ a o, B.E a → H a = some o → H' a = some o := fun a o h e => kp a o e (nLE a h)
  refine ⟨⟨by rw [putOuts_len]; exact S.len, fun j d h => ?_, fun j d h => ?_, fun j d h => ?_, fun j a h => ?_, fun j1 j2 a h1 h2 s1 s2 => ?_, fun b u hb nb => ?_, fun b hb => ?_⟩, pr, fun a h => (own a).mp h, kpE, lnt, fun b hb => ?_, fun j s h n1 n2 => ?_, fun e => ?_⟩
  · by_cases q : j ∈ ios args
    · obtain ⟨_, _, h', _⟩ := io2 q
      rcases h' with ⟨_, h'⟩ | ⟨_, h'⟩ <;> rw [h'] at h <;> cases h
    · rw [putOuts_out q] at h
      obtain ⟨v, e, r⟩ := S.val j d h
      exact ⟨v, e, pr v d r⟩
  · rw [eOw]
    by_cases q : j ∈ ios args
    · obtain ⟨_, o, h', oo⟩ := io2 q
      rcases h' with ⟨h0, h'⟩ | ⟨_, h'⟩
      · rw [h'] at h; cases h
        obtain ⟨a, e, n, z, _⟩ := S.own j _ h0
        exact ⟨a, e, n, z, oo a e⟩
      · rw [h'] at h; cases h
    · rw [putOuts_out q] at h
      obtain ⟨a, e, n, z, r⟩ := S.own j d h
      refine ⟨a, e, n, z, r.keep kp ch hE (fun _ q _ => q) fun l => ?_⟩
      obtain ⟨j', d', m, c, s⟩ := laOwn l
      exact q (by rw [S.uni j j' a ⟨d, .inl h⟩ ⟨d', c⟩ e s]; exact m)
  · rw [eOw]
    by_cases q : j ∈ ios args
    · obtain ⟨_, o, h', oo⟩ := io2 q
      rcases h' with ⟨_, h'⟩ | ⟨h0, h'⟩
      · rw [h'] at h; cases h
      · rw [h'] at h; cases h
        obtain ⟨e, n, _⟩ := S.lent j _ h0
        exact ⟨e, n, oo _ e⟩
    · rw [putOuts_out q] at h
      obtain ⟨e, n, r⟩ := S.lent j d h
      refine ⟨e, n, r.keep kp ch hE (fun _ q _ => q) fun l => ?_⟩
      obtain ⟨j', d', m, c, s⟩ := laOwn l
      exact q (by rw [S.uni j j' _ ⟨d, .inr h⟩ ⟨d', c⟩ e s]; exact m)
  · by_cases q : j ∈ ios args
    · obtain ⟨_, _, h', _⟩ := io2 q
      rcases h' with ⟨_, h'⟩ | ⟨_, h'⟩ <;> rw [h'] at h <;> cases h
    · rw [putOuts_out q] at h
      exact S.adr j a h
  · have back : ∀ (j : Nat), (∃ d, (putOuts args outs G)[j]? = some (.own d) ∨ (putOuts args outs G)[j]? = some (.lent d)) → ∃ d, G[j]? = some (.own d) ∨ G[j]? = some (.lent d) := fun j ⟨e, c⟩ => by
      by_cases q : j ∈ ios args
      · obtain ⟨d, _, h', _⟩ := io2 q
        exact ⟨d, h'.elim (fun h => .inl h.1) fun h => .inr h.1⟩
      · rw [putOuts_out q] at c; exact ⟨e, c⟩
    exact S.uni j1 j2 a (back j1 h1) (back j2 h2) s1 s2
  · have nl : ¬ Lent G B b := fun ⟨i, e, c, s⟩ => nb (let ⟨e', c'⟩ := (lnt i).mpr ⟨e, c⟩; ⟨i, e', c', s⟩)
    refine kp b u (S.ent b u hb nl) fun l => ?_
    obtain ⟨j, d, m, c, s⟩ := laOwn l
    rcases c with c | c
    · have z := (slot_addr S (.inl c) s).2.2 c
      rw [z] at hb; cases hb
    · obtain ⟨e, _, _⟩ := S.lent j d c
      rw [s] at e
      injection e with e; injection e with e; injection e with e
      exact nl ⟨j, d, c, e.symm⟩
  · obtain ⟨u, e⟩ := Option.isSome_iff_exists.mp (S.etr b hb)
    rw [kpE b u hb e]; rfl
  · by_cases l : LA (args.map akOf) vs b
    · obtain ⟨i, hk, hv⟩ := l
      obtain ⟨a, o, hv', _, oo⟩ := ho i hk
      rw [hv] at hv'
      injection hv' with hv'; injection hv' with hv'
      subst hv'
      exact oo.some
    · obtain ⟨u, e⟩ := Option.isSome_iff_exists.mp hb
      rw [kp b u e l]; rfl
  · by_cases q : j ∈ ios args
    · obtain ⟨d, _, h', _⟩ := io2 q
      rcases h' with ⟨h0, _⟩ | ⟨h0, _⟩
      · rw [h] at h0; exact absurd (Option.some.inj h0) (n1 d)
      · rw [h] at h0; exact absurd (Option.some.inj h0) (n2 d)
    · rw [putOuts_out q]; exact h
  · have e0 : ios args = [] := List.isEmpty_iff.mp e
    refine ⟨List.ext_getElem? fun j => putOuts_out (by rw [e0]; exact List.not_mem_nil), fun a o h => kp a o h fun l => ?_⟩
    obtain ⟨j, _, m, _, _⟩ := laOwn l
    rw [e0] at m
    cases m
end
/-! ### the rule -/
section
variable {g : Gd} {W : WX} {F : Fn} {args : List Arg} {σ : L2.St} {H : Hp} {Q : VK} {p : Bool}
theorem t_call (C : argsC args) (h : tE g W .s (p && (ios args).isEmpty) (mCall F args) σ H Q) : tCallS (spF g (args.map akOf) false F) (WE W) (tAO g W p args) σ H Q := by
  obtain ⟨B, G, S, h⟩ := h
  refine ⟨B, G, S, ?_⟩
  unfold mCall at h
  cases h1 : evArgs args G with
  | bad => rw [h1] at h; exact h.elim
  | exc x G1 => rw [h1] at h; exact h
  | ok r1 =>
    obtain ⟨ds, G1⟩ := r1
    rw [h1] at h
    intro vs H1 P1 A
    refine ⟨_, ds, args_ok P1.sta A C, ?_⟩
    dsimp only at h
    cases hF : F ds with
    | bad => rw [hF] at h; exact h.elim
    | exc x outs =>
      rw [hF] at h
      intro cls dx H' kp ho e
      exact h cls dx H' (P1.trans' (call_post P1.sta A C kp ho)) e.any
    | ok d outs =>
      rw [hF] at h
      dsimp only at h ⊢
      rw [if_neg (by simp)]
      intro v H' kp ho r
      by_cases z : (!hasVw args || noL d) = true
      · rw [if_pos z] at h
        have P2 := call_post P1.sta A C kp ho
        refine h v H' (P1.trans P2) ?_
        by_cases nv : noL d = true
        · exact r.free nv
        · have hv : hasVw args = false := by simpa [nv] using z
          refine r.sub fun b q => ?_
          have q : Ow B G1 σ b := q.elim .inl fun q => .inr (P2.sub b q)
          by_cases sp : Sp1 args σ b
          · obtain ⟨i, j, hj, s⟩ := sp
            rcases hj with hj | hj
            · exact .inr ((la_io A).mpr ⟨i, j, hj, s⟩)
            · rw [hasVw_of hj] at hv; cases hv
          · exact .inl ⟨q, sp⟩
      · rw [if_neg z] at h; exact h.elim
end
section
variable {g : Gd} {W : WX} {F : Fn} {args : List Arg} {σ : L2.St} {H : Hp} {Q : VK} {p : Bool}
theorem t_callFr (c1 : ios args = []) (c2 : hasVw args = false) (h : tF g W p (mCall F args) σ H Q) : tCallS (spF g (args.map akOf) true F) (WE W) (tAO g W p args) σ H Q := by
  obtain ⟨B, G, S, h⟩ := h
  refine ⟨B, G, S, ?_⟩
  have C : argsC args := ⟨by rw [c1]; exact List.nodup_nil, fun _ => c1⟩
  unfold mCall at h
  cases h1 : evArgs args G with
  | bad => rw [h1] at h; exact h.elim
  | exc x G1 => rw [h1] at h; exact h
  | ok r1 =>
    obtain ⟨ds, G1⟩ := r1
    rw [h1] at h
    intro vs H1 P1 A
    refine ⟨_, ds, args_ok P1.sta A C, ?_⟩
    dsimp only at h
    have nLA : ∀ b, ¬ LA (args.map akOf) vs b := fun b l => by
      obtain ⟨i, j, hj, _⟩ := (la_io A).mp l
      have := mem_ios.mpr ⟨i, hj⟩
      rw [c1] at this
      cases this
    have nSp : ∀ b, ¬ Sp1 args σ b := fun b sp => by
      obtain ⟨i, j, hj, _⟩ := sp
      rcases hj with hj | hj
      · have := mem_ios.mpr ⟨i, hj⟩
        rw [c1] at this
        cases this
      · rw [hasVw_of hj] at c2; cases c2
    have out0 : ∀ outs, putOuts args outs G1 = G1 := fun outs => List.ext_getElem? fun j => putOuts_out (by rw [c1]; exact List.not_mem_nil)
    have sub : ∀ b, Ow B G1 σ b → (Ow B G1 σ b ∧ ¬ Sp1 args σ b) ∨ LA (args.map akOf) vs b := fun b q => .inl ⟨q, nSp b⟩
    cases hF : F ds with
    | bad => rw [hF] at h; exact h.elim
    | exc x outs =>
      rw [hF] at h
      intro cls dx H' kp ho e
      exact h cls dx H' (P1.trans' (call_post P1.sta A C kp ho)) e.any
    | ok d outs =>
      rw [hF] at h
      dsimp only at h ⊢
      rw [if_pos (by rw [c2]; rfl), out0] at h
      by_cases ob : isObj d = true
      · rw [if_pos (by rw [ob]; rfl)]
        intro a H' kp na _ o
        have ex : Ex H1 H' := fun b u e => kp b u e (nLA b)
        exact fresh_end P1 na ex (o.keep (M := fun _ => False) (Ex.refl H').keep (fun _ q => q.elim) (fun _ q => q.elim) (fun b q _ => q.elim (fun q => .inl (sub b q)) .inr) fun q => q) h
      · rw [if_neg (by simpa using ob)]
        dsimp only at h
        rw [if_neg ob] at h
        intro v H' kp _ r
        have ex : Ex H1 H' := fun b u e => kp b u e (nLA b)
        exact h v H' (P1.ex ex) (r.sub sub)
end
section
variable {X : Cx} {W : WX} {F : Fn} {args : List Arg} {p : Bool} {k : Nat} {f : Addr} {fd : FuncData} {ps : List Str} {io : List AK} {x : Str} {q pos : Pos} {e : Expr} {es : List Expr}
theorem ie_call (tk : Takes X W) (Fo : FnOk X.prog X.w X.K X.mg X.base (L2.CX X.prog X.w) k f fd ps (spF (gd X) io false F)) (hr : Room k X.A) (hg : Gl X x) (hm : X.mg x = some (.ref f)) (hk : PySem.W.keepIn X.K (.ref f) = true) (hb : Binds X.K fd ps [])
    (ha : PA X (e :: es) (tAO (gd X) W p args)) (hio : args.map akOf = io := by rfl) (C : argsC args := by exact ⟨by decide, by decide⟩) (hdb : (x == ("__debug__" : Str)) = false := by decide) (he : starEach (e :: es) X.env = (false, eval e X.env) :: starEach es X.env := by rfl) (hpl : (backTo pos (starEach es X.env)).any (·.1) = false := by rfl) :
    PE X (.Call (.Name x q) (e :: es) [] pos) (tE (gd X) W .s (p && (ios args).isEmpty) (mCall F args)) := by
  subst hio
  exact (pe_callS Fo hr hg hm hk hb (fun σ => passAt tk σ) ha hdb he hpl).imp fun σ H Q h => t_call C h
theorem if_call (tk : Takes X W) (Fo : FnOk X.prog X.w X.K X.mg X.base (L2.CX X.prog X.w) k f fd ps (spF (gd X) io true F)) (hr : Room k X.A) (hg : Gl X x) (hm : X.mg x = some (.ref f)) (hk : PySem.W.keepIn X.K (.ref f) = true) (hb : Binds X.K fd ps [])
    (ha : PA X (e :: es) (tAO (gd X) W p args)) (hio : args.map akOf = io := by rfl) (c1 : ios args = [] := by rfl) (c2 : hasVw args = false := by rfl) (hdb : (x == ("__debug__" : Str)) = false := by decide) (he : starEach (e :: es) X.env = (false, eval e X.env) :: starEach es X.env := by rfl) (hpl : (backTo pos (starEach es X.env)).any (·.1) = false := by rfl) :
    PE X (.Call (.Name x q) (e :: es) [] pos) (tF (gd X) W p (mCall F args)) := by
  subst hio
  exact (pe_callS Fo hr hg hm hk hb (fun σ => passAt tk σ) ha hdb he hpl).imp fun σ H Q h => t_callFr c1 c2 h
end
/-- a promise of objects just made is one of values -/
theorem RelD.of_own {g : Gd} {E : Addr → Prop} {H : Hp} {a : Addr} {d : PyData} (o : OwnAt g (fun b => E b ∨ b = a) H a d) (n : ¬ E a) : RelD g E H (.ref a) d := o.rel (fun _ q => .inl q) n
theorem spF_down {g : Gd} {io : List AK} {F : Fn} {vs : List V} {H : Hp} {Q : VK} {E : XK} (h : spF g io false F vs H Q E) : spF g io true F vs H Q E := by
  obtain ⟨E0, ds, A, h⟩ := h
  refine ⟨E0, ds, A, ?_⟩
  cases hF : F ds with
  | bad => rw [hF] at h; exact h
  | exc x outs => rw [hF] at h; exact h
  | ok d outs =>
    rw [hF] at h
    dsimp only at h ⊢
    rw [if_neg (by simp)] at h
    by_cases ob : isObj d = true
    · rw [if_pos (by rw [ob]; rfl)]
      intro a H' kp na ho o
      have nE : ¬ (E0 a ∨ LA io vs a) := fun q => by
        rcases q with q | q
        · have := A.etr a q
          rw [na] at this; cases this
        · obtain ⟨i, hk, hv⟩ := q
          obtain ⟨b, _, hv', _, _, o'⟩ := A.lent i hk
          rw [hv] at hv'
          injection hv' with hv'; injection hv' with hv'
          subst hv'
          have := o'.some
          rw [na] at this; cases this
      refine h (.ref a) H' kp (fun i hk => ?_) (o.rel (fun _ q => .inl q) nE)
      obtain ⟨b, o1, h1, h2, h3⟩ := ho i hk
      exact ⟨b, o1, h1, h2, h3.keep (M := fun _ => False) (Ex.refl H').keep (fun _ q => q.elim) (fun _ q => q.elim) (fun b q _ => .inl q) fun q => q⟩
    · rw [if_neg (by simpa using ob)]
      exact h
theorem fn_down {P : Program} {w : World} {K : PySem.W.Frag} {mg : Str → Option Value} {base : Heap} {CX : CXT} {k : Nat} {f : Addr} {fd : FuncData} {ps : List Str} {g : Gd} {io : List AK} {F : Fn} (Fo : FnOk P w K mg base CX k f fd ps (spF g io true F)) : FnOk P w K mg base CX k f fd ps (spF g io false F) := Fo.imp fun _ _ _ _ h => spF_down h
end Mo

/-! MoL: isinstance, slices, ranges made into tuples and lists, sorted. -/
namespace Mo
open PySem PySem.Spec PyProof.Rows L2
/-! ### isinstance -/
def tyN : PyData → Option String
  | .none => some "NoneType"
  | .bool _ => some "bool"
  | .int _ => some "int"
  | .str _ => some "str"
  | .list _ => some "list"
  | .tuple _ => some "tuple"
  | .dict _ => none
theorem RelW.tyX {g : Gd} {E : Addr → Prop} {H : Hp} {x : V} {d : PyData} {T : String} (h : RelW g E H x d) (e : tyN d = some T) : TyX g.K H x (.type T) := by
  have tp : ∀ {a : Addr} {xs : List V}, SqT g.K H a xs → TyX g.K H (.ref a) (.type "tuple") := fun {a xs} s => by
    rcases s with (s | ⟨o, s⟩) | ⟨o, its, n, hk, hc, _⟩
    · exact .base (.tup s)
    · exact .fTuple s
    · exact .kTuple hk hc
  have lk : ∀ {a : Addr} {xs : List V}, LsK g.K a xs → TyX g.K H (.ref a) (.type "list") := fun {a xs} ⟨o, its, n, h1, h2, _⟩ => .kList h1 h2
  have ls : ∀ {a : Addr} {xs : List V}, Rd H a (.lst xs) → TyX g.K H (.ref a) (.type "list") := fun {a xs} s => by
    rcases s with s | ⟨o, s⟩
    · exact .base (.lst s)
    · exact .base (.frz s)
  cases h with
  | of h =>
    cases h with
    | non => cases e; exact .base .non
    | bl b => cases e; exact .base (.bl b)
    | int i => cases e; exact .base (.int i)
    | str z => cases e; exact .base (.str z)
    | tup s _ => cases e; exact tp s.sq
    | lst _ s _ => cases e; exact ls s
    | kls s _ => cases e; exact lk s
    | dct _ _ _ => cases e
    | dck _ _ _ _ => cases e
  | lst s _ => cases e; exact ls s
  | dct _ _ => cases e
  | dck _ _ _ => cases e
/-- the classes that are asked for -/
inductive Ty | int | bool | str | tuple | list
def Ty.nm : Ty → String
  | .int => "int"
  | .bool => "bool"
  | .str => "str"
  | .tuple => "tuple"
  | .list => "list"
def isTy : Ty → PyData → Option Bool
  | _, .dict _ => none
  | .int, .int _ => some true
  | .int, .bool _ => some true
  | .bool, .bool _ => some true
  | .str, .str _ => some true
  | .tuple, .tuple _ => some true
  | .list, .list _ => some true
  | _, _ => some false
theorem isTy_ok {k : Ty} {d : PyData} {b : Bool} (h : isTy k d = some b) : ∃ T, tyN d = some T ∧ kitB T k.nm = some b := by
  cases d <;> cases k <;> first | (cases h; done) | (cases h; exact ⟨_, rfl, by decide +kernel⟩)
def fIsi (k : Ty) : PyData → Option PyData := fun d => (isTy k d).map .bool
section
variable {X : Cx} {W : WX} {fl : Fl} {p : Bool} {m : M} {e : Expr} {q q2 pos : Pos} {k : Ty} {T : Str}
theorem ie_isi (k : Ty) (he : PE X e (tE (gd X) W fl p m)) (hg : Gl X "isinstance") (hm : X.mg "isinstance" = none) (hgT : Gl X T) (hmT : X.mg T = none) (hbT : bootBuiltins T = some (.type k.nm) := by decide +kernel)
    (hn : T ≠ "__name__" := by decide) (hd : (T == ("__debug__" : Str)) = false := by decide) (h1 : starEach [e, .Name T q2] X.env = (false, eval e X.env) :: starEach [.Name T q2] X.env := by rfl) (h2 : starEach [.Name T q2] X.env = (false, eval (.Name T q2) X.env) :: starEach [] X.env := by rfl)
    (hpl : (backTo pos (starEach [.Name T q2] X.env)).any (·.1) = false := by rfl) :
    PE X (.Call (.Name "isinstance" q) [e, .Name T q2] [] pos) (tE (gd X) W .s p (mOp1 (fIsi k) m)) :=
  (pe_callB call_isi hg hm (by decide +kernel) (pa_cons he (pa_cons (pe_bltn (v := .ty k.nm) hgT hmT hbT (show _ = _ from rfl) hn hd) pa_nil h2) h1) (by decide) (by decide) h1 hpl).imp fun σ H Q h => by
  obtain ⟨B, G, S, h⟩ := h
  refine ⟨B, G, S, ?_⟩
  unfold mOp1 at h
  cases h1 : m G with
  | bad => rw [h1] at h; exact h.elim
  | exc x G1 => rw [h1] at h; exact h
  | ok r1 =>
    obtain ⟨d1, G1⟩ := r1
    rw [h1] at h
    dsimp only at h
    intro x H1 P1 R1
    cases hf : fIsi k d1 with
    | none => rw [hf] at h; exact h.elim
    | some d =>
      rw [hf] at h
      obtain ⟨b, hb, rfl⟩ := Option.map_eq_some_iff.mp hf
      obtain ⟨T', e1, e2⟩ := isTy_ok hb
      exact ⟨x, _, _, _, b, rfl, .ty _, R1.w.tyX e1, kit_ty e2, h _ H1 P1 (.bl b)⟩
end
/-! ### slices -/
abbrev MP := Env' → Res (Option Int × Env')
def pNo : MP := fun G => .ok (none, G)
def pSome (m : M) : MP := fun G => match m G with
  | .ok (.int i, G1) => .ok (some i, G1)
  | .ok _ => .bad
  | .exc x G1 => .exc x G1
  | .bad => .bad
def tP (g : Gd) (W : WX) (p : Bool) (m : MP) : TO := fun σ H Q => ∃ B G, Sta g B G σ H ∧ match m G with
  | .ok (o, G') => ∀ H', Post g B p G G' σ H H' → Q o H'
  | .exc x G' => ∀ cls dx H', Post g B false G G' σ H H' → ExcAt g (Ow B G' σ) H' x cls dx → W cls dx σ H'
  | .bad => False
theorem _root_.L2.PO.imp {X : Cx} {e : Option Expr} {t t' : TO} (h : PO X e t) (i : ∀ σ H Q, t' σ H Q → t σ H Q) : PO X e t' := ⟨fun pins s σ H Q I q => h.run pins s σ H Q I (i σ H Q q)⟩
def cutL {α : Type} (xs : List α) (lo hi : Option Int) : List α := (xs.drop (HT.sIx xs.length 0 lo)).take (HT.sIx xs.length xs.length hi - HT.sIx xs.length 0 lo)
theorem RelDs.cut {g : Gd} {E : Addr → Prop} {H : Hp} {vs : List V} {ds : List PyData} {lo hi : Option Int} (h : RelDs g E H vs ds) : RelDs g E H (cutV vs lo hi) (cutL ds lo hi) := by
  unfold cutV cutL
  rw [h.length]
  exact (h.drop _).take _
def fSl : PyData → Option Int → Option Int → Option PyData
  | .list xs, lo, hi => some (.list (cutL xs lo hi))
  | .tuple xs, lo, hi => some (.tuple (cutL xs lo hi))
  | .str z, lo, hi => if szOk z.length = true then some (.str (Txt.slice z lo hi)) else none
  | _, _, _ => none
def mSl (m : M) (lo hi : MP) : M := fun G => match m G with
  | .ok (d, G1) => (match lo G1 with
    | .ok (a, G2) => (match hi G2 with
      | .ok (b, G3) => (match fSl d a b with
        | some r => .ok (r, G3)
        | none => .bad)
      | .exc x G3 => .exc x G3
      | .bad => .bad)
    | .exc x G2 => .exc x G2
    | .bad => .bad)
  | .exc x G1 => .exc x G1
  | .bad => .bad
section
variable {X : Cx} {W : WX} {fl : Fl} {p p1 p2 p3 : Bool} {m : M} {lo hi : MP} {e : Expr} {el eh : Option Expr} {q pos : Pos}
theorem ip_no : PO X none (tP (gd X) W true pNo) := po_none.imp fun σ H Q h => by
  obtain ⟨B, G, S, h⟩ := h
  exact h H (.refl S)
theorem ip_some (h : PE X e (tE (gd X) W fl p m)) : PO X (some e) (tP (gd X) W p (pSome m)) := (po_some h).imp fun σ H Q h => by
  obtain ⟨B, G, S, h⟩ := h
  refine ⟨B, G, S, ?_⟩
  unfold pSome at h
  cases h1 : m G with
  | bad => rw [h1] at h; exact h.elim
  | exc x G1 => rw [h1] at h; exact h
  | ok r1 =>
    obtain ⟨d1, G1⟩ := r1
    rw [h1] at h
    intro x H1 P1 R1
    cases d1 with
    | int i =>
      cases R1.w.int_of
      exact ⟨i, rfl, h H1 P1⟩
    | _ => exact h.elim
theorem if_sl (he : PE X e (tE (gd X) W fl p1 m)) (hl : PO X el (tP (gd X) W p2 lo)) (hh : PO X eh (tP (gd X) W p3 hi)) (c : fl.isS = true ∨ (p2 && p3) = true := by first | exact Or.inl rfl | exact Or.inr rfl) :
    PE X (.Subscript e (.Slice el eh none q) pos) (tF (gd X) W (p1 && (p2 && p3)) (mSl m lo hi)) :=
  (pe_slice ((SlR.or sl_list sl_tupN).or C8.sl_txt) he hl hh).imp fun σ H Q h => by
  obtain ⟨B, G, S, h⟩ := h
  refine ⟨B, G, S, ?_⟩
  unfold mSl at h
  cases h1 : m G with
  | bad => rw [h1] at h; exact h.elim
  | exc x G1 => rw [h1] at h; exact h
  | ok r1 =>
    obtain ⟨d1, G1⟩ := r1
    rw [h1] at h
    intro x H1 P1 R1
    refine ⟨B, G1, P1.sta, ?_⟩
    dsimp only at h
    cases h2 : lo G1 with
    | bad => rw [h2] at h; exact h.elim
    | exc x G2 => rw [h2] at h; exact fun cls dx H' P2 e => h cls dx H' (P1.trans' P2) e
    | ok r2 =>
      obtain ⟨a, G2⟩ := r2
      rw [h2] at h
      intro H2 P2
      refine ⟨B, G2, P2.sta, ?_⟩
      dsimp only at h
      cases h3 : hi G2 with
      | bad => rw [h3] at h; exact h.elim
      | exc x G3 => rw [h3] at h; exact fun cls dx H' P3 e => h cls dx H' (P1.trans' (P2.trans' P3)) e
      | ok r3 =>
        obtain ⟨b, G3⟩ := r3
        rw [h3] at h
        intro H3 P3
        have R3 := (RelF.over R1 (P2.trans P3) c).w
        have P : Post (gd X) B (p1 && (p2 && p3)) G G3 σ H H3 := P1.trans (P2.trans P3)
        dsimp only at h
        cases hf : fSl d1 a b with
        | none => rw [hf] at h; exact h.elim
        | some d =>
          rw [hf] at h
          cases d1 with
          | list xs =>
            cases hf
            obtain ⟨l, vs, rfl, sa, ra⟩ := R3.lst_of
            refine .inl (.inl ⟨l, vs, rfl, sa, fun q n => fresh_end P n (Ex.new n) (own_lst n ra.cut) h⟩)
          | tuple xs =>
            cases hf
            have h : ∀ v H', Post (gd X) B (p1 && (p2 && p3)) G G3 σ H H' → RelD (gd X) (Ow B G3 σ) H' v (.tuple (cutL xs a b)) → Q v H' := by
              simpa [isObj] using h
            have R3' := R3.tup
            obtain ⟨l, vs, rfl, sa, ra⟩ := R3.tup_of
            refine .inl (.inr ⟨l, vs, rfl, sa, fun w => h _ _ P ?_, fun us q n => h _ _ (P.ex (Ex.new n)) (new_tup n ra.cut)⟩)
            have e : cutL xs a b = xs := by
              unfold cutL
              rw [← ra.length, w.1, w.2, List.drop_zero, Nat.sub_zero, ra.length, List.take_length]
            rw [e]
            exact R3'
          | str z =>
            obtain ⟨cz, rfl⟩ := ite_some (show (if szOk z.length = true then some (PyData.str (Txt.slice z a b)) else none) = some d from hf)
            have h : ∀ v H', Post (gd X) B (p1 && (p2 && p3)) G G3 σ H H' → RelD (gd X) (Ow B G3 σ) H' v (.str (Txt.slice z a b)) → Q v H' := by
              simpa [isObj] using h
            cases R3.str_of
            exact .inr ⟨z, rfl, szOk_le cz, h _ _ P (.str _)⟩
          | _ => cases hf
end
/-! ### tuple(range(..)), list(range(..)) -/
def mRg1 (k : List PyData → PyData) (m : M) : M := fun G => match m G with
  | .ok (.int j, G1) => if szOk j.toNat && smallI j then .ok (k (rangeD 0 j.toNat), G1) else .bad
  | .ok _ => .bad
  | .exc x G1 => .exc x G1
  | .bad => .bad
theorem rangeD_rel {g : Gd} {E : Addr → Prop} {H : Hp} (a b : Int) : RelDs g E H (rgV a b) (rangeD a (b - a).toNat) := by
  unfold rgV rangeD
  generalize (b - a).toNat = n
  have : ∀ l : List Nat, RelDs g E H (l.map fun i => V.int (a + (i : Nat))) (l.map fun i => PyData.int (a + (i : Nat))) := fun l => by
    induction l with
    | nil => exact .nil
    | cons i l ih => exact .cons (.int _) ih
  exact this _
section
variable {X : Cx} {W : WX} {fl : Fl} {p : Bool} {m : M} {e : Expr} {q q2 rpos pos : Pos}
theorem rgOk1 {j : Int} (h : (szOk j.toNat && smallI j) = true) : RgOk 0 j := by
  obtain ⟨h1, h2⟩ := ba2 h
  have h1 := Nat.le_of_ble_eq_true (show Nat.ble j.toNat 16777216 = true from h1)
  obtain ⟨h3, h4⟩ := smallI_of h2
  exact ⟨by omega, by omega, h3, by omega, by omega⟩
theorem ie_tupRg (hc : X.calm = true) (he : PE X e (tE (gd X) W fl p m)) (hg : Gl X "tuple") (hm : X.mg "tuple" = none) (hg2 : Gl X "range") (hm2 : X.mg "range" = none) (na : starEach [e] X.env = (false, eval e X.env) :: starEach [] X.env := by rfl)
    (na2 : starEach [Expr.Call (.Name "range" q2) [e] [] rpos] X.env = (false, eval (.Call (.Name "range" q2) [e] [] rpos) X.env) :: starEach [] X.env := by rfl) :
    PE X (.Call (.Name "tuple" q) [.Call (.Name "range" q2) [e] [] rpos] [] pos) (tE (gd X) W .s p (mRg1 .tuple m)) := (pe_tupRgN hc hg hm (prg_1 hg2 hm2 he na) na2).imp fun σ H Q h => by
  obtain ⟨B, G, S, h⟩ := h
  refine ⟨B, G, S, ?_⟩
  unfold mRg1 at h
  cases h1 : m G with
  | bad => rw [h1] at h; exact h.elim
  | exc x G1 => rw [h1] at h; exact h
  | ok r1 =>
    obtain ⟨d1, G1⟩ := r1
    rw [h1] at h
    intro x H1 P1 R1
    cases d1 with
    | int j =>
      dsimp only at h
      by_cases c : (szOk j.toNat && smallI j) = true
      · rw [if_pos c] at h
        cases R1.w.int_of
        refine ⟨j, rfl, rgOk1 c, fun us q n => h _ _ (P1.ex (Ex.new n)) (new_tup n ?_)⟩
        have := rangeD_rel (g := gd X) (E := Ow B G1 σ) (H := H1) 0 j
        rw [Int.sub_zero] at this
        exact this
      · rw [if_neg c] at h; exact h.elim
    | _ => exact h.elim
theorem if_lstRg (hc : X.calm = true) (he : PE X e (tE (gd X) W fl p m)) (hg : Gl X "list") (hm : X.mg "list" = none) (hg2 : Gl X "range") (hm2 : X.mg "range" = none) (na : starEach [e] X.env = (false, eval e X.env) :: starEach [] X.env := by rfl)
    (na2 : starEach [Expr.Call (.Name "range" q2) [e] [] rpos] X.env = (false, eval (.Call (.Name "range" q2) [e] [] rpos) X.env) :: starEach [] X.env := by rfl) :
    PE X (.Call (.Name "list" q) [.Call (.Name "range" q2) [e] [] rpos] [] pos) (tF (gd X) W p (mRg1 .list m)) := (pe_listRg hc hg hm (prg_1 hg2 hm2 he na) na2).imp fun σ H Q h => by
  obtain ⟨B, G, S, h⟩ := h
  refine ⟨B, G, S, ?_⟩
  unfold mRg1 at h
  cases h1 : m G with
  | bad => rw [h1] at h; exact h.elim
  | exc x G1 => rw [h1] at h; exact h
  | ok r1 =>
    obtain ⟨d1, G1⟩ := r1
    rw [h1] at h
    intro x H1 P1 R1
    cases d1 with
    | int j =>
      dsimp only at h
      by_cases c : (szOk j.toNat && smallI j) = true
      · rw [if_pos c] at h
        cases R1.w.int_of
        refine ⟨j, rfl, rgOk1 c, fun q n => fresh_end P1 n (Ex.new n) (own_lst n ?_) h⟩
        have := rangeD_rel (g := gd X) (E := Ow B G1 σ) (H := H1) 0 j
        rw [Int.sub_zero] at this
        exact this
      · rw [if_neg c] at h; exact h.elim
    | _ => exact h.elim
end
end Mo

/-! MoM: sorted. -/
namespace Mo
open PySem PySem.Spec PyProof.Rows L2
/-! ### insertion sort -/
def insS (le : PyData → PyData → Bool) (x : PyData) : List PyData → List PyData
  | [] => [x]
  | y :: ys => if le x y = true then x :: y :: ys else y :: insS le x ys
def isort (le : PyData → PyData → Bool) : List PyData → List PyData
  | [] => []
  | x :: xs => insS le x (isort le xs)
section
variable {le : PyData → PyData → Bool}
theorem insS_perm (x : PyData) : ∀ ys, (insS le x ys).Perm (x :: ys)
  | [] => .refl _
  | y :: ys => by
    unfold insS
    by_cases c : le x y = true
    · rw [if_pos c]
    · rw [if_neg c]
      exact ((insS_perm x ys).cons y).trans (.swap x y ys)
theorem isort_perm : ∀ xs, (isort le xs).Perm xs
  | [] => .refl _
  | x :: xs => (insS_perm x _).trans ((isort_perm xs).cons x)
theorem insS_pw (h : PySem.W.TotalLe le) (x : PyData) : ∀ ys, ys.Pairwise (fun a b => le a b = true) → (insS le x ys).Pairwise (fun a b => le a b = true)
  | [], _ => List.pairwise_singleton _ _
  | y :: ys, p => by
    obtain ⟨p1, p2⟩ := List.pairwise_cons.mp p
    unfold insS
    by_cases c : le x y = true
    · rw [if_pos c]
      refine List.pairwise_cons.mpr ⟨fun z hz => ?_, p⟩
      rcases List.mem_cons.mp hz with rfl | hz
      · exact c
      · exact h.trans _ _ _ c (p1 z hz)
    · rw [if_neg c]
      refine List.pairwise_cons.mpr ⟨fun z hz => ?_, insS_pw h x ys p2⟩
      rcases List.mem_cons.mp ((insS_perm x ys).mem_iff.mp hz) with rfl | hz
      · exact (h.total y z).resolve_right c
      · exact p1 z hz
theorem insS_flt (h : PySem.W.TotalLe le) (c x : PyData) : ∀ ys, (insS le x ys).filter (PySem.W.sameRank le c) = (x :: ys).filter (PySem.W.sameRank le c)
  | [] => rfl
  | y :: ys => by
    unfold insS
    by_cases k : le x y = true
    · rw [if_pos k]
    · rw [if_neg k]
      have ih := insS_flt h c x ys
      by_cases hy : PySem.W.sameRank le c y = true
      · have hx : ¬ PySem.W.sameRank le c x = true := fun hx => by
          unfold PySem.W.sameRank at hx hy
          rw [Bool.and_eq_true] at hx hy
          exact k (h.trans _ _ _ hx.2 hy.1)
        rw [List.filter_cons_of_neg hx] at ih ⊢
        rw [List.filter_cons_of_pos hy, List.filter_cons_of_pos hy, ih]
      · rw [List.filter_cons_of_neg hy, ih]
        by_cases hx : PySem.W.sameRank le c x = true
        · rw [List.filter_cons_of_pos hx, List.filter_cons_of_pos hx, List.filter_cons_of_neg hy]
        · rw [List.filter_cons_of_neg hx, List.filter_cons_of_neg hx, List.filter_cons_of_neg hy]
theorem isort_pw (h : PySem.W.TotalLe le) : ∀ xs, (isort le xs).Pairwise (fun a b => le a b = true)
  | [] => .nil
  | x :: xs => insS_pw h x _ (isort_pw h xs)
theorem isort_flt (h : PySem.W.TotalLe le) (c : PyData) : ∀ xs, (isort le xs).filter (PySem.W.sameRank le c) = xs.filter (PySem.W.sameRank le c)
  | [] => rfl
  | x :: xs => by
    rw [show isort le (x :: xs) = insS le x (isort le xs) from rfl, insS_flt h, List.filter_cons, List.filter_cons, isort_flt h c xs]
theorem isort_eq (h : PySem.W.TotalLe le) (xs : List PyData) : isort le xs = xs.mergeSort le := PySem.W.sort_unique h (isort_pw h xs) fun c => isort_flt h c xs
end
def dLe (a b : PyData) : Bool := !PySem.W.dataLt b a
theorem dLe_eq : dLe = PySem.W.dataLe false (fun d : PyData => d) := rfl
theorem dLe_total : PySem.W.TotalLe dLe := by
  rw [dLe_eq]
  exact PySem.W.sortLe_total _ _ _
/-- what sorted may be asked to sort -/
def nonEmptyT : PyData → Bool
  | .tuple (_ :: _) => true
  | _ => false
def noTN : PyData → Bool
  | .tuple _ => false
  | .none => false
  | _ => true
def low (d : PyData) : Bool := d.canLay0 && Nat.ble d.depth 60
def sortOk (xs : List PyData) : Bool := szOk xs.length && (xs.all low && ((xs.all nonEmptyT || xs.all noTN) && xs.all fun a => xs.all fun b => PySem.W.alike a b))
theorem sortOk_al {xs : List PyData} (h : (xs.all fun a => xs.all fun b => PySem.W.alike a b) = true) : PySem.W.AllAlike xs := fun d hd d' hd' => List.all_eq_true.mp (List.all_eq_true.mp h d hd) d' hd'
theorem sortOk_so {xs : List PyData} (h : (xs.all nonEmptyT || xs.all noTN) = true) : PySem.W.Sortable xs := by
  rw [Bool.or_eq_true] at h
  rcases h with h | h
  · refine .inl fun d hd => ?_
    have := List.all_eq_true.mp h d hd
    match d, this with
    | .tuple (x :: r), _ => exact ⟨x, r, rfl⟩
  · refine .inr fun d hd => ?_
    have := List.all_eq_true.mp h d hd
    refine ⟨fun e => ?_, fun ys e => ?_⟩
    · rw [e] at this; cases this
    · rw [e] at this; cases this
theorem low_dep {d : PyData} (h : low d = true) : d.depth ≤ 60 := Nat.le_of_ble_eq_true (ba2 h).2
theorem low_lay {xs : List PyData} (h : xs.all low = true) : PyData.canLayAll0 xs = true := by
  induction xs with
  | nil => rfl
  | cons x xs ih =>
    rw [List.all_cons, Bool.and_eq_true] at h
    unfold PyData.canLayAll0
    rw [(ba2 h.1).1, ih h.2]
    rfl
/-- values by what they stand for -/
def StD (g : Gd) (E : Addr → Prop) (H : Hp) (u : Value) (d : PyData) : Prop := ∃ v, RelV v u ∧ RelD g E H v d
theorem each_of {g : Gd} {E : Addr → Prop} {H : Hp} : ∀ {vs : List V} {us : List Value} {ds : List PyData}, Vals vs us → RelDs g E H vs ds → PySem.W.EachIs (StD g E H) us ds
  | _, _, _, .nil, .nil => .nil
  | _, _, _, .cons r t, .cons q s => .cons ⟨_, r, q⟩ (each_of t s)
theorem of_each {g : Gd} {E : Addr → Prop} {H : Hp} : ∀ {us : List Value} {ds : List PyData}, PySem.W.EachIs (StD g E H) us ds → ∃ vs, Vals vs us ∧ RelDs g E H vs ds
  | _, _, .nil => ⟨[], .nil, .nil⟩
  | _, _, .cons ⟨v, r, q⟩ t => by
    obtain ⟨vs, h1, h2⟩ := of_each t
    exact ⟨v :: vs, .cons r h1, .cons q h2⟩
def fSorted : List PyData → Option PyData
  | [.list xs] => if sortOk xs = true then some (.list (isort dLe xs)) else none
  | _ => none
section
variable {X : Cx}
theorem fSorted_ok (hu : X.A.units + 64 < cLine) : CallR X (.builtin "sorted") (rDF (gd X) fSorted) := by
  intro pins s σ H vs us Q I r h
  obtain ⟨E, ds, d, tr, hr, hf, q⟩ := h
  match ds, hf with
  | [.list xs], hf =>
    obtain ⟨c, rfl⟩ := ite_some (show (if sortOk xs = true then some (PyData.list (isort dLe xs)) else none) = some d from hf)
    obtain ⟨c1, c⟩ := ba2 c
    obtain ⟨c2, c3, c4⟩ := ba3 c
    obtain ⟨v, rfl, hv⟩ := fs1 hr
    obtain ⟨a, ws, rfl, sa, ra⟩ := RelW.lst_of hv
    obtain ⟨its, rv, pl, z⟩ := I.list sa
    have hl := rv.length
    rw [Vals.ref1 r]
    have hlen : its.length = xs.length := by rw [← hl, ra.length]
    obtain ⟨as, rd⟩ := Dp.readsAll I xs ws its (ra.dp (low_lay c2)) rv
    have er := PySem.W.readsAll_each (fun d : PyData => d) (bs := xs) (by rw [List.map_id']; exact rd)
    refine PySem.W.sorted_data (enc := fun d : PyData => d) (R := StD (gd X) E H) pl.isList (each_of rv ra) er (by rw [List.map_id']; exact sortOk_al c4) (by rw [List.map_id']; exact sortOk_so c3) (by rw [← ra.length]; exact z) (fun b hb => by have := low_dep (List.all_eq_true.mp c2 b hb); omega) fun out ho eo => ?_
    rw [← dLe_eq, ← isort_eq dLe_total] at eo
    obtain ⟨vs', rv', ra'⟩ := of_each eo
    obtain ⟨ep, he'⟩ := PyProof.Rows.sortedAll_at s.heap its out.toArray
    have hz' : vs'.length ≤ sizeLine := by rw [ra'.length, (isort_perm xs).length_eq, ← ra.length]; exact z
    have nf : H (s.heap.objs.size + 1) = none := I.hok.fresh (Nat.le_succ _)
    exact ⟨.ref _, upd H (s.heap.objs.size + 1) (.lst vs'), I.laid (t' := s.toks) (fun _ _ => PyProof.Rows.sortedAll_old) (Nat.le_succ _) ⟨hz', out, ep, rv', he'⟩, rfl, q _ _ (Ex.new nf) nf (own_lst nf ra')⟩
end
end Mo

/-! MoN: sorted(set(xs)), xs tuples of whole numbers. -/
namespace Mo
open PySem PySem.Spec PyProof.Rows L2
def encT (ks : List Int) : PyData := .tuple (ks.map .int)
theorem map_int_inj : ∀ {a b : List Int}, a.map PyData.int = b.map PyData.int → a = b
  | [], [], _ => rfl
  | [], _ :: _, h => by cases h
  | _ :: _, [], h => by cases h
  | x :: a, y :: b, h => by
    rw [List.map_cons, List.map_cons] at h
    injection h with h1 h2
    injection h1 with h1
    rw [h1, map_int_inj h2]
theorem encT_inj {a b : List Int} (h : encT a = encT b) : a = b := map_int_inj (by injection h)
theorem encT_lt (a b : List Int) : PySem.W.dataLt (encT a) (encT b) = decide (a < b) := by
  unfold encT
  rw [PySem.W.dataLt_tuple]
  exact PySem.W.dataLt_ints a b
theorem encT_anti {a b : List Int} (h1 : dLe (encT a) (encT b) = true) (h2 : dLe (encT b) (encT a) = true) : a = b := by
  unfold dLe at h1 h2
  rw [encT_lt] at h1 h2
  have h1 : ¬ b < a := by simpa using h1
  have h2 : ¬ a < b := by simpa using h2
  exact List.le_antisymm (List.not_lt.mp h1) (List.not_lt.mp h2)
/-- tuples of whole numbers of data -/
def intT? : PyData → Option (List Int)
  | .tuple xs => ints? xs
  | _ => none
def intTs? : List PyData → Option (List (List Int))
  | [] => some []
  | d :: r => (intT? d).bind fun k => (intTs? r).map (k :: ·)
theorem intTs_eq : ∀ {ds : List PyData} {ks : List (List Int)}, intTs? ds = some ks → ds = ks.map encT
  | [], _, h => by cases h; rfl
  | d :: r, ks, h => by
    obtain ⟨k, h1, h2⟩ := Option.bind_eq_some_iff.mp (show (intT? d).bind (fun k => (intTs? r).map (k :: ·)) = some ks from h)
    obtain ⟨m, h3, rfl⟩ := Option.map_eq_some_iff.mp h2
    cases d with
    | tuple xs => rw [List.map_cons, ← intTs_eq h3, encT, ints_eq h1]
    | _ => cases h1
def ddup : List (List Int) → List (List Int)
  | [] => []
  | x :: xs => if xs.contains x = true then ddup xs else x :: ddup xs
theorem ddup_mem {y : List Int} : ∀ {xs}, y ∈ ddup xs ↔ y ∈ xs
  | [] => Iff.rfl
  | x :: xs => by
    unfold ddup
    by_cases c : xs.contains x = true
    · rw [if_pos c, ddup_mem (xs := xs), List.mem_cons]
      refine ⟨.inr, fun h => h.elim (fun h => ?_) id⟩
      rw [h]
      exact List.contains_iff_mem.mp c
    · rw [if_neg c, List.mem_cons, List.mem_cons, ddup_mem (xs := xs)]
theorem ddup_nodup : ∀ xs, (ddup xs).Nodup
  | [] => List.nodup_nil
  | x :: xs => by
    unfold ddup
    by_cases c : xs.contains x = true
    · rw [if_pos c]; exact ddup_nodup xs
    · rw [if_neg c]
      refine List.nodup_cons.mpr ⟨fun h => c ?_, ddup_nodup xs⟩
      exact List.contains_iff_mem.mpr (ddup_mem.mp h)
/-- a sorted list of a set's items is the insertion sort -/
theorem filt_perm {α : Type} {P : α → Bool} {l m : List α} (h : l.Perm m) (n : l.Nodup) (u : ∀ a ∈ l, ∀ b ∈ l, P a = true → P b = true → a = b) : l.filter P = m.filter P := by
  have hp := h.filter P
  have hn : (l.filter P).Nodup := n.filter P
  have hu : ∀ a ∈ l.filter P, ∀ b ∈ l.filter P, a = b := fun a ha b hb => by
    obtain ⟨a1, a2⟩ := List.mem_filter.mp ha
    obtain ⟨b1, b2⟩ := List.mem_filter.mp hb
    exact u a a1 b b1 a2 b2
  revert hp hn hu
  generalize l.filter P = l'
  generalize m.filter P = m'
  intro hp hn hu
  match l', hp, hn, hu with
  | [], hp, _, _ => exact (List.nil_perm.mp hp).symm
  | [a], hp, _, _ => exact List.singleton_perm.mp hp
  | a :: b :: r, hp, hn, hu =>
    have e := hu a List.mem_cons_self b (List.mem_cons_of_mem _ List.mem_cons_self)
    subst e
    exact absurd List.mem_cons_self (List.nodup_cons.mp hn).1
theorem set_sorted {ks ls : List (List Int)} (hm : ∀ k, k ∈ ls ↔ k ∈ ks) (hn : ls.Nodup) (hp : (ls.map encT).Pairwise fun a b => dLe a b = true) : ls.map encT = isort dLe ((ddup ks).map encT) := by
  have nd : ∀ {l : List (List Int)}, l.Nodup → (l.map encT).Nodup := fun {l} h => List.Pairwise.map _ (fun a b hne e => hne (encT_inj e)) h
  have pm : (ls.map encT).Perm ((ddup ks).map encT) := by
    refine List.Perm.map _ ((List.perm_ext_iff_of_nodup hn (ddup_nodup ks)).mpr fun k => ?_)
    rw [hm k, ddup_mem]
  rw [isort_eq dLe_total]
  refine PySem.W.sort_unique dLe_total hp fun c => filt_perm pm (nd hn) fun a ha b hb pa pb => ?_
  obtain ⟨a', _, rfl⟩ := List.mem_map.mp ha
  obtain ⟨b', _, rfl⟩ := List.mem_map.mp hb
  unfold PySem.W.sameRank at pa pb
  obtain ⟨pa1, pa2⟩ := ba2 pa
  obtain ⟨pb1, pb2⟩ := ba2 pb
  rw [encT_anti (dLe_total.trans _ _ _ pa2 pb1) (dLe_total.trans _ _ _ pb2 pa1)]
/-! ### sorted(set), the items tuples of whole numbers, none of them () -/
section
variable {P : Program} {w : World} {A : Around} {E : Value → Shared → Prop} {s : Shared}
theorem isT_reads {h : Heap} {k : List Int} {b : Addr} (x : IsT P w h k b) : Reads h (.ref b) (encT k) [] := by
  obtain ⟨o, items, n, ho, hc, hd, hi⟩ := x
  have q : ∀ {k : List Int} {vs : List Value}, ItemsAre (intKind P w) k vs → ReadsAll h vs (k.map .int) [] := fun {k vs} h => by
    induction h with
    | nil => exact .nil
    | @cons k0 v ks vs h1 _ ih =>
      obtain ⟨t, rfl⟩ := Value.isInt_shape h1
      exact .cons (as := []) (.int k0 t) ih
  exact .tuple ho hc hd (q hi)
theorem refs_in {L : List (Addr × List Int)} : ∀ vs : List Value, (∀ v ∈ vs, v ∈ L.map fun q => Value.ref q.1) → ∃ M : List (Addr × List Int), vs = M.map (fun q => Value.ref q.1) ∧ ∀ q ∈ M, q ∈ L
  | [], _ => ⟨[], rfl, fun q hq => nomatch hq⟩
  | v :: vs, h => by
    obtain ⟨q, hq, e⟩ := List.mem_map.mp (h v List.mem_cons_self)
    obtain ⟨M, e1, hM⟩ := refs_in vs fun u hu => h u (List.mem_cons_of_mem _ hu)
    refine ⟨q :: M, by rw [List.map_cons, e, e1], fun r hr => (List.mem_cons.mp hr).elim (fun z => ?_) (hM r)⟩
    rw [z]; exact hq
theorem nodup_of_refs {M : List (Addr × List Int)} (h : (M.map fun q => Value.ref q.1).Nodup) : M.Nodup := nodup_of_map h
theorem sorted_setD {a : Addr} {L : List (Addr × List Int)} {es : Array (Int × Value)} {ep : Nat} {t : SetTable} {Q : Value → Shared → Prop} (R : SetTR P w s.heap a L es ep t) (hh : A.handled = none) (hu : A.units + 64 < cLine)
    (hne : ∀ q ∈ L, q.2 ≠ [])
    (hQ : ∀ s' p (out : Array Value) (c : Nat) (M : List (Addr × List Int)), (∀ b o, s.heap.get? b = some o → s'.heap.get? b = some o) → s'.gens = s.gens → s'.os = s.os → s.heap.objs.size ≤ p → s'.heap.get? p = some (seqObj "list" out c) →
      out.toList = M.map (fun q => Value.ref q.1) → M.Perm L → (M.map fun q => encT q.2).Pairwise (fun x y => dLe x y = true) → Q (.ref p) s') : wpAny (model P w) A (call (.builtin "sorted") [.ref a]) Q E s := by
  obtain ⟨o, ho, hex, hd⟩ := R.ob
  have hfew := R.few
  have hsz := R.size
  refine Calls.call_function_entry kind_sorted plain_sorted entry_sorted (args_sorted1 _) ?_
  unfold Builtin.«sorted»
  refine wpAny_bind (m := checkCount "sorted" 1 1 _) (wpAny_pure ?_)
  refine wpAny_bind (collect_set (A := A.in1) hh ⟨o, ho, hex.1, hd⟩ R.fits (by unfold scanBound; omega) R.tab.ris R.led fun s1 vs k1 hz g1 o1 pm => ?_)
  have rows : es.toList.map (·.2) = L.map fun q => Value.ref q.1 := by
    rw [R.rows, rowsOf, List.map_map]
    rfl
  rw [rows] at pm
  obtain ⟨M, eM, hM⟩ := refs_in vs fun v hv => pm.mem_iff.mp hv
  have uniq : ∀ q ∈ L, ∀ r ∈ L, q.1 = r.1 → q = r := fun q hq r hr e => by
    have t1 := R.tup q hq
    have t2 := R.tup r hr
    rw [e] at t1
    exact Prod.ext e (t1.inj t2)
  have nL : (L.map fun q => Value.ref q.1).Nodup := by
    have n0 : L.Nodup := nodup_of_map R.nd
    refine List.pairwise_map.mpr (List.Pairwise.imp_of_mem (fun {q r} hq hr ne e => ne ?_) n0)
    injection e with e
    exact uniq q hq r hr e
  have pM : M.Perm L := by
    have nM : M.Nodup := nodup_of_refs (by rw [← eM]; exact pm.nodup_iff.mpr nL)
    refine (List.perm_ext_iff_of_nodup nM (nodup_of_refs nL)).mpr fun q => ⟨hM q, fun hq => ?_⟩
    have hv : Value.ref q.1 ∈ vs := pm.mem_iff.mpr (List.mem_map.mpr ⟨q, hq, rfl⟩)
    rw [eM] at hv
    obtain ⟨r, hr, e⟩ := List.mem_map.mp hv
    injection e with e
    rw [← uniq r (hM r hr) q hq e]
    exact hr
  have hvl : vs.length < 64 := by rw [pm.length_eq, List.length_map]; exact hfew
  refine wpAny_bind (wpAny_newList ?_ (by rw [sizeLine_eq]; omega))
  have hoL : (s1.heap.push (seqObj "list" vs.toArray 0)).get? s1.heap.objs.size = some (seqObj "list" vs.toArray 0) := Heap.get?_push_size _ rfl
  have rd : ∀ q ∈ L, Reads (s1.heap.push (seqObj "list" vs.toArray 0)) (.ref q.1) (encT q.2) [] := fun q hq => isT_reads (P := P) (w := w) (isT_keep (R.tup q hq) fun b u e => Heap.get?_push_of_some _ (k1 b u e))
  have eachM : ∀ {T : Value → (Addr × List Int) → Prop}, (∀ q ∈ L, T (.ref q.1) q) → PySem.W.EachIs T vs M := fun {T} h => by
    have : ∀ M : List (Addr × List Int), (∀ q ∈ M, q ∈ L) → PySem.W.EachIs T (M.map fun q => Value.ref q.1) M := fun M => by
      induction M with
      | nil => exact fun _ => .nil
      | cons q M ih => exact fun hM => .cons (h q (hM q List.mem_cons_self)) (ih fun r hr => hM r (List.mem_cons_of_mem _ hr))
    rw [eM]
    exact this M hM
  have hlM : M.length < 64 := by rw [pM.length_eq]; exact hfew
  refine wpAny_bind (wpAny_holding (PySem.W.list_sort_data (s := { s1 with heap := s1.heap.push (seqObj "list" vs.toArray 0) }) (R := fun v (q : Addr × List Int) => v = .ref q.1) (bs := M) (enc := fun q => encT q.2) hoL (eachM fun q _ => rfl)
    (eachM fun q hq => ⟨[], rd q hq, List.not_mem_nil⟩) (PySem.W.AllAlike.of fun q r => ?_) (.inl fun d hd => ?_) (by rw [sizeLine_eq]; omega) (fun q hq => ?_) fun out a1 a2 => ?_))
  · show PySem.W.alike (.tuple _) (.tuple _) = true
    rw [PySem.W.alike]
    exact PySem.W.alike_ints _ _
  · obtain ⟨q, hq, rfl⟩ := List.mem_map.mp hd
    have := hne q (hM q hq)
    unfold encT
    cases e : q.2 with
    | nil => exact absurd e this
    | cons x r => exact ⟨_, _, rfl⟩
  · have e : (encT q.2).depth ≤ 1 := by
      unfold encT
      rw [PyData.depth, PySem.W.depth_ints]
      exact Nat.le_refl _
    show A.in1.units + 1 + _ < cLine
    have : A.in1.units = A.units + 1 := rfl
    omega
  · obtain ⟨c, hc⟩ := sortedHeap_at (vs := vs) (out := out.toArray) hoL
    have eo : out = (M.mergeSort (PySem.W.dataLe false fun q => encT q.2)).map fun q => Value.ref q.1 := by
      revert a2
      generalize M.mergeSort (PySem.W.dataLe false fun q => encT q.2) = N
      intro a2
      clear a1 hc c
      induction a2 with
      | nil => rfl
      | cons h _ ih => rw [List.map_cons, ← ih, h]
    have pw := PySem.W.sort_pairwise (le := PySem.W.dataLe false fun q : Addr × List Int => encT q.2) (PySem.W.sortLe_total (listOrd itemOrd) false fun q : Addr × List Int => PySem.W.keyToks (encT q.2)) M
    refine wpAny_pure ⟨_, rfl, hQ _ s1.heap.objs.size out.toArray c (M.mergeSort (PySem.W.dataLe false fun q => encT q.2)) (fun b u e => ?_) g1 o1 hz hc (by rw [List.toList_toArray]; exact eo) ((List.mergeSort_perm _ _).trans pM) (List.pairwise_map.mpr pw)⟩
    have q := k1 b u e
    have hlt := Heap.lt_size q
    show (sortedHeap (s1.heap.push (seqObj "list" vs.toArray 0)) s1.heap.objs.size vs out.toArray).get? b = some u
    rw [sortedHeap_old (Nat.ne_of_lt hlt) (by rw [size_push']; exact Nat.lt_succ_of_lt hlt)]
    exact Heap.get?_push_of_some _ q
end
/-- sorted(set), by values -/
def rSrtS (K : PySem.W.Frag) (P : Program) (w : World) : List V → Hp → VK → Prop := fun vs H Q => ∃ (a : Addr) (L : List (Addr × List Int)), vs = [V.ref a] ∧ H a = some (SetTO P w a L) ∧ (∀ q ∈ L, SqT K H q.1 (q.2.map V.int) ∧ q.2 ≠ []) ∧
  ∀ (M : List (Addr × List Int)) (p : Addr), M.Perm L → (M.map (·.2)).Nodup → M.length < 64 → (M.map fun q => encT q.2).Pairwise (fun x y => dLe x y = true) → H p = none → Q (.ref p) (upd H p (.lst (M.map fun q => V.ref q.1)))
section
variable {X : Cx}
theorem srtS_ok (hc : X.calm = true) (hu : X.A.units + 64 < cLine) : CallR X (.builtin "sorted") (rSrtS X.K X.prog X.w) := by
  intro pins s σ H vs us Q I r h
  obtain ⟨a, L, rfl, ha, hk, q⟩ := h
  obtain ⟨es, ep, t, R⟩ := SetT0.full (show SetT0 X.prog X.w s.heap a L from (I.hok a _ ha).1) fun p hp => I.isT (hk p hp).1
  rw [Vals.ref1 r]
  refine sorted_setD R (I.ok.hd hc) hu (fun p hp => (hk p hp).2) fun s' p out c M k g o hp hg hout pm pw => ?_
  have hfew : M.length < 64 := by rw [pm.length_eq]; exact R.few
  have nf : H p = none := I.hok.fresh hp
  have J : Inv X pins σ (upd H p (.lst (M.map fun q => V.ref q.1))) { s with heap := s'.heap, gens := s'.gens, drawn := s'.drawn, toks := s'.toks } :=
    I.call (ch := []) (Un.laid k hp nf) (I.hok.laid k hp ⟨by rw [List.length_map, sizeLine_eq]; omega, out.toList, c, by rw [hout]; exact vals_of_refs M, hg⟩) (by rw [g]; exact I.bare) (fun _ z => nomatch z)
  have e : s' = { s with heap := s'.heap, gens := s'.gens, drawn := s'.drawn, toks := s'.toks } := by
    obtain ⟨h1, h2, h3, h4, h5⟩ := s'
    cases o
    rfl
  rw [e]
  exact ⟨.ref p, _, J, rfl, q M p pm ((pm.map (·.2)).nodup_iff.mpr R.nd) hfew pw nf⟩
end
def fSSet : PyData → Option PyData
  | .list xs => (intTs? xs).bind fun ks => if Nat.ble ks.length 63 && ks.all (fun k => !k.isEmpty) then some (.list (isort dLe ((ddup ks).map encT))) else none
  | _ => none
theorem RelDs.encs {g : Gd} {E : Addr → Prop} {H : Hp} : ∀ {vs : List V} {ks : List (List Int)}, RelDs g E H vs (ks.map encT) → ∃ L : List (Addr × List Int), vs = L.map (fun q => V.ref q.1) ∧ L.map (·.2) = ks ∧ ∀ q ∈ L, TpN g.K H q.1 (q.2.map V.int)
  | _, [], .nil => ⟨[], rfl, rfl, fun _ h => nomatch h⟩
  | _, k :: ks, .cons h t => by
    obtain ⟨L, e1, e2, hL⟩ := RelDs.encs t
    cases h with
    | @tup a xs ds s r =>
      rw [r.ints] at s
      refine ⟨(a, k) :: L, by rw [List.map_cons, e1], by rw [List.map_cons, e2], fun q hq => (List.mem_cons.mp hq).elim (fun z => ?_) (hL q)⟩
      rw [z]; exact s
theorem RelDs.ofInts {g : Gd} {E : Addr → Prop} {H : Hp} : ∀ ns : List Int, RelDs g E H (ns.map V.int) (ns.map .int)
  | [] => .nil
  | n :: ns => .cons (.int n) (RelDs.ofInts ns)
theorem RelDs.ofEncs {g : Gd} {E : Addr → Prop} {H : Hp} : ∀ M : List (Addr × List Int), (∀ r ∈ M, TpN g.K H r.1 (r.2.map V.int)) → RelDs g E H (M.map fun q => V.ref q.1) ((M.map (·.2)).map encT)
  | [], _ => .nil
  | r :: M, h => .cons (.tup (h r List.mem_cons_self) (RelDs.ofInts r.2)) (RelDs.ofEncs M fun q hq => h q (List.mem_cons_of_mem _ hq))
section
variable {X : Cx} {W : WX} {fl : Fl} {p : Bool} {m : M} {e : Expr} {q q2 spos pos : Pos}
theorem if_sset (hc : X.calm = true) (hu : X.A.units + 64 < cLine) (he : PE X e (tE (gd X) W fl p m)) (hg : Gl X "sorted") (hm : X.mg "sorted" = none) (hg2 : Gl X "set") (hm2 : X.mg "set" = none) (na : starEach [e] X.env = (false, eval e X.env) :: starEach [] X.env := by rfl)
    (na2 : starEach [Expr.Call (.Name "set" q2) [e] [] spos] X.env = (false, eval (.Call (.Name "set" q2) [e] [] spos) X.env) :: starEach [] X.env := by rfl)
    (hpl : (backTo spos (starEach [] X.env)).any (·.1) = false := by rfl) (hpl2 : (backTo pos (starEach [] X.env)).any (·.1) = false := by rfl) :
    PE X (.Call (.Name "sorted" q) [.Call (.Name "set" q2) [e] [] spos] [] pos) (tF (gd X) W p (mOp1 fSSet m)) :=
  (pe_callB (srtS_ok hc hu) hg hm (by decide +kernel) (pa_cons (pe_callTy (cr_setOfT hc hu) hg2 hm2 (by decide +kernel) (pa_cons he pa_nil na) (by decide) (by decide) na hpl) pa_nil na2) (by decide) (by decide) na2 hpl2).imp fun σ H Q h => by
  obtain ⟨B, G, S, h⟩ := h
  refine ⟨B, G, S, ?_⟩
  unfold mOp1 at h
  cases h1 : m G with
  | bad => rw [h1] at h; exact h.elim
  | exc x G1 => rw [h1] at h; exact h
  | ok r1 =>
    obtain ⟨d1, G1⟩ := r1
    rw [h1] at h
    dsimp only at h
    intro x H1 P1 R1
    cases hf : fSSet d1 with
    | none => rw [hf] at h; exact h.elim
    | some d =>
      rw [hf] at h
      cases d1 with
      | list xs =>
        obtain ⟨ks, h2, h3⟩ := Option.bind_eq_some_iff.mp (show (intTs? xs).bind (fun ks => if (Nat.ble ks.length 63 && ks.all (fun k => !k.isEmpty)) = true then some (PyData.list (isort dLe ((ddup ks).map encT))) else none) = some d from hf)
        obtain ⟨c, rfl⟩ := ite_some h3
        obtain ⟨c1, c2⟩ := ba2 c
        have c1 := Nat.le_of_ble_eq_true c1
        obtain ⟨a, vs, rfl, sa, ra⟩ := R1.w.lst_of
        rw [intTs_eq h2] at ra
        obtain ⟨L, rfl, e2, hL⟩ := ra.encs
        have hl : L.length = ks.length := by rw [← e2, List.length_map]
        refine ⟨a, L, rfl, sa, fun r hr => (hL r hr).sq, by omega, fun b N nb subN allN => ?_⟩
        show rSrtS X.K X.prog X.w [V.ref b] _ _
        have hN : ∀ r ∈ N, TpN X.K (upd H1 b (SetTO X.prog X.w b N)) r.1 (r.2.map V.int) := fun r hr => (hL r (subN r hr)).up nb
        refine ⟨b, N, rfl, upd_same, fun r hr => ⟨(hN r hr).sq, fun z => ?_⟩, fun M p pm nd hf pw np => ?_⟩
        · have := List.all_eq_true.mp c2 r.2 (by rw [← e2]; exact List.mem_map.mpr ⟨r, subN r hr, rfl⟩)
          rw [z] at this
          cases this
        · have np1 : H1 p = none := (Ex.new nb).back np
          have ex : Ex H1 (upd (upd H1 b (SetTO X.prog X.w b N)) p (.lst (M.map fun q => V.ref q.1))) := (Ex.new nb).trans (Ex.new np)
          have eM : (M.map (·.2)).map encT = isort dLe ((ddup ks).map encT) := by
            refine set_sorted (fun k => ?_) nd (by rw [List.map_map]; exact pw)
            rw [← e2, List.mem_map, List.mem_map]
            constructor
            · rintro ⟨r, hr, rfl⟩
              exact ⟨r, subN r (pm.mem_iff.mp hr), rfl⟩
            · rintro ⟨r, hr, rfl⟩
              obtain ⟨r', hr', e'⟩ := List.mem_map.mp (allN r hr)
              exact ⟨r', pm.mem_iff.mpr hr', e'⟩
          refine fresh_end P1 np1 ex (.lst upd_same ?_) h
          rw [← eM]
          exact RelDs.ofEncs M fun r hr => (hN r (pm.mem_iff.mp hr)).up np
      | _ => cases hf
end
end Mo

/-! MoO: methods of tuples, of lists that are looked at: count. -/
namespace Mo
open PySem PySem.Spec PyProof.Rows L2
section
variable {X : Cx} {o e : Expr} {es : List Expr} {to : TE} {t : TA} {name : Str} {apos cpos : Pos} {id : String} {r : V → List V → Hp → VK → Prop}
/-- o.name(e, ..), o a tuple -/
theorem pe_tm (slot : Slot "tuple" name id) (hty : typeOf (.builtin id) = pure (.type "method_descriptor")) (hm : MtR X id r) (ho : PE X o to) (ha : PA X (e :: es) t)
    (hbase : attributeBase o name X.env (eval o X.env) = eval o X.env := by rfl)
    (hfew : ((backTo cpos (starEach (e :: es) X.env)).all (fun x => !x.1) && (backToKw cpos (keywordEach [] X.env)).all (fun x => x.1.isSome) && decide ((e :: es).length + ([] : List Keyword).length + (if ([] : List Keyword).isEmpty then 0 else 1) < 30)) = true := by rfl)
    (hline : (apos.endLine == cpos.line) = true := by rfl) (hs : starEach (e :: es) X.env = (false, eval e X.env) :: starEach es X.env := by rfl) (hplain : (backTo cpos (starEach es X.env)).any (·.1) = false := by rfl) :
    PE X (.Call (.Attribute o name apos) (e :: es) [] cpos) (fun σ H Q => to σ H fun x H1 => (∃ a xs, x = .ref a ∧ TpN X.K H1 a xs) ∧ t σ H1 fun xs H2 => r x xs H2 Q) := by
  refine ⟨fun pins s σ H Q I h => wpAny_Call_method_late hbase hfew hline rfl (thn (ho.run pins s σ H _ I h) fun v s1 ⟨x, H1, I1, r1, ⟨a, xs, ex, tp⟩, q1⟩ => ?_)⟩
  subst ex
  cases r1
  have hd : ∃ ob, s1.heap.get? a = some ob ∧ ob.dict = none := by
    rcases tp with ⟨ob, h1, h2⟩ | ⟨ob, its, n, h1, _, h2, _⟩
    · exact ⟨ob, (I1.hok a _ h1).1, h2⟩
    · exact ⟨ob, I1.kIn _ _ h1, h2⟩
  obtain ⟨ws, rv, ht, _⟩ := I1.tuple tp.sq
  refine ⟨"tuple", id, PySem.F.plainAttrs_tuple, slot, hty, ht.typeIs, fun b eb => by cases eb; exact hd, ?_⟩
  have hA := ha.run cpos pins s1 σ H1 _ I1 q1
  rw [hs] at hA ⊢
  exact Calls.callWith_builtin (by show (false || (backTo cpos (starEach es X.env)).any (·.1)) = false; rw [hplain]; rfl) (Calls.evalArgs_plain (thn hA fun us s2 ⟨vs, H2, I2, r2, q2⟩ => hm pins s2 σ H2 (.ref a) vs (.ref a) us Q I2 (show _ = _ from rfl) r2 q2))
end
def cntOk (xs : List PyData) (d : PyData) : Bool := (PyData.canLayAll0 xs && PyData.plainAll xs) && (d.plain && low d)
def fCount (k : Bool) : PyData → PyData → Option PyData
  | .tuple xs, d => if k && cntOk xs d then some (.int ((xs.countP fun y => PyData.eqv y d : Nat) : Int)) else none
  | .list xs, d => if !k && cntOk xs d then some (.int ((xs.countP fun y => PyData.eqv y d : Nat) : Int)) else none
  | _, _ => none
def rM (g : Gd) (f : PyData → PyData → Option PyData) : V → List V → Hp → VK → Prop := fun x vs H Q => ∃ E d1 d2 d y, (∀ a, E a → (H a).isSome = true) ∧ vs = [y] ∧ RelW g E H x d1 ∧ RelW g E H y d2 ∧ f d1 d2 = some d ∧ ∀ v H', Ex H H' → RelD g E H' v d → Q v H'
section
variable {X : Cx}
theorem mt_cntT (hu : X.A.units + 64 < cLine) : MtR X "tuple.count" (rM (gd X) (fCount true)) := by
  intro pins s σ H x xs v us Q I rx rxs ⟨E, d1, d2, d, y, tr, e, h1, h2, hf, q⟩
  subst e
  obtain ⟨u, rfl, ru⟩ := Vals.one rxs
  cases d1 with
  | tuple ds =>
    obtain ⟨c, rfl⟩ := ite_some (show (if (true && cntOk ds d2) = true then some (PyData.int ((ds.countP fun y => PyData.eqv y d2 : Nat) : Int)) else none) = some d from hf)
    obtain ⟨⟨c1, c2⟩, c3⟩ := show (_ ∧ _) ∧ _ from let z := ba2 (show cntOk ds d2 = true by simpa using c); ⟨ba2 z.1, z.2⟩
    obtain ⟨c3, c4⟩ := ba2 c3
    obtain ⟨a, ws, rfl, sa, ra⟩ := h1.tup_of
    cases rx
    obtain ⟨its, rv, p, hz⟩ := I.tuple sa
    obtain ⟨as, rd⟩ := Dp.readsAll I ds ws its (ra.dp c1) rv
    obtain ⟨bs, rd2⟩ := Dp.reads I d2 y u (h2.dp (ba2 c4).1) ru
    exact SeqAt.count_tuple_data p rd rd2 c2 c3 (by have := low_dep c4; omega) ⟨.int _, H, I.tok _, ⟨_, rfl⟩, q _ H (Ex.refl H) (.int _)⟩
  | list ds => cases (show (if (!true && cntOk ds d2) = true then some (PyData.int ((ds.countP fun y => PyData.eqv y d2 : Nat) : Int)) else none) = some d from hf)
  | _ => cases hf
theorem mt_cntL (hu : X.A.units + 64 < cLine) : MtR X "list.count" (rM (gd X) (fCount false)) := by
  intro pins s σ H x xs v us Q I rx rxs ⟨E, d1, d2, d, y, tr, e, h1, h2, hf, q⟩
  subst e
  obtain ⟨u, rfl, ru⟩ := Vals.one rxs
  cases d1 with
  | list ds =>
    obtain ⟨c, rfl⟩ := ite_some (show (if (!false && cntOk ds d2) = true then some (PyData.int ((ds.countP fun y => PyData.eqv y d2 : Nat) : Int)) else none) = some d from hf)
    obtain ⟨⟨c1, c2⟩, c3⟩ := show (_ ∧ _) ∧ _ from let z := ba2 (show cntOk ds d2 = true by simpa using c); ⟨ba2 z.1, z.2⟩
    obtain ⟨c3, c4⟩ := ba2 c3
    obtain ⟨a, ws, rfl, sa, ra⟩ := h1.lst_of
    cases rx
    obtain ⟨its, rv, p, hz⟩ := I.list sa
    obtain ⟨as, rd⟩ := Dp.readsAll I ds ws its (ra.dp c1) rv
    obtain ⟨bs, rd2⟩ := Dp.reads I d2 y u (h2.dp (ba2 c4).1) ru
    exact SeqAt.count_list_data p.isList rd rd2 c2 c3 (by have := low_dep c4; omega) ⟨.int _, H, I.tok _, ⟨_, rfl⟩, q _ H (Ex.refl H) (.int _)⟩
  | tuple ds => cases (show (if (false && cntOk ds d2) = true then some (PyData.int ((ds.countP fun y => PyData.eqv y d2 : Nat) : Int)) else none) = some d from hf)
  | _ => cases hf
end
def seqK (k : Bool) : PyData → Bool
  | .tuple _ => k
  | .list _ => !k
  | _ => false
/-- a method of a tuple (k), of a list, with one argument -/
def mMet (k : Bool) (f : PyData → PyData → Option PyData) (a b : M) : M := fun G => match a G with
  | .ok (d, G1) => if seqK k d = true then (match b G1 with
    | .ok (e, G2) => (match f d e with
      | some r => .ok (r, G2)
      | none => .bad)
    | .exc x G2 => .exc x G2
    | .bad => .bad) else .bad
  | .exc x G1 => .exc x G1
  | .bad => .bad
section
variable {g : Gd} {W : WX} {fl1 fl2 : Fl} {p1 p2 : Bool} {m1 m2 : M} {σ : L2.St} {H : Hp} {Q : VK} {k : Bool} {f : PyData → PyData → Option PyData}
theorem t_met {tc : V → Hp → Prop} (c : fl1.isS = true ∨ p2 = true) (hk : ∀ E H x d, RelW g E H x d → seqK k d = true → tc x H) (h : tE g W .s (p1 && p2) (mMet k f m1 m2) σ H Q) :
    tE g W fl1 p1 m1 σ H fun x H1 => tc x H1 ∧ tCons (tE g W fl2 p2 m2) tNil σ H1 fun ys H2 => rM g f x ys H2 Q := by
  obtain ⟨B, G, S, h⟩ := h
  refine ⟨B, G, S, ?_⟩
  unfold mMet at h
  cases h1 : m1 G with
  | bad => rw [h1] at h; exact h.elim
  | exc x G1 => rw [h1] at h; exact h
  | ok r1 =>
    obtain ⟨d1, G1⟩ := r1
    rw [h1] at h
    dsimp only at h
    intro x H1 P1 R1
    by_cases z : seqK k d1 = true
    · rw [if_pos z] at h
      refine ⟨hk _ _ _ _ R1.w z, B, G1, P1.sta, ?_⟩
      cases h2 : m2 G1 with
      | bad => rw [h2] at h; exact h.elim
      | exc x G2 => rw [h2] at h; exact fun cls dx H' P2 e => h cls dx H' (P1.trans' P2) e
      | ok r2 =>
        obtain ⟨d2, G2⟩ := r2
        rw [h2] at h
        dsimp only at h
        intro y H2 P2 R2
        cases hf : f d1 d2 with
        | none => rw [hf] at h; exact h.elim
        | some d =>
          rw [hf] at h
          exact ⟨Ow B G2 σ, d1, d2, d, y, fun a q => P2.sta.owTr q, rfl, (RelF.over R1 P2 c).w, R2.w, hf, fun v H' e r => h v H' ((P1.trans P2).ex e) r⟩
    · rw [if_neg z] at h; exact h.elim
end
section
variable {X : Cx} {W : WX} {fl1 fl2 : Fl} {p1 p2 : Bool} {m1 m2 : M} {o e : Expr} {name : Str} {id : String} {apos cpos : Pos} {f : PyData → PyData → Option PyData}
theorem ie_mtT (slot : Slot "tuple" name id) (hty : typeOf (.builtin id) = pure (.type "method_descriptor")) (hm : MtR X id (rM (gd X) f)) (ho : PE X o (tE (gd X) W fl1 p1 m1)) (he : PE X e (tE (gd X) W fl2 p2 m2)) (c : fl1.isS = true ∨ p2 = true := by first | exact Or.inl rfl | exact Or.inr rfl)
    (hbase : attributeBase o name X.env (eval o X.env) = eval o X.env := by rfl)
    (hfew : ((backTo cpos (starEach [e] X.env)).all (fun x => !x.1) && (backToKw cpos (keywordEach [] X.env)).all (fun x => x.1.isSome) && decide ([e].length + ([] : List Keyword).length + (if ([] : List Keyword).isEmpty then 0 else 1) < 30)) = true := by rfl)
    (hline : (apos.endLine == cpos.line) = true := by rfl) (hs : starEach [e] X.env = (false, eval e X.env) :: starEach [] X.env := by rfl) :
    PE X (.Call (.Attribute o name apos) [e] [] cpos) (tE (gd X) W .s (p1 && p2) (mMet true f m1 m2)) :=
  (pe_tm slot hty hm ho (pa_cons he pa_nil hs) hbase hfew hline hs rfl).imp fun σ H Q h => t_met c (fun E H x d r z => by
    cases d with
    | tuple ds => obtain ⟨a, xs, ex, tp, _⟩ := r.tupN_of; exact ⟨a, xs, ex, tp⟩
    | _ => cases z) h
theorem ie_mtL (slot : Slot "list" name id) (hty : typeOf (.builtin id) = pure (.type "method_descriptor")) (hm : MtR X id (rM (gd X) f)) (ho : PE X o (tE (gd X) W fl1 p1 m1)) (he : PE X e (tE (gd X) W fl2 p2 m2)) (c : fl1.isS = true ∨ p2 = true := by first | exact Or.inl rfl | exact Or.inr rfl)
    (hbase : attributeBase o name X.env (eval o X.env) = eval o X.env := by rfl)
    (hfew : ((backTo cpos (starEach [e] X.env)).all (fun x => !x.1) && (backToKw cpos (keywordEach [] X.env)).all (fun x => x.1.isSome) && decide ([e].length + ([] : List Keyword).length + (if ([] : List Keyword).isEmpty then 0 else 1) < 30)) = true := by rfl)
    (hline : (apos.endLine == cpos.line) = true := by rfl) (hs : starEach [e] X.env = (false, eval e X.env) :: starEach [] X.env := by rfl) :
    PE X (.Call (.Attribute o name apos) [e] [] cpos) (tE (gd X) W .s (p1 && p2) (mMet false f m1 m2)) :=
  (pe_bm PySem.F.plainAttrs_list slot hty hm ho (pa_cons he pa_nil hs) hbase hfew hline hs rfl).imp fun σ H Q h => t_met (tc := tyV X.K "list") c (fun E H x d r z => by
    cases d with
    | list ds => obtain ⟨a, xs, ex, sa, _⟩ := r.lst_of; subst ex; exact .inl ⟨rfl, xs, sa⟩
    | _ => cases z) h
theorem ie_cntT (hu : X.A.units + 64 < cLine) (ho : PE X o (tE (gd X) W fl1 p1 m1)) (he : PE X e (tE (gd X) W fl2 p2 m2)) (c : fl1.isS = true ∨ p2 = true := by first | exact Or.inl rfl | exact Or.inr rfl)
    (hbase : attributeBase o "count" X.env (eval o X.env) = eval o X.env := by rfl)
    (hfew : ((backTo cpos (starEach [e] X.env)).all (fun x => !x.1) && (backToKw cpos (keywordEach [] X.env)).all (fun x => x.1.isSome) && decide ([e].length + ([] : List Keyword).length + (if ([] : List Keyword).isEmpty then 0 else 1) < 30)) = true := by rfl)
    (hline : (apos.endLine == cpos.line) = true := by rfl) (hs : starEach [e] X.env = (false, eval e X.env) :: starEach [] X.env := by rfl) :
    PE X (.Call (.Attribute o "count" apos) [e] [] cpos) (tE (gd X) W .s (p1 && p2) (mMet true (fCount true) m1 m2)) := ie_mtT PySem.F.slot_tuple_count PySem.F.type_tuple_count (mt_cntT hu) ho he c hbase hfew hline hs
theorem ie_cntL (hu : X.A.units + 64 < cLine) (ho : PE X o (tE (gd X) W fl1 p1 m1)) (he : PE X e (tE (gd X) W fl2 p2 m2)) (c : fl1.isS = true ∨ p2 = true := by first | exact Or.inl rfl | exact Or.inr rfl)
    (hbase : attributeBase o "count" X.env (eval o X.env) = eval o X.env := by rfl)
    (hfew : ((backTo cpos (starEach [e] X.env)).all (fun x => !x.1) && (backToKw cpos (keywordEach [] X.env)).all (fun x => x.1.isSome) && decide ([e].length + ([] : List Keyword).length + (if ([] : List Keyword).isEmpty then 0 else 1) < 30)) = true := by rfl)
    (hline : (apos.endLine == cpos.line) = true := by rfl) (hs : starEach [e] X.env = (false, eval e X.env) :: starEach [] X.env := by rfl) :
    PE X (.Call (.Attribute o "count" apos) [e] [] cpos) (tE (gd X) W .s (p1 && p2) (mMet false (fCount false) m1 m2)) := ie_mtL PySem.F.slot_list_count PySem.F.type_list_count (mt_cntL hu) ho he c hbase hfew hline hs
end
end Mo

/-! MoP: f(an object just made, ..): the object is lent, then forgotten. -/
namespace Mo
open PySem PySem.Spec PyProof.Rows L2
/-- the callee's object is no one else's -/
def mCallT (F : Fn) (a : M) (r : MA) : M := fun G => match a G with
  | .ok (d, G1) => if isObj d = true then (match r G1 with
    | .ok (ds, G2) => (match F (d :: ds) with
      | .ok v _ => .ok (v, G2)
      | .exc x _ => .exc x G2
      | .bad => .bad)
    | .exc x G2 => .exc x G2
    | .bad => .bad) else .bad
  | .exc x G1 => .exc x G1
  | .bad => .bad
def ioT (n : Nat) : List AK := .lent :: List.replicate n .val
theorem ioT_lent {n i : Nat} (h : (ioT n)[i]? = some .lent) : i = 0 := by
  cases i with
  | zero => rfl
  | succ i =>
    unfold ioT at h
    rw [List.getElem?_cons_succ] at h
    have := List.eq_of_mem_replicate (List.mem_of_getElem? h)
    cases this
section
variable {g : Gd} {B : Bs} {G G' : Env'} {σ : L2.St} {H H1 : Hp}
/-- what stands apart from a stays, a may change -/
theorem Sta.but {a : Addr} (S : Sta g { B with E := fun b => B.E b ∨ b = a } G σ H) (k : Keep (fun b => b = a) H H1) (c : Ch H a) (so : (H1 a).isSome = true) (z : B.H0 a = none) : Sta g B G σ H1 := by
  have hm : ∀ b, b = a → Ch H b := fun b e => by rw [e]; exact c
  have hE : ∀ b, b = a → Ow { B with E := fun b => B.E b ∨ b = a } G σ b := fun b e => .inl (.inr e)
  have hE' : ∀ b, Ow B G σ b → (H b).isSome = true → Ow { B with E := fun b => B.E b ∨ b = a } G σ b := fun b h _ => h.elim (fun h => .inl (.inl h)) .inr
  have dm : ∀ b, (H b).isSome = true → (H1 b).isSome = true := fun b h => by
    by_cases e : b = a
    · rw [e]; exact so
    · obtain ⟨u, q⟩ := Option.isSome_iff_exists.mp h
      rw [k b u q e]; rfl
  refine ⟨S.len, fun i d h => ?_, fun i d h => ?_, fun i d h => ?_, S.adr, S.uni, fun b u hb nb => ?_, fun b hb => dm b (S.etr b (.inl hb))⟩
  · obtain ⟨v, e1, r⟩ := S.val i d h
    exact ⟨v, e1, r.keep k hm hE hE'⟩
  · obtain ⟨b, e1, nE, z1, o⟩ := S.own i d h
    exact ⟨b, e1, fun q => nE (.inl q), z1, o.keep k hm hE hE' fun q => nE (.inr q)⟩
  · obtain ⟨e1, nE, o⟩ := S.lent i d h
    exact ⟨e1, fun q => nE (.inl q), o.keep k hm hE hE' fun q => nE (.inr q)⟩
  · exact k b u (S.ent b u hb nb) fun e => by rw [e, z] at hb; cases hb
end
section
variable {g : Gd} {W : WX} {F : Fn} {m : M} {r : MA} {σ : L2.St} {H : Hp} {Q : VK} {p : Bool} {n : Nat}
theorem t_callT (hn : ∀ G ds G', r G = .ok (ds, G') → ds.length = n) (h : tE g W .s false (mCallT F m r) σ H Q) : tCallS (spF g (ioT n) false F) (WE W) (tCons (tF g W p m) (tA g W .s true r)) σ H Q := by
  obtain ⟨B, G, S, h⟩ := h
  refine ⟨B, G, S, ?_⟩
  unfold mCallT at h
  cases h1 : m G with
  | bad => rw [h1] at h; exact h.elim
  | exc x G1 => rw [h1] at h; exact h
  | ok r1 =>
    obtain ⟨d, G1⟩ := r1
    rw [h1] at h
    dsimp only at h ⊢
    by_cases ob : isObj d = true
    case neg => rw [if_neg ob] at h; exact h.elim
    rw [if_pos ob] at h ⊢
    intro a H1 P1 PX na o
    refine ⟨{ B with E := fun b => B.E b ∨ b = a }, G1, PX.sta, ?_⟩
    have z : B.H0 a = none := sta_z S na
    have oO : ∀ b, Ow { B with E := fun b => B.E b ∨ b = a } G1 σ b ↔ (Ow B G1 σ b ∨ b = a) := fun b => by
      constructor
      · rintro ((q | q) | q)
        · exact .inl (.inl q)
        · exact .inr q
        · exact .inl (.inr q)
      · rintro ((q | q) | q)
        · exact .inl (.inl q)
        · exact .inr q
        · exact .inl (.inr q)
    have naE : ¬ Ow B G1 σ a := fun q => by
      rcases q with q | ⟨i, e, c, s⟩
      · have := S.etr a q
        rw [na] at this; cases this
      · exact (slot_addr PX.sta c s).2.1 (.inr rfl)
    cases h2 : r G1 with
    | bad => rw [h2] at h; exact h.elim
    | exc x G2 =>
      rw [h2] at h
      intro cls dx H' P2 e
      have P2' : PostS g { B with E := fun b => B.E b ∨ b = a } G1 G2 σ σ H1 H' := P2.s
      have S2 : Sta g B G2 σ H' := P2.sta.less fun b q => .inl q
      refine h cls dx H' ?_ e.any
      refine ⟨S2, fun v d' hv => ?_, fun b q => P1.sub b (P2.sub b q), fun b u hb e => P2.kpE b u (.inl hb) (P1.kpE b u hb e), fun i => (P2.lnt i).trans (P1.lnt i), fun b hb => P2.dom b (P1.dom b hb), fun i s hs n1 n2 => P2.sam i s (P1.sam i s hs n1 n2) n1 n2, fun e => nomatch e⟩
      have hv1 : RelD g (Ow { B with E := fun b => B.E b ∨ b = a } G σ) H v d' := hv.keep (M := fun _ => False) (Ex.refl H).keep (fun _ q => q.elim) (fun _ q => q.elim) fun b q so => by
        rcases q with (q | q) | q
        · exact .inl q
        · rw [q, na] at so; cases so
        · exact .inr q
      exact (P2.pres v d' (PX.pres v d' hv1)).sub fun b q => q.elim (fun q => .inl (.inl q)) .inr
    | ok r2 =>
      obtain ⟨ds, G2⟩ := r2
      rw [h2] at h
      dsimp only at h
      intro vs H2 P2 R2
      obtain ⟨eG, ex⟩ := P2.pur rfl
      subst eG
      have R := RelFs.rel R2
      have ln := hn G2 ds G2 h2
      have oa : OwnAt g (Ow { B with E := fun b => B.E b ∨ b = a } G2 σ) H2 a d := (o.keep (M := fun _ => False) ex.keep (fun _ q => q.elim) (fun _ q => q.elim) (fun b q _ => (oO b).mp q) fun q => q)
      have laA : ∀ b, LA (ioT n) (V.ref a :: vs) b ↔ b = a := fun b => by
        constructor
        · rintro ⟨i, h1, h2⟩
          have e := ioT_lent h1
          subst e
          simp at h2
          exact h2.symm
        · rintro rfl
          exact ⟨0, rfl, rfl⟩
      have eE : (fun b => Ow B G2 σ b ∨ LA (ioT n) (V.ref a :: vs) b) = Ow { B with E := fun b => B.E b ∨ b = a } G2 σ := funext fun b => propext (by rw [laA b]; exact (oO b).symm)
      have lv : vs.length = n := by rw [R.length]; exact ln
      have args : ArgsOk g (Ow B G2 σ) (ioT n) (V.ref a :: vs) (d :: ds) H2 := by
        refine ⟨by simp [ioT, lv], by simp [ioT, ln], fun b q => P2.sta.owTr ((oO b).mpr (.inl q)), fun i hi => ?_, fun i hi => ?_, fun i b hi => ?_, fun i j b hi hj _ _ => by rw [ioT_lent hi, ioT_lent hj]⟩
        · rw [eE]
          cases i with
          | zero => cases hi
          | succ i =>
            have hi' : i < ds.length := by
              rw [ln]
              unfold ioT at hi
              rw [List.getElem?_cons_succ] at hi
              have := (List.getElem?_eq_some_iff.mp hi).1
              rwa [List.length_replicate] at this
            obtain ⟨v, e1, e2⟩ := R.get (List.getElem?_eq_getElem hi')
            exact ⟨v, ds[i], by simpa using e1, by simp [hi'], e2⟩
        · have e := ioT_lent hi
          subst e
          rw [eE]
          exact ⟨a, d, rfl, rfl, naE, oa⟩
        · cases i with
          | zero => cases hi
          | succ i =>
            unfold ioT at hi
            rw [List.getElem?_cons_succ] at hi
            have := List.eq_of_mem_replicate (List.mem_of_getElem? hi)
            cases this
      refine ⟨_, _, args, ?_⟩
      have key : ∀ {outs H'}, Keep (LA (ioT n) (V.ref a :: vs)) H2 H' → OutsOk g (fun b => Ow B G2 σ b ∨ LA (ioT n) (V.ref a :: vs) b) (ioT n) (V.ref a :: vs) outs H' → Post g B false G G2 σ H H' := fun {outs H'} kp ho => by
        have kp' : Keep (fun b => b = a) H2 H' := fun b u e nb => kp b u e fun l => nb ((laA b).mp l)
        obtain ⟨a', o', ea, _, oo⟩ := ho 0 rfl
        have ea' : a = a' := by simpa using ea
        subst ea'
        have so := oo.some
        have hm : ∀ b, b = a → Ch H2 b := fun b e => by rw [e]; exact oa.ch
        have dm : ∀ b, (H2 b).isSome = true → (H' b).isSome = true := fun b h => by
          by_cases e : b = a
          · rw [e]; exact so
          · obtain ⟨u, q⟩ := Option.isSome_iff_exists.mp h
            rw [kp' b u q e]; rfl
        refine ⟨P2.sta.but kp' oa.ch so z, fun v d' hv => ?_, P1.sub, fun b u hb e => ?_, P1.lnt, fun b hb => dm b (P2.dom b (P1.dom b hb)), P1.sam, fun e => nomatch e⟩
        · have hv1 : RelD g (Ow { B with E := fun b => B.E b ∨ b = a } G σ) H v d' := hv.keep (M := fun _ => False) (Ex.refl H).keep (fun _ q => q.elim) (fun _ q => q.elim) fun b q so => by
            rcases q with (q | q) | q
            · exact .inl q
            · rw [q, na] at so; cases so
            · exact .inr q
          exact (P2.pres v d' (PX.pres v d' hv1)).keep kp' hm (fun b e => .inl (.inr e)) fun b q _ => (oO b).mpr (.inl q)
        · refine kp' b u (P2.kpE b u (.inl hb) (P1.kpE b u hb e)) fun e' => ?_
          rw [e'] at hb
          exact naE (.inl hb)
      cases hF : F (d :: ds) with
      | bad => rw [hF] at h; exact h.elim
      | exc x outs =>
        rw [hF] at h
        exact fun cls dx H' kp ho e => h cls dx H' (key kp ho) e.any
      | ok v outs =>
        rw [hF] at h
        dsimp only at h ⊢
        rw [if_neg (by simp)]
        exact fun u H' kp ho rv => h u H' (key kp ho) (rv.sub fun b q => .inl q)
end
section
variable {X : Cx} {W : WX} {F : Fn} {m : M} {r : MA} {p : Bool} {k n : Nat} {f : Addr} {fd : FuncData} {ps : List Str} {x : Str} {q pos : Pos} {e : Expr} {es : List Expr}
theorem ie_callT (tk : Takes X W) (Fo : FnOk X.prog X.w X.K X.mg X.base (L2.CX X.prog X.w) k f fd ps (spF (gd X) (ioT n) false F)) (hr : Room k X.A) (hg : Gl X x) (hm : X.mg x = some (.ref f)) (hk : PySem.W.keepIn X.K (.ref f) = true) (hb : Binds X.K fd ps [])
    (h1 : PE X e (tF (gd X) W p m)) (h2 : PA X es (tA (gd X) W .s true r)) (hn : ∀ G ds G', r G = .ok (ds, G') → ds.length = n) (hdb : (x == ("__debug__" : Str)) = false := by decide) (he : starEach (e :: es) X.env = (false, eval e X.env) :: starEach es X.env := by rfl) (hpl : (backTo pos (starEach es X.env)).any (·.1) = false := by rfl) :
    PE X (.Call (.Name x q) (e :: es) [] pos) (tE (gd X) W .s false (mCallT F m r)) :=
  (pe_callS Fo hr hg hm hk hb (fun σ => passAt tk σ) (pa_cons h1 h2 he) hdb he hpl).imp fun σ H Q h => t_callT hn h
theorem aCons_len {m : M} {r : MA} {n : Nat} (h : ∀ G ds G', r G = .ok (ds, G') → ds.length = n) : ∀ G ds G', aCons m r G = .ok (ds, G') → ds.length = n + 1 := fun G ds G' e => by
  unfold aCons at e
  cases h1 : m G with
  | ok r1 =>
    obtain ⟨d, G1⟩ := r1
    rw [h1] at e
    dsimp only at e
    cases h2 : r G1 with
    | ok r2 =>
      obtain ⟨es, G2⟩ := r2
      rw [h2] at e
      cases e
      rw [List.length_cons, h _ _ _ h2]
    | exc x G2 => rw [h2] at e; cases e
    | bad => rw [h2] at e; cases e
  | exc x G2 => rw [h1] at e; cases e
  | bad => rw [h1] at e; cases e
theorem aNil_len : ∀ G ds G', aNil G = .ok (ds, G') → ds.length = 0 := fun G ds G' e => by cases e; rfl
end
theorem room65 {k : Nat} {A : Around} (r : Room k A) : A.units + 65 < cLine := by
  have := r.un
  omega
end Mo

/-! MoQ: what the laws' own helpers do: cell, pen, draw. -/
namespace Mo
open PySem PySem.Spec PyProof.Rows L2
/-! ### the meanings' equations -/
section
variable {G G1 G2 : Env'} {m m1 m2 : M} {d e r : PyData} {bd : Bd} {a b s : SM} {c : MB} {x : Exn} {ds : List PyData} {ma : MA}
theorem sSeq_nx {R : SR} (h1 : a G = .nx G1) (h2 : b G1 = R) : sSeq a b G = R := by unfold sSeq; rw [h1]; exact h2
theorem sSeq_rt (h1 : a G = .rt d G1) : sSeq a b G = .rt d G1 := by unfold sSeq; rw [h1]
theorem sIf_t {R : SR} (h1 : c G = .ok (true, G1)) (h2 : a G1 = R) : sIf c a b G = R := by unfold sIf; rw [h1]; exact h2
theorem sIf_f {R : SR} (h1 : c G = .ok (false, G1)) (h2 : b G1 = R) : sIf c a b G = R := by unfold sIf; rw [h1]; exact h2
theorem sAsg_ok (h1 : m G = .ok (d, G1)) (h2 : bd d G1 = some G2) : sAsg bd m G = .nx G2 := by unfold sAsg; rw [h1]; dsimp only; rw [h2]
theorem sRet_ok (h1 : m G = .ok (d, G1)) : sRet m G = .rt d G1 := by unfold sRet; rw [h1]
theorem sDrop_ok (h1 : m G = .ok (d, G1)) : sDrop m G = .nx G1 := by unfold sDrop; rw [h1]
theorem mOp2_ok {f : PyData → PyData → Option PyData} (h1 : m1 G = .ok (d, G1)) (h2 : m2 G1 = .ok (e, G2)) (h3 : f d e = some r) : mOp2 f m1 m2 G = .ok (r, G2) := by unfold mOp2; rw [h1]; dsimp only; rw [h2]; dsimp only; rw [h3]
theorem mOp1_ok {f : PyData → Option PyData} (h1 : m1 G = .ok (d, G1)) (h3 : f d = some r) : mOp1 f m1 G = .ok (r, G1) := by unfold mOp1; rw [h1]; dsimp only; rw [h3]
theorem aCons_ok (h1 : m G = .ok (d, G1)) (h2 : ma G1 = .ok (ds, G2)) : aCons m ma G = .ok (d :: ds, G2) := by unfold aCons; rw [h1]; dsimp only; rw [h2]
theorem mCallB_ok {f : List PyData → Option PyData} (h1 : ma G = .ok (ds, G1)) (h2 : f ds = some d) : mCallB f ma G = .ok (d, G1) := by unfold mCallB; rw [h1]; dsimp only; rw [h2]
theorem bB_ok {z : Bool} (h1 : m G = .ok (.bool z, G1)) : bB m G = .ok (z, G1) := by unfold bB; rw [h1]
theorem bNot_ok {z : Bool} (h1 : c G = .ok (z, G1)) : bNot c G = .ok (!z, G1) := by unfold bNot; rw [h1]
theorem bAnd_t {c2 : MB} {R : Res (Bool × Env')} (h1 : c G = .ok (true, G1)) (h2 : c2 G1 = R) : bAnd c c2 G = R := by unfold bAnd; rw [h1]; exact h2
theorem bAnd_f {c2 : MB} (h1 : c G = .ok (false, G1)) : bAnd c c2 G = .ok (false, G1) := by unfold bAnd; rw [h1]
theorem bOr_t {c2 : MB} (h1 : c G = .ok (true, G1)) : bOr c c2 G = .ok (true, G1) := by unfold bOr; rw [h1]
theorem bOr_f {c2 : MB} {R : Res (Bool × Env')} (h1 : c G = .ok (false, G1)) (h2 : c2 G1 = R) : bOr c c2 G = R := by unfold bOr; rw [h1]; exact h2
theorem bodyF_rt {io : List AK} {n : Nat} (h : s (startG io ds n) = .rt d G) : bodyF io n s ds = .ok d (outsOf io.length G) := by unfold bodyF; rw [h]
theorem bodyF_nx {io : List AK} {n : Nat} (h : s (startG io ds n) = .nx G) : bodyF io n s ds = .ok .none (outsOf io.length G) := by unfold bodyF; rw [h]
theorem mCallT_ok {F : Fn} {v : PyData} {outs : List PyData} (h1 : m G = .ok (d, G1)) (ho : isObj d = true) (h2 : ma G1 = .ok (ds, G2)) (h3 : F (d :: ds) = .ok v outs) : mCallT F m ma G = .ok (v, G2) := by unfold mCallT; rw [h1]; dsimp only; rw [if_pos ho, h2]; dsimp only; rw [h3]
theorem mCall_ok {F : Fn} {args : List Arg} {v : PyData} {outs : List PyData} (h1 : evArgs args G = .ok (ds, G1)) (h2 : F ds = .ok v outs) (h3 : (!hasVw args || noL v) = true) : mCall F args G = .ok (v, putOuts args outs G1) := by unfold mCall; rw [h1]; dsimp only; rw [h2]; dsimp only; rw [if_pos h3]
theorem evE_ok {r : List Arg} (h1 : m G = .ok (d, G1)) (h2 : evArgs r G1 = .ok (ds, G2)) : evArgs (.e m :: r) G = .ok (d :: ds, G2) := by unfold evArgs; rw [h1]; dsimp only; rw [h2]
end
def S_cell : SM := (sSeq (sIf (bB (mOp2 opLt (mVar 1) (mCallB fLen (aCons (mVar 0) aNil)))) (sRet ((mOp2 opIx (mVar 0) (mVar 1)))) sNext) (sRet ((mC (.int 0)))))
def F_cell : Fn := bodyF [.val, .val] 2 S_cell
def S_pen : SM := (sSeq (sAsg (bind1 1) (mCallB fMax2 (aCons (mVar 0) (aCons (mOp2 opSub (mC (.int 0)) (mVar 0)) aNil)))) (sRet (mLst (aCons (mVar 1) (aCons (mCallB fInt1 (aCons (mOp2 opGe (mVar 1) (mOp2 opPow (mC (.int 10)) (mC (.int 18)))) aNil)) aNil)))))
def F_pen : Fn := bodyF [.val] 2 S_pen
def S_draw : SM := (sSeq (sIf (bB (mOp2 opEq (mOp2 opIx (mView 0) (mC (.int 1))) (mC (.int 1)))) (sSeq (sAsg (bindT [3, 4]) (mCallB fDivmod (aCons (mOp2 opIx (mView 0) (mC (.int 0))) (aCons (mVar 1) aNil)))) (sSeq (sSetL 0 (mVar 3) (mC (.int 0))) (sRet ((mVar 4))))) sNext) (sSeq (sAsg (bind1 2) (mOp2 opMod (mOp2 opMul (mOp2 opAdd (mOp2 opMod (mOp2 opIx (mView 0) (mC (.int 0))) (mC (.int 2147483647))) (mC (.int 40503))) (mC (.int 69621))) (mC (.int 2147483629)))) (sSeq (sAsg (bind1 2) (mOp2 opMod (mOp2 opAdd (mOp2 opMul (mVar 2) (mVar 2)) (mC (.int 7817))) (mC (.int 2147483587)))) (sSeq (sSetL 0 (mOp2 opMod (mOp2 opAdd (mOp2 opMul (mVar 2) (mC (.int 48271))) (mC (.int 11))) (mC (.int 2147483629))) (mC (.int 0))) (sRet ((mOp2 opMod (mOp2 opFdiv (mOp2 opIx (mView 0) (mC (.int 0))) (mC (.int 32))) (mVar 1))))))))
def F_draw : Fn := bodyF [.lent, .val] 5 S_draw
theorem pen_ok (c : Int) : ∃ a b, (b = 0 ∨ b = 1) ∧ 0 ≤ a ∧ F_pen [.int c] = .ok (.list [.int a, .int b]) [.none] := by
  refine ⟨if (0 - c) > c then (0 - c) else c, if decide ((10 : Int) ^ 18 ≤ (if (0 - c) > c then (0 - c) else c)) = true then 1 else 0, ?_, ?_, rfl⟩
  · cases decide ((10 : Int) ^ 18 ≤ (if (0 - c) > c then (0 - c) else c)) with
    | true => exact .inr rfl
    | false => exact .inl rfl
  · by_cases h : (0 - c) > c
    · rw [if_pos h]; omega
    · rw [if_neg h]; omega
theorem mul_some {i j : Int} (h1 : i.natAbs < 2 ^ 40) (h2 : j.natAbs < 2 ^ 40) : opMul (.int i) (.int j) = some (.int (i * j)) := by
  have e : mulOk i j = true := by
    unfold mulOk
    rw [Nat.ble_eq]
    have a1 : i.natAbs.log2 < 41 := by
      by_cases z : i.natAbs = 0
      · rw [z]; decide
      · exact (Nat.log2_lt z).mpr (Nat.lt_of_lt_of_le h1 (by decide))
    have a2 : j.natAbs.log2 < 41 := by
      by_cases z : j.natAbs = 0
      · rw [z]; decide
      · exact (Nat.log2_lt z).mpr (Nat.lt_of_lt_of_le h2 (by decide))
    omega
  show (if mulOk i j = true then some (PyData.int (i * j)) else none) = _
  rw [if_pos e]
theorem draw1 (a n : Int) (hn : 0 < n) (hn2 : n < 1073741824) : F_draw [.list [.int a, .int 1], .int n] = .ok (.int (a % n)) [.list [.int (a / n), .int 1], .none] := by
  have c : fDivmod [.int a, .int n] = some (.tuple [.int (a / n), .int (a % n)]) := by
    show (if (decide (0 < n) && decide (n < 1073741824)) = true then some (PyData.tuple [.int (a / n), .int (a % n)]) else none) = _
    rw [if_pos (by simp [hn, hn2])]
  exact bodyF_rt (G := [.lent (.list [.int (a / n), .int 1]), .val (.int n), .un, .val (.int (a / n)), .val (.int (a % n))]) (sSeq_rt (sIf_t (G1 := [.lent (.list [.int a, .int 1]), .val (.int n), .un, .un, .un]) rfl (sSeq_nx (G1 := [.lent (.list [.int a, .int 1]), .val (.int n), .un, .val (.int (a / n)), .val (.int (a % n))]) (sAsg_ok (mCallB_ok (ds := [.int a, .int n]) (G1 := [.lent (.list [.int a, .int 1]), .val (.int n), .un, .un, .un]) rfl c) rfl) rfl)))
theorem emod_small (x : Int) {k : Int} (h : 0 < k) : 0 ≤ x % k ∧ x % k < k := ⟨Int.emod_nonneg _ (by omega), Int.emod_lt_of_pos _ h⟩
theorem draw0 (a n : Int) (hn : 0 < n) : ∃ v a', 0 ≤ v ∧ v < n ∧ F_draw [.list [.int a, .int 0], .int n] = .ok (.int v) [.list [.int a', .int 0], .none] := by
  obtain ⟨x0, x1⟩ := emod_small a (k := 2147483647) (by decide)
  obtain ⟨y0, y1⟩ := emod_small ((a % 2147483647 + 40503) * 69621) (k := 2147483629) (by decide)
  obtain ⟨z0, z1⟩ := emod_small ((a % 2147483647 + 40503) * 69621 % 2147483629 * ((a % 2147483647 + 40503) * 69621 % 2147483629) + 7817) (k := 2147483587) (by decide)
  have c1 : opMul (.int (a % 2147483647 + 40503)) (.int 69621) = some (.int ((a % 2147483647 + 40503) * 69621)) := mul_some (by omega) (by decide)
  have c2 : opMul (.int ((a % 2147483647 + 40503) * 69621 % 2147483629)) (.int ((a % 2147483647 + 40503) * 69621 % 2147483629)) = some (.int ((a % 2147483647 + 40503) * 69621 % 2147483629 * ((a % 2147483647 + 40503) * 69621 % 2147483629))) := mul_some (by omega) (by omega)
  generalize hy : (a % 2147483647 + 40503) * 69621 % 2147483629 = y at y0 y1 z0 z1 c2
  generalize hz : (y * y + 7817) % 2147483587 = z at z0 z1
  have c3 : opMul (.int z) (.int 48271) = some (.int (z * 48271)) := mul_some (by omega) (by decide)
  obtain ⟨v0, v1⟩ := emod_small ((z * 48271 + 11) % 2147483629 / 32) hn
  have c4 : opMod (.int ((z * 48271 + 11) % 2147483629 / 32)) (.int n) = some (.int ((z * 48271 + 11) % 2147483629 / 32 % n)) := by
    show (if decide (0 < n) = true then some (PyData.int ((z * 48271 + 11) % 2147483629 / 32 % n)) else none) = _
    rw [if_pos (decide_eq_true hn)]
  have e1 : opMod (.int ((a % 2147483647 + 40503) * 69621)) (.int 2147483629) = some (.int y) := by rw [← hy]; rfl
  have e2 : opMod (.int (y * y + 7817)) (.int 2147483587) = some (.int z) := by rw [← hz]; rfl
  have s1 : ∀ G : Env', G = [.lent (.list [.int a, .int 0]), .val (.int n), .val (.int z), .un, .un] → sSetL 0 (mOp2 opMod (mOp2 opAdd (mOp2 opMul (mVar 2) (mC (.int 48271))) (mC (.int 11))) (mC (.int 2147483629))) (mC (.int 0)) G = .nx [.lent (.list [.int ((z * 48271 + 11) % 2147483629), .int 0]), .val (.int n), .val (.int z), .un, .un] := fun G e => by
    have hm : mOp2 opMod (mOp2 opAdd (mOp2 opMul (mVar 2) (mC (.int 48271))) (mC (.int 11))) (mC (.int 2147483629)) G = .ok (.int ((z * 48271 + 11) % 2147483629), G) := by
      subst e
      exact mOp2_ok (mOp2_ok (mOp2_ok rfl rfl c3) rfl rfl) rfl rfl
    unfold sSetL
    rw [hm, e]
    rfl
  refine ⟨(z * 48271 + 11) % 2147483629 / 32 % n, (z * 48271 + 11) % 2147483629, v0, v1, ?_⟩
  exact bodyF_rt (G := [.lent (.list [.int ((z * 48271 + 11) % 2147483629), .int 0]), .val (.int n), .val (.int z), .un, .un]) (sSeq_nx (sIf_f (G1 := [.lent (.list [.int a, .int 0]), .val (.int n), .un, .un, .un]) rfl rfl)
    (sSeq_nx (G1 := [.lent (.list [.int a, .int 0]), .val (.int n), .val (.int y), .un, .un]) (sAsg_ok (mOp2_ok (mOp2_ok (mOp2_ok rfl rfl rfl) rfl c1) rfl e1) rfl) (sSeq_nx (sAsg_ok (mOp2_ok (mOp2_ok (mOp2_ok rfl rfl c2) rfl rfl) rfl e2) rfl) (sSeq_nx (s1 _ rfl) (sRet_ok (mOp2_ok (mOp2_ok rfl rfl rfl) rfl c4))))))
/-- a draw: a number below n; the pen stays a pen -/
theorem draw_ok {a b n : Int} (hb : b = 0 ∨ b = 1) (hn : 0 < n) (hn2 : n < 1073741824) : ∃ v a', 0 ≤ v ∧ v < n ∧ F_draw [.list [.int a, .int b], .int n] = .ok (.int v) [.list [.int a', .int b], .none] := by
  rcases hb with rfl | rfl
  · exact draw0 a n hn
  · exact ⟨a % n, a / n, (emod_small a hn).1, (emod_small a hn).2, draw1 a n hn hn2⟩
/-- a cell of a list of whole numbers: some whole number -/
theorem cell_ok (ns : List Int) (k : Nat) (hk : k < 1000000) : ∃ c : Int, F_cell [.list (ns.map .int), .int (k : Nat)] = .ok (.int c) [.none, .none] := by
  by_cases h : (k : Int) < ((ns.map PyData.int).length : Int)
  · have hk' : k < ns.length := by rw [List.length_map] at h; omega
    have e : opIx (.list (ns.map .int)) (.int (k : Nat)) = some (.int ns[k]) := by
      show atI (ns.map PyData.int) (k : Int) = _
      have e : ixN (ns.map PyData.int).length (k : Int) = some k := by
        unfold ixN
        rw [if_pos (by omega), if_pos (by rw [List.length_map]; omega), Int.toNat_natCast]
      unfold atI
      rw [e]
      show (ns.map PyData.int)[k]? = _
      rw [List.getElem?_map, List.getElem?_eq_getElem hk']
      rfl
    exact ⟨_, bodyF_rt (G := [.val (.list (ns.map .int)), .val (.int (k : Nat))]) (sSeq_rt (sIf_t (G1 := [.val (.list (ns.map .int)), .val (.int (k : Nat))]) (bB_ok (mOp2_ok rfl rfl (show _ = some (PyData.bool true) by show some (PyData.bool (decide ((k : Int) < ((ns.map PyData.int).length : Int)))) = _; rw [decide_eq_true h]))) (sRet_ok (mOp2_ok rfl rfl e))))⟩
  · exact ⟨0, bodyF_rt (G := [.val (.list (ns.map .int)), .val (.int (k : Nat))]) (sSeq_nx (sIf_f (G1 := [.val (.list (ns.map .int)), .val (.int (k : Nat))]) (bB_ok (mOp2_ok rfl rfl (show _ = some (PyData.bool false) by show some (PyData.bool (decide ((k : Int) < ((ns.map PyData.int).length : Int)))) = _; rw [decide_eq_false h]))) rfl) rfl)⟩
end Mo

/-! MoR: the law's end; loops; draws. -/
namespace Mo
open PySem PySem.Spec PyProof.Rows L2
theorem law_sp {g : Gd} {F : Fn} {H : Hp} {a : Addr} {ns : List Int} {outs : List PyData} (hS : SqL g.K H a (ns.map V.int)) (h : F [.list (ns.map .int)] = .ok (.bool true) outs) : spF g [.val] false F [.ref a] H (fun v _ => v = .bl true) (fun _ _ _ => False) := by
  have nl : ∀ b, ¬ LA [AK.val] [V.ref a] b := fun b ⟨i, h1, _⟩ => by
    match i, h1 with
    | 0, h1 => cases h1
    | i + 1, h1 => simp at h1
  have rel : ∀ E, ¬ E a → RelD g E H (.ref a) (.list (ns.map .int)) := fun E n => by
    rcases hS with hS | hS
    · exact .lst n hS (RelDs.ofInts ns)
    · exact .kls hS (RelDs.ofInts ns)
  refine ⟨fun _ => False, [.list (ns.map .int)], ⟨rfl, rfl, fun _ q => q.elim, fun i hi => ?_, fun i hi => ?_, fun i b hi => ?_, fun i j b hi _ _ _ => ?_⟩, ?_⟩
  · match i, hi with
    | 0, _ => exact ⟨_, _, rfl, rfl, rel _ fun q => q.elim id (nl a)⟩
    | i + 1, hi => simp at hi
  · match i, hi with
    | 0, hi => cases hi
    | i + 1, hi => simp at hi
  · match i, hi with
    | 0, hi => cases hi
    | i + 1, hi => simp at hi
  · match i, hi with
    | 0, hi => cases hi
    | i + 1, hi => simp at hi
  · rw [h]
    dsimp only
    rw [if_neg (by simp)]
    intro v H' _ _ r
    exact r.bl_of
/-- a loop whose body goes on as long as I holds -/
theorem forLoop_all {bd : Bd} {body : SM} {I : Env' → Prop} : ∀ (items : List PyData) (G : Env'), (∀ d ∈ items, ∀ G, I G → ∃ G1 G2, bd d G = some G1 ∧ body G1 = .nx G2 ∧ I G2) → I G → ∃ G', forLoop bd body items G = .nx G' ∧ I G'
  | [], G, _, h => ⟨G, rfl, h⟩
  | d :: ds, G, f, h => by
    obtain ⟨G1, G2, h1, h2, h3⟩ := f d List.mem_cons_self G h
    obtain ⟨G', h4, h5⟩ := forLoop_all ds G2 (fun e he => f e (List.mem_cons_of_mem _ he)) h3
    refine ⟨G', ?_, h5⟩
    show (match bd d G with
      | none => SR.bad
      | some G1 => match body G1 with
        | .nx G2 => forLoop bd body ds G2
        | .ct G2 => forLoop bd body ds G2
        | .bk G2 => .nx G2
        | r => r) = _
    rw [h1]
    dsimp only
    rw [h2]
    exact h4
theorem sFor_ok {mi : MI} {bd : Bd} {body : SM} {G G1 : Env'} {items : List PyData} {R : SR} (h1 : mi G = .ok (items, G1)) (h2 : forLoop bd body items G1 = R) : sFor mi bd body G = R := by
  unfold sFor
  rw [h1]
  exact h2
theorem iSeqD_l {m : M} {G G1 : Env'} {ds : List PyData} (h : m G = .ok (.list ds, G1)) : iSeqD m G = .ok (ds, G1) := by unfold iSeqD; rw [h]
theorem iSeqD_t {m : M} {G G1 : Env'} {ds : List PyData} (h : m G = .ok (.tuple ds, G1)) : iSeqD m G = .ok (ds, G1) := by unfold iSeqD; rw [h]
theorem putOuts_nil {args : List Arg} {outs : List PyData} {G : Env'} (h : ios args = []) : putOuts args outs G = G := List.ext_getElem? fun j => putOuts_out (by rw [h]; exact List.not_mem_nil)
/-- a call without objects lent -/
theorem mCallE_ok {F : Fn} {args : List Arg} {v : PyData} {outs ds : List PyData} {G G1 : Env'} (h1 : evArgs args G = .ok (ds, G1)) (h2 : F ds = .ok v outs) (h3 : hasVw args = false := by rfl) (h4 : ios args = [] := by rfl) : mCall F args G = .ok (v, G1) := by
  rw [mCall_ok h1 h2 (by rw [h3]; rfl), putOuts_nil h4]
/-- the answer is True -/
def isT : FR → Bool
  | .ok (.bool true) _ => true
  | _ => false
theorem isT_ok {r : FR} (h : isT r = true) : ∃ outs, r = .ok (.bool true) outs := by
  match r, h with
  | .ok (.bool true) outs, _ => exact ⟨outs, rfl⟩
/-- the answer's list -/
def lstOf : FR → List PyData
  | .ok (.list xs) _ => xs
  | _ => []
def isLs : FR → Bool
  | .ok (.list _) _ => true
  | _ => false
theorem isLs_ok {r : FR} (h : isLs r = true) : ∃ outs, r = .ok (.list (lstOf r)) outs := by
  match r, h with
  | .ok (.list xs) outs, _ => exact ⟨outs, rfl⟩
theorem atI_nn {α : Type} {xs : List α} {i : Int} (h0 : 0 ≤ i) (h1 : i < (xs.length : Int)) : ∃ x, x ∈ xs ∧ atI xs i = some x := by
  have hk : i.toNat < xs.length := by omega
  refine ⟨xs[i.toNat], List.getElem_mem hk, ?_⟩
  unfold atI ixN
  rw [if_pos h0, if_pos h1]
  show xs[i.toNat]? = _
  rw [List.getElem?_eq_getElem hk]
theorem opIx_l {xs : List PyData} {i : Int} (h0 : 0 ≤ i) (h1 : i < (xs.length : Int)) : ∃ x, x ∈ xs ∧ opIx (.list xs) (.int i) = some x := atI_nn h0 h1
theorem opIx_t {xs : List PyData} {i : Int} (h0 : 0 ≤ i) (h1 : i < (xs.length : Int)) : ∃ x, x ∈ xs ∧ opIx (.tuple xs) (.int i) = some x := atI_nn h0 h1
/-- all ints -/
theorem cutL_ints (ns : List Int) (lo hi : Option Int) : cutL (ns.map PyData.int) lo hi = (cutL ns lo hi).map PyData.int := by
  unfold cutL
  rw [List.length_map, List.map_take, List.map_drop]
theorem cutL_len {α : Type} (xs : List α) (lo hi : Option Int) : (cutL xs lo hi).length ≤ xs.length := by
  unfold cutL
  rw [List.length_take, List.length_drop]
  omega
/-! ### the end: whatever the world -/
def CXa (P : Program) : CXT := fun outer H s E u s' => ∃ w, L2.CX P w outer H s E u s'
theorem fn_any {P : Program} {w : World} {K : PySem.W.Frag} {mg : Str → Option Value} {base : Heap} {k : Nat} {f : Addr} {fd : FuncData} {ps : List Str} {sp : Sp} (F : FnOk P w K mg base (L2.CX P w) k f fd ps sp) : FnOk P w K mg base (CXa P) k f fd ps sp :=
  ⟨F.len, fun A outer s H args us vs Q E hr he hb hv hs => codeAny_mono (F.run A outer s H args us vs Q E hr he hb hv hs) fun r s' h => by
    cases r with
    | error e => exact ⟨w, h⟩
    | ok fl => cases fl <;> exact h⟩
theorem cxa_no {P : Program} (H : Hp) (s : Shared) (e : Value) (s' : Shared) (h : CXa P [] H s (fun _ _ _ => False) e s') : False := by
  obtain ⟨w, a, B, H', cls, d, _, _, _, _, _, _, _, z⟩ := h
  exact z
/-! ### data that are the same -/
mutual
def same : PyData → PyData → Bool
  | .none, .none => true
  | .bool a, .bool b => a == b
  | .int a, .int b => a == b
  | .str a, .str b => decide (a = b)
  | .list xs, .list ys => sames xs ys
  | .tuple xs, .tuple ys => sames xs ys
  | _, _ => false
def sames : List PyData → List PyData → Bool
  | [], [] => true
  | x :: xs, y :: ys => same x y && sames xs ys
  | _, _ => false
end
mutual
theorem same_eq : ∀ {a b : PyData}, same a b = true → a = b
  | .none, .none, _ => rfl
  | .bool a, .bool b, h => by rw [eq_of_beq (show (a == b) = true by simpa [same] using h)]
  | .int a, .int b, h => by rw [eq_of_beq (show (a == b) = true by simpa [same] using h)]
  | .str a, .str b, h => by rw [of_decide_eq_true (show decide (a = b) = true by simpa [same] using h)]
  | .list xs, .list ys, h => by rw [sames_eq (show sames xs ys = true by simpa [same] using h)]
  | .tuple xs, .tuple ys, h => by rw [sames_eq (show sames xs ys = true by simpa [same] using h)]
  | .dict _, _, h => by simp [same] at h
  | .none, .bool _, h => by simp [same] at h
  | .none, .int _, h => by simp [same] at h
  | .none, .str _, h => by simp [same] at h
  | .none, .list _, h => by simp [same] at h
  | .none, .tuple _, h => by simp [same] at h
  | .none, .dict _, h => by simp [same] at h
  | .bool _, .none, h => by simp [same] at h
  | .bool _, .int _, h => by simp [same] at h
  | .bool _, .str _, h => by simp [same] at h
  | .bool _, .list _, h => by simp [same] at h
  | .bool _, .tuple _, h => by simp [same] at h
  | .bool _, .dict _, h => by simp [same] at h
  | .int _, .none, h => by simp [same] at h
  | .int _, .bool _, h => by simp [same] at h
  | .int _, .str _, h => by simp [same] at h
  | .int _, .list _, h => by simp [same] at h
  | .int _, .tuple _, h => by simp [same] at h
  | .int _, .dict _, h => by simp [same] at h
  | .str _, .none, h => by simp [same] at h
  | .str _, .bool _, h => by simp [same] at h
  | .str _, .int _, h => by simp [same] at h
  | .str _, .list _, h => by simp [same] at h
  | .str _, .tuple _, h => by simp [same] at h
  | .str _, .dict _, h => by simp [same] at h
  | .list _, .none, h => by simp [same] at h
  | .list _, .bool _, h => by simp [same] at h
  | .list _, .int _, h => by simp [same] at h
  | .list _, .str _, h => by simp [same] at h
  | .list _, .tuple _, h => by simp [same] at h
  | .list _, .dict _, h => by simp [same] at h
  | .tuple _, .none, h => by simp [same] at h
  | .tuple _, .bool _, h => by simp [same] at h
  | .tuple _, .int _, h => by simp [same] at h
  | .tuple _, .str _, h => by simp [same] at h
  | .tuple _, .list _, h => by simp [same] at h
  | .tuple _, .dict _, h => by simp [same] at h
theorem sames_eq : ∀ {a b : List PyData}, sames a b = true → a = b
  | [], [], _ => rfl
  | x :: xs, y :: ys, h => by
    obtain ⟨h1, h2⟩ := ba2 (show (same x y && sames xs ys) = true by simpa [sames] using h)
    rw [same_eq h1, sames_eq h2]
  | [], _ :: _, h => by simp [sames] at h
  | _ :: _, [], h => by simp [sames] at h
end
/-- the answer is d -/
def isD (d : PyData) : FR → Bool
  | .ok e _ => same e d
  | _ => false
theorem isD_ok {d : PyData} {r : FR} (h : isD d r = true) : ∃ outs, r = .ok d outs := by
  match r, h with
  | .ok e outs, h => exact ⟨outs, by rw [same_eq (show same e d = true from h)]⟩
end Mo

namespace Ml
open PySem PySem.Spec PyProof.Rows L2 Mo
def topS (i : Nat) : Stmt := PySem.Challenge.pw_noughtways_k69_lengths_of_pairs.main.body.getD i (.Pass ⟨0, 0, 0, 0⟩)
abbrev s_set_behind : Stmt := topS 1
abbrev s_full_set : Stmt := topS 2
abbrev s_rows_of : Stmt := topS 4
abbrev s_all_marks : Stmt := topS 5
abbrev s_length_of : Stmt := topS 7
abbrev s_pairs_of : Stmt := topS 8
abbrev s_pair_lengths : Stmt := topS 9
abbrev s__law_cell : Stmt := topS 11
abbrev s__law_pen : Stmt := topS 12
abbrev s__law_draw : Stmt := topS 13
abbrev s__law_whole : Stmt := topS 14
abbrev s__law_times : Stmt := topS 15
abbrev s__law_columns : Stmt := topS 16
abbrev s__law_all : Stmt := topS 17
abbrev s__law_length : Stmt := topS 18
abbrev s__law_due : Stmt := topS 19
abbrev s__law_right : Stmt := topS 20
abbrev s__law_by_ways : Stmt := topS 21
abbrev s_law : Stmt := topS 22
/-- what the top of the text says -/
structure Fx (K : PySem.W.Frag) (mg : Str → Option Value) where
  a_set_behind : Addr
  d_set_behind : FuncData
  D_set_behind : FunD K "set_behind" "set_behind" (defArgs s_set_behind) (defBody s_set_behind) (defScope s_set_behind) [] [] a_set_behind d_set_behind
  g_set_behind : mg "set_behind" = some (.ref a_set_behind)
  a_full_set : Addr
  d_full_set : FuncData
  D_full_set : FunD K "full_set" "full_set" (defArgs s_full_set) (defBody s_full_set) (defScope s_full_set) [] [] a_full_set d_full_set
  g_full_set : mg "full_set" = some (.ref a_full_set)
  a_rows_of : Addr
  d_rows_of : FuncData
  D_rows_of : FunD K "rows_of" "rows_of" (defArgs s_rows_of) (defBody s_rows_of) (defScope s_rows_of) [] [] a_rows_of d_rows_of
  g_rows_of : mg "rows_of" = some (.ref a_rows_of)
  a_all_marks : Addr
  d_all_marks : FuncData
  D_all_marks : FunD K "all_marks" "all_marks" (defArgs s_all_marks) (defBody s_all_marks) (defScope s_all_marks) [] [] a_all_marks d_all_marks
  g_all_marks : mg "all_marks" = some (.ref a_all_marks)
  a_length_of : Addr
  d_length_of : FuncData
  D_length_of : FunD K "length_of" "length_of" (defArgs s_length_of) (defBody s_length_of) (defScope s_length_of) [] [] a_length_of d_length_of
  g_length_of : mg "length_of" = some (.ref a_length_of)
  a_pairs_of : Addr
  d_pairs_of : FuncData
  D_pairs_of : FunD K "pairs_of" "pairs_of" (defArgs s_pairs_of) (defBody s_pairs_of) (defScope s_pairs_of) [] [] a_pairs_of d_pairs_of
  g_pairs_of : mg "pairs_of" = some (.ref a_pairs_of)
  a_pair_lengths : Addr
  d_pair_lengths : FuncData
  D_pair_lengths : FunD K "pair_lengths" "pair_lengths" (defArgs s_pair_lengths) (defBody s_pair_lengths) (defScope s_pair_lengths) [] [] a_pair_lengths d_pair_lengths
  g_pair_lengths : mg "pair_lengths" = some (.ref a_pair_lengths)
  a__law_cell : Addr
  d__law_cell : FuncData
  D__law_cell : FunD K "_law_cell" "_law_cell" (defArgs s__law_cell) (defBody s__law_cell) (defScope s__law_cell) [] [] a__law_cell d__law_cell
  g__law_cell : mg "_law_cell" = some (.ref a__law_cell)
  a__law_pen : Addr
  d__law_pen : FuncData
  D__law_pen : FunD K "_law_pen" "_law_pen" (defArgs s__law_pen) (defBody s__law_pen) (defScope s__law_pen) [] [] a__law_pen d__law_pen
  g__law_pen : mg "_law_pen" = some (.ref a__law_pen)
  a__law_draw : Addr
  d__law_draw : FuncData
  D__law_draw : FunD K "_law_draw" "_law_draw" (defArgs s__law_draw) (defBody s__law_draw) (defScope s__law_draw) [] [] a__law_draw d__law_draw
  g__law_draw : mg "_law_draw" = some (.ref a__law_draw)
  a__law_whole : Addr
  d__law_whole : FuncData
  D__law_whole : FunD K "_law_whole" "_law_whole" (defArgs s__law_whole) (defBody s__law_whole) (defScope s__law_whole) [] [] a__law_whole d__law_whole
  g__law_whole : mg "_law_whole" = some (.ref a__law_whole)
  a__law_times : Addr
  d__law_times : FuncData
  D__law_times : FunD K "_law_times" "_law_times" (defArgs s__law_times) (defBody s__law_times) (defScope s__law_times) [] [] a__law_times d__law_times
  g__law_times : mg "_law_times" = some (.ref a__law_times)
  a__law_columns : Addr
  d__law_columns : FuncData
  D__law_columns : FunD K "_law_columns" "_law_columns" (defArgs s__law_columns) (defBody s__law_columns) (defScope s__law_columns) [] [] a__law_columns d__law_columns
  g__law_columns : mg "_law_columns" = some (.ref a__law_columns)
  a__law_all : Addr
  d__law_all : FuncData
  D__law_all : FunD K "_law_all" "_law_all" (defArgs s__law_all) (defBody s__law_all) (defScope s__law_all) [] [] a__law_all d__law_all
  g__law_all : mg "_law_all" = some (.ref a__law_all)
  a__law_length : Addr
  d__law_length : FuncData
  D__law_length : FunD K "_law_length" "_law_length" (defArgs s__law_length) (defBody s__law_length) (defScope s__law_length) [] [] a__law_length d__law_length
  g__law_length : mg "_law_length" = some (.ref a__law_length)
  a__law_due : Addr
  d__law_due : FuncData
  D__law_due : FunD K "_law_due" "_law_due" (defArgs s__law_due) (defBody s__law_due) (defScope s__law_due) [] [] a__law_due d__law_due
  g__law_due : mg "_law_due" = some (.ref a__law_due)
  a__law_right : Addr
  d__law_right : FuncData
  D__law_right : FunD K "_law_right" "_law_right" (defArgs s__law_right) (defBody s__law_right) (defScope s__law_right) [] [] a__law_right d__law_right
  g__law_right : mg "_law_right" = some (.ref a__law_right)
  a__law_by_ways : Addr
  d__law_by_ways : FuncData
  D__law_by_ways : FunD K "_law_by_ways" "_law_by_ways" (defArgs s__law_by_ways) (defBody s__law_by_ways) (defScope s__law_by_ways) [] [] a__law_by_ways d__law_by_ways
  g__law_by_ways : mg "_law_by_ways" = some (.ref a__law_by_ways)
  a_law : Addr
  d_law : FuncData
  D_law : FunD K "law" "law" (defArgs s_law) (defBody s_law) (defScope s_law) [] [] a_law d_law
  g_law : mg "law" = some (.ref a_law)
  n_all : mg "all" = none
  n_any : mg "any" = none
  n_bool : mg "bool" = none
  n_divmod : mg "divmod" = none
  n_enumerate : mg "enumerate" = none
  n_int : mg "int" = none
  n_isinstance : mg "isinstance" = none
  n_len : mg "len" = none
  n_list : mg "list" = none
  n_max : mg "max" = none
  n_range : mg "range" = none
  n_set : mg "set" = none
  n_sorted : mg "sorted" = none
  n_sum : mg "sum" = none
  n_tuple : mg "tuple" = none
variable {P : Program} {w : World} {K : PySem.W.Frag} {mg : Str → Option Value} {base : Heap}
/-! set_behind -/
theorem sc_set_behind : FnScope ["table", "places", "other", "place"] ["table", "places"] (defScope s_set_behind) := ⟨rfl, rfl, rfl, by decide +kernel, rfl, by decide +kernel, by decide +kernel⟩
theorem b_set_behind (T : Fx K mg) : Binds K T.d_set_behind ["table", "places"] [] := T.D_set_behind.bindsN fun _ _ _ _ _ _ us hl => match us, hl with | [_, _], _ => rfl
def S_set_behind : SM := (sRet ((mCallB fTuple (aCons (mLc [2] (iRange1 (aCons (mCallB fLen (aCons (mVar 0) aNil)) aNil)) (bind1 2) (bB (mCallB fAny (aCons (mLc [3] (iSeqD (mVar 1)) (bind1 3) bYes (mOp2 opGt (mOp2 opIx (mOp2 opIx (mVar 0) (mVar 3)) (mVar 2)) (mC (.int 0)))) aNil))) (mVar 2)) aNil))))
def F_set_behind : Fn := bodyF [.val, .val] 4 S_set_behind
theorem ok_set_behind (T : Fx K mg) : FnOk P w K mg base (L2.CX P w) 1 T.a_set_behind T.d_set_behind ["table", "places"] (spF ⟨P, w, K, mg⟩ [.val, .val] false F_set_behind) :=
  fn_body T.D_set_behind sc_set_behind rfl (by decide) fun cdv A outer s0 H E hr => by
    have U := hr.units
    have U5 := room65 hr
    exact (iss_one (is_ret (ie_callTy fTuple_ok (by rfl) T.n_tuple (by decide +kernel) (ia_cons (ie_F (if_lc rfl sc_set_behind.nd (blkOk_by (own := [("other", 2)]) (by kernel_rfl)) (bdOk1 2) (ii_range1 (by rfl) T.n_range (ia_cons (ie_callB fLen_ok (by rfl) T.n_len (by decide +kernel) (ia_cons (ie_var (i := 0)) ia_nil)) ia_nil)) (fun _ _ _ _ _ => (ig_name sc_set_behind.nd (j := 2))) (fun _ _ _ _ _ => (its_one (it_val (ie_callB (fAny_ok rfl) (by rfl) T.n_any (by decide +kernel) (ia_cons (ie_F (if_lc rfl sc_set_behind.nd (blkOk_by (own := [("place", 3)]) (by kernel_rfl)) (bdOk1 3) (ii_seq (ie_var (i := 1))) (fun _ _ _ _ _ => (ig_name sc_set_behind.nd (j := 3))) (fun _ _ _ _ _ => its_nil) (fun _ _ _ _ _ => (ie_cmp (opGt_ok) (ie_ix opIx_ok (ie_ix opIx_ok (ie_var (i := 0)) (ie_var (i := 3))) (ie_var (i := 2))) ie_int rfl)))) ia_nil))))) (fun _ _ _ _ _ => (ie_var (i := 2))))) ia_nil))))
/-! full_set -/
theorem sc_full_set : FnScope ["tables"] ["tables"] (defScope s_full_set) := ⟨rfl, rfl, rfl, by decide +kernel, rfl, by decide +kernel, by decide +kernel⟩
theorem b_full_set (T : Fx K mg) : Binds K T.d_full_set ["tables"] [] := T.D_full_set.bindsN fun _ _ _ _ _ _ us hl => match us, hl with | [_], _ => rfl
def S_full_set : SM := (sRet ((mRg1 .tuple (mCallB fLen (aCons (mOp2 opIx (mVar 0) (mC (.int 0))) aNil)))))
def F_full_set : Fn := bodyF [.val] 1 S_full_set
theorem ok_full_set (T : Fx K mg) : FnOk P w K mg base (L2.CX P w) 1 T.a_full_set T.d_full_set ["tables"] (spF ⟨P, w, K, mg⟩ [.val] false F_full_set) :=
  fn_body T.D_full_set sc_full_set rfl (by decide) fun cdv A outer s0 H E hr => by
    have U := hr.units
    have U5 := room65 hr
    exact (iss_one (is_ret (ie_tupRg rfl (ie_callB fLen_ok (by rfl) T.n_len (by decide +kernel) (ia_cons (ie_ix opIx_ok (ie_var (i := 0)) ie_int) ia_nil)) (by rfl) T.n_tuple (by rfl) T.n_range)))
/-! rows_of -/
theorem sc_rows_of : FnScope ["size", "found", "turn", "row"] ["size"] (defScope s_rows_of) := ⟨rfl, rfl, rfl, by decide +kernel, rfl, by decide +kernel, by decide +kernel⟩
theorem b_rows_of (T : Fx K mg) : Binds K T.d_rows_of ["size"] [] := T.D_rows_of.bindsN fun _ _ _ _ _ _ us hl => match us, hl with | [_], _ => rfl
def S_rows_of : SM := (sSeq (sAsg (bind1 1) (mLst (aCons (mTup aNil) aNil))) (sSeq (sFor (iRange1 (aCons (mVar 0) aNil)) (bind1 2) (sAsg (bind1 1) (mOp2 opAdd (mLc [3] (iSeqD (mVar 1)) (bind1 3) bYes (mOp2 opAdd (mVar 3) (mTup (aCons (mC (.int 0)) aNil)))) (mLc [3] (iSeqD (mVar 1)) (bind1 3) bYes (mOp2 opAdd (mVar 3) (mTup (aCons (mC (.int 1)) aNil))))))) (sRet ((mCallB fSorted (aCons (mVar 1) aNil))))))
def F_rows_of : Fn := bodyF [.val] 4 S_rows_of
theorem ok_rows_of (T : Fx K mg) : FnOk P w K mg base (L2.CX P w) 1 T.a_rows_of T.d_rows_of ["size"] (spF ⟨P, w, K, mg⟩ [.val] false F_rows_of) :=
  fn_body T.D_rows_of sc_rows_of rfl (by decide) fun cdv A outer s0 H E hr => by
    have U := hr.units
    have U5 := room65 hr
    exact (iss_cons (is_set sc_rows_of.nd (ie_F (if_lst (ia_cons (ie_tup ia_nil) ia_nil))) (i := 1))
      (iss_cons (is_for (passes_of rfl) rfl (ii_range1 (by rfl) T.n_range (ia_cons (ie_var (i := 0)) ia_nil)) (ig_name sc_rows_of.nd (j := 2)) (iss_one (is_set sc_rows_of.nd (ie_op opAdd_ok (ie_F (if_lc rfl sc_rows_of.nd (blkOk_by (own := [("row", 3)]) (by kernel_rfl)) (bdOk1 3) (ii_seq (ie_var (i := 1))) (fun _ _ _ _ _ => (ig_name sc_rows_of.nd (j := 3))) (fun _ _ _ _ _ => its_nil) (fun _ _ _ _ _ => (ie_op opAdd_ok (ie_var (i := 3)) (ie_tup (ia_cons ie_int ia_nil)))))) (ie_F (if_lc rfl sc_rows_of.nd (blkOk_by (own := [("row", 3)]) (by kernel_rfl)) (bdOk1 3) (ii_seq (ie_var (i := 1))) (fun _ _ _ _ _ => (ig_name sc_rows_of.nd (j := 3))) (fun _ _ _ _ _ => its_nil) (fun _ _ _ _ _ => (ie_op opAdd_ok (ie_var (i := 3)) (ie_tup (ia_cons ie_int ia_nil))))))) (i := 1))))
      (iss_one (is_ret (ie_F (if_callB (fSorted_ok U) (by rfl) T.n_sorted (by decide +kernel) (ia_cons (ie_var (i := 1)) ia_nil)))))))
/-! all_marks -/
theorem sc_all_marks : FnScope ["size", "found", "turn", "more", "rows", "row"] ["size"] (defScope s_all_marks) := ⟨rfl, rfl, rfl, by decide +kernel, rfl, by decide +kernel, by decide +kernel⟩
theorem b_all_marks (T : Fx K mg) : Binds K T.d_all_marks ["size"] [] := T.D_all_marks.bindsN fun _ _ _ _ _ _ us hl => match us, hl with | [_], _ => rfl
def S_all_marks : SM := (sSeq (sAsg (bind1 1) (mLst (aCons (mTup aNil) aNil))) (sSeq (sFor (iRange1 (aCons (mVar 0) aNil)) (bind1 2) (sSeq (sAsg (bind1 3) (mLst aNil)) (sSeq (sFor (iSeqD (mVar 1)) (bind1 4) (sAsg (bind1 3) (mOp2 opAdd (mVar 3) (mLc [5] (iSeqD (mCall F_rows_of [.e (mVar 0)])) (bind1 5) bYes (mOp2 opAdd (mVar 4) (mTup (aCons (mVar 5) aNil))))))) (sAsg (bind1 1) (mVar 3))))) (sRet ((mVar 1)))))
def F_all_marks : Fn := bodyF [.val] 6 S_all_marks
theorem ok_all_marks (T : Fx K mg) : FnOk P w K mg base (L2.CX P w) 2 T.a_all_marks T.d_all_marks ["size"] (spF ⟨P, w, K, mg⟩ [.val] false F_all_marks) :=
  fn_body T.D_all_marks sc_all_marks rfl (by decide) fun cdv A outer s0 H E hr => by
    have U := hr.units
    have U5 := room65 hr
    exact (iss_cons (is_set sc_all_marks.nd (ie_F (if_lst (ia_cons (ie_tup ia_nil) ia_nil))) (i := 1))
      (iss_cons (is_for (passes_of rfl) rfl (ii_range1 (by rfl) T.n_range (ia_cons (ie_var (i := 0)) ia_nil)) (ig_name sc_all_marks.nd (j := 2)) (iss_cons (is_set sc_all_marks.nd (ie_F (if_lst ia_nil)) (i := 3))
      (iss_cons (is_for (passes_of rfl) rfl (ii_seq (ie_var (i := 1))) (ig_name sc_all_marks.nd (j := 4)) (iss_one (is_set sc_all_marks.nd (ie_op opAdd_ok (ie_var (i := 3)) (ie_F (if_lc rfl sc_all_marks.nd (blkOk_by (own := [("row", 5)]) (by kernel_rfl)) (bdOk1 5) (ii_seq (ie_call (takes_of rfl rfl rfl rfl) (ok_rows_of T) (hr.mono (by decide)) (by rfl) T.g_rows_of T.D_rows_of.kp (b_rows_of T) (io_e (ie_var (i := 0)) io_nil))) (fun _ _ _ _ _ => (ig_name sc_all_marks.nd (j := 5))) (fun _ _ _ _ _ => its_nil) (fun _ _ _ _ _ => (ie_op opAdd_ok (ie_var (i := 4)) (ie_tup (ia_cons (ie_var (i := 5)) ia_nil))))))) (i := 3))))
      (iss_one (is_set sc_all_marks.nd (ie_var (i := 3)) (i := 1))))))
      (iss_one (is_ret (ie_var (i := 1))))))
/-! length_of -/
theorem sc_length_of : FnScope ["tables", "seen", "here", "length", "more", "places", "table", "there"] ["tables"] (defScope s_length_of) := ⟨rfl, rfl, rfl, by decide +kernel, rfl, by decide +kernel, by decide +kernel⟩
theorem b_length_of (T : Fx K mg) : Binds K T.d_length_of ["tables"] [] := T.D_length_of.bindsN fun _ _ _ _ _ _ us hl => match us, hl with | [_], _ => rfl
def S_length_of : SM := (sSeq (sAsgO 1 (mLst (aCons (mCall F_full_set [.e (mVar 0)]) aNil))) (sSeq (sAsg (bind1 2) (mCallB fList (aCons (mView 1) aNil))) (sSeq (sAsg (bind1 3) (mC (.int 0))) (sSeq (sWhile 200 (bB (mOp2 opNe (mVar 2) (mLst aNil))) (sSeq (sIf (bB (mOp2 opIn (mTup aNil) (mVar 2))) (sRet ((mVar 3))) sNext) (sSeq (sAsgO 4 (mLst aNil)) (sSeq (sFor (iSeqD (mVar 2)) (bind1 5) (sFor (iSeqD (mVar 0)) (bind1 6) (sSeq (sAsg (bind1 7) (mCall F_set_behind [.e (mVar 6), .e (mVar 5)])) (sIf (bB (mOp2 opNotIn (mVar 7) (mView 1))) (sSeq (sApp 1 (mVar 7)) (sApp 4 (mVar 7))) sNext)))) (sSeq (sAsg (bind1 2) (mFrz 4)) (sAsg (bind1 3) (mOp2 opAdd (mVar 3) (mC (.int 1))))))))) (sRet ((mC .none)))))))
def F_length_of : Fn := bodyF [.val] 8 S_length_of
theorem ok_length_of (T : Fx K mg) : FnOk P w K mg base (L2.CX P w) 2 T.a_length_of T.d_length_of ["tables"] (spF ⟨P, w, K, mg⟩ [.val] false F_length_of) :=
  fn_body T.D_length_of sc_length_of rfl (by decide) fun cdv A outer s0 H E hr => by
    have U := hr.units
    have U5 := room65 hr
    exact (iss_cons (is_setO sc_length_of.nd (if_lst (ia_cons (ie_call (takes_of rfl rfl rfl rfl) (ok_full_set T) (hr.mono (by decide)) (by rfl) T.g_full_set T.D_full_set.kp (b_full_set T) (io_e (ie_var (i := 0)) io_nil)) ia_nil)) (i := 1))
      (iss_cons (is_set sc_length_of.nd (ie_F (if_callTy fList_ok (by rfl) T.n_list (by decide +kernel) (ia_cons (ie_view (i := 1)) ia_nil))) (i := 2))
      (iss_cons (is_set sc_length_of.nd ie_int (i := 3))
      (iss_cons (is_while 200 (passes_of rfl) (it_cmp (opNe_ok U) (ie_var (i := 2)) (ie_F (if_lst ia_nil)) rfl) (iss_cons (is_if (it_cmp (opIn_ok U5) (ie_tup ia_nil) (ie_var (i := 2)) rfl) (iss_one (is_ret (ie_var (i := 3)))) iss_nil)
      (iss_cons (is_setO sc_length_of.nd (if_lst ia_nil) (i := 4))
      (iss_cons (is_for (passes_of rfl) rfl (ii_seq (ie_var (i := 2))) (ig_name sc_length_of.nd (j := 5)) (iss_one (is_for (passes_of rfl) rfl (ii_seq (ie_var (i := 0))) (ig_name sc_length_of.nd (j := 6)) (iss_cons (is_set sc_length_of.nd (ie_call (takes_of rfl rfl rfl rfl) (ok_set_behind T) (hr.mono (by decide)) (by rfl) T.g_set_behind T.D_set_behind.kp (b_set_behind T) (io_e (ie_var (i := 6)) (io_e (ie_var (i := 5)) io_nil))) (i := 7))
      (iss_one (is_if (it_cmp (opNotIn_ok U5) (ie_var (i := 7)) (ie_view (i := 1)) rfl) (iss_cons (is_app (i := 1) (ie_var (i := 7)))
      (iss_one (is_app (i := 4) (ie_var (i := 7))))) iss_nil))))))
      (iss_cons (is_set sc_length_of.nd (ie_frz (i := 4)) (i := 2))
      (iss_one (is_set sc_length_of.nd (ie_op opAdd_ok (ie_var (i := 3)) ie_int) (i := 3))))))))
      (iss_one (is_ret ie_non))))))
/-! pairs_of -/
theorem sc_pairs_of : FnScope ["marks", "found", "at", "one", "other"] ["marks"] (defScope s_pairs_of) := ⟨rfl, rfl, rfl, by decide +kernel, rfl, by decide +kernel, by decide +kernel⟩
theorem b_pairs_of (T : Fx K mg) : Binds K T.d_pairs_of ["marks"] [] := T.D_pairs_of.bindsN fun _ _ _ _ _ _ us hl => match us, hl with | [_], _ => rfl
def S_pairs_of : SM := (sSeq (sAsg (bind1 1) (mLst aNil)) (sSeq (sFor (iEnumD (aCons (mVar 0) aNil)) (bindT [2, 3]) (sAsg (bind1 1) (mOp2 opAdd (mVar 1) (mLc [4] (iSeqD (mSl (mVar 0) (pSome (mOp2 opAdd (mVar 2) (mC (.int 1)))) pNo)) (bind1 4) bYes (mTup (aCons (mVar 3) (aCons (mVar 4) aNil))))))) (sRet ((mVar 1)))))
def F_pairs_of : Fn := bodyF [.val] 5 S_pairs_of
theorem ok_pairs_of (T : Fx K mg) : FnOk P w K mg base (L2.CX P w) 1 T.a_pairs_of T.d_pairs_of ["marks"] (spF ⟨P, w, K, mg⟩ [.val] false F_pairs_of) :=
  fn_body T.D_pairs_of sc_pairs_of rfl (by decide) fun cdv A outer s0 H E hr => by
    have U := hr.units
    have U5 := room65 hr
    exact (iss_cons (is_set sc_pairs_of.nd (ie_F (if_lst ia_nil)) (i := 1))
      (iss_cons (is_for (passes_of rfl) rfl (ii_enum (by rfl) T.n_enumerate (ia_cons (ie_var (i := 0)) ia_nil)) (ig_tup rfl (pns_cons (pn_name sc_pairs_of.nd (j := 2)) (pns_cons (pn_name sc_pairs_of.nd (j := 3)) pns_nil))) (iss_one (is_set sc_pairs_of.nd (ie_op opAdd_ok (ie_var (i := 1)) (ie_F (if_lc rfl sc_pairs_of.nd (blkOk_by (own := [("other", 4)]) (by kernel_rfl)) (bdOk1 4) (ii_seq (ie_F (if_sl (ie_var (i := 0)) (ip_some (ie_op opAdd_ok (ie_var (i := 2)) ie_int)) ip_no))) (fun _ _ _ _ _ => (ig_name sc_pairs_of.nd (j := 4))) (fun _ _ _ _ _ => its_nil) (fun _ _ _ _ _ => (ie_tup (ia_cons (ie_var (i := 3)) (ia_cons (ie_var (i := 4)) ia_nil))))))) (i := 1))))
      (iss_one (is_ret (ie_var (i := 1))))))
/-! pair_lengths -/
theorem sc_pair_lengths : FnScope ["size", "one", "other"] ["size"] (defScope s_pair_lengths) := ⟨rfl, rfl, rfl, by decide +kernel, rfl, by decide +kernel, by decide +kernel⟩
theorem b_pair_lengths (T : Fx K mg) : Binds K T.d_pair_lengths ["size"] [] := T.D_pair_lengths.bindsN fun _ _ _ _ _ _ us hl => match us, hl with | [_], _ => rfl
def S_pair_lengths : SM := (sRet (mLc [1, 2] (iSeqD (mCall F_pairs_of [.e (mCall F_all_marks [.e (mVar 0)])])) (bindT [1, 2]) bYes (mTup (aCons (mVar 1) (aCons (mVar 2) (aCons (mCall F_length_of [.e (mLst (aCons (mVar 1) (aCons (mVar 2) aNil)))]) aNil))))))
def F_pair_lengths : Fn := bodyF [.val] 3 S_pair_lengths
theorem ok_pair_lengths (T : Fx K mg) : FnOk P w K mg base (L2.CX P w) 3 T.a_pair_lengths T.d_pair_lengths ["size"] (spF ⟨P, w, K, mg⟩ [.val] true F_pair_lengths) :=
  fn_body T.D_pair_lengths sc_pair_lengths rfl (by decide) fun cdv A outer s0 H E hr => by
    have U := hr.units
    have U5 := room65 hr
    exact (iss_one (is_retF (if_lc rfl sc_pair_lengths.nd (blkOk_by (own := [("one", 1), ("other", 2)]) (by kernel_rfl)) (bdOkT [1, 2]) (ii_seq (ie_call (takes_of rfl rfl rfl rfl) (ok_pairs_of T) (hr.mono (by decide)) (by rfl) T.g_pairs_of T.D_pairs_of.kp (b_pairs_of T) (io_e (ie_call (takes_of rfl rfl rfl rfl) (ok_all_marks T) (hr.mono (by decide)) (by rfl) T.g_all_marks T.D_all_marks.kp (b_all_marks T) (io_e (ie_var (i := 0)) io_nil)) io_nil))) (fun _ _ _ _ _ => (ig_tup rfl (pns_cons (pn_name sc_pair_lengths.nd (j := 1)) (pns_cons (pn_name sc_pair_lengths.nd (j := 2)) pns_nil)))) (fun _ _ _ _ _ => its_nil) (fun _ _ _ _ _ => (ie_tup (ia_cons (ie_var (i := 1)) (ia_cons (ie_var (i := 2)) (ia_cons (ie_call takes0 (ok_length_of T) (hr.mono (by decide)) (by rfl) T.g_length_of T.D_length_of.kp (b_length_of T) (io_e (ie_F (if_lst (ia_cons (ie_var (i := 1)) (ia_cons (ie_var (i := 2)) ia_nil)))) io_nil)) ia_nil))))))))
/-! _law_cell -/
theorem sc__law_cell : FnScope ["_law_script", "_law_k"] ["_law_script", "_law_k"] (defScope s__law_cell) := ⟨rfl, rfl, rfl, by decide +kernel, rfl, by decide +kernel, by decide +kernel⟩
theorem b__law_cell (T : Fx K mg) : Binds K T.d__law_cell ["_law_script", "_law_k"] [] := T.D__law_cell.bindsN fun _ _ _ _ _ _ us hl => match us, hl with | [_, _], _ => rfl
def S__law_cell : SM := (sSeq (sIf (bB (mOp2 opLt (mVar 1) (mCallB fLen (aCons (mVar 0) aNil)))) (sRet ((mOp2 opIx (mVar 0) (mVar 1)))) sNext) (sRet ((mC (.int 0)))))
def F__law_cell : Fn := bodyF [.val, .val] 2 S__law_cell
theorem ok__law_cell (T : Fx K mg) : FnOk P w K mg base (L2.CX P w) 1 T.a__law_cell T.d__law_cell ["_law_script", "_law_k"] (spF ⟨P, w, K, mg⟩ [.val, .val] false F__law_cell) :=
  fn_body T.D__law_cell sc__law_cell rfl (by decide) fun cdv A outer s0 H E hr => by
    have U := hr.units
    have U5 := room65 hr
    exact (iss_cons (is_if (it_cmp (opLt_ok) (ie_var (i := 1)) (ie_callB fLen_ok (by rfl) T.n_len (by decide +kernel) (ia_cons (ie_var (i := 0)) ia_nil)) rfl) (iss_one (is_ret (ie_ix opIx_ok (ie_var (i := 0)) (ie_var (i := 1))))) iss_nil)
      (iss_one (is_ret ie_int)))
/-! _law_pen -/
theorem sc__law_pen : FnScope ["_law_cell_here", "_law_left"] ["_law_cell_here"] (defScope s__law_pen) := ⟨rfl, rfl, rfl, by decide +kernel, rfl, by decide +kernel, by decide +kernel⟩
theorem b__law_pen (T : Fx K mg) : Binds K T.d__law_pen ["_law_cell_here"] [] := T.D__law_pen.bindsN fun _ _ _ _ _ _ us hl => match us, hl with | [_], _ => rfl
def S__law_pen : SM := (sSeq (sAsg (bind1 1) (mCallB fMax2 (aCons (mVar 0) (aCons (mOp2 opSub (mC (.int 0)) (mVar 0)) aNil)))) (sRet (mLst (aCons (mVar 1) (aCons (mCallB fInt1 (aCons (mOp2 opGe (mVar 1) (mOp2 opPow (mC (.int 10)) (mC (.int 18)))) aNil)) aNil)))))
def F__law_pen : Fn := bodyF [.val] 2 S__law_pen
theorem ok__law_pen (T : Fx K mg) : FnOk P w K mg base (L2.CX P w) 1 T.a__law_pen T.d__law_pen ["_law_cell_here"] (spF ⟨P, w, K, mg⟩ [.val] true F__law_pen) :=
  fn_body T.D__law_pen sc__law_pen rfl (by decide) fun cdv A outer s0 H E hr => by
    have U := hr.units
    have U5 := room65 hr
    exact (iss_cons (is_set sc__law_pen.nd (ie_callB (fMax2_ok rfl) (by rfl) T.n_max (by decide +kernel) (ia_cons (ie_var (i := 0)) (ia_cons (ie_op opSub_ok ie_int (ie_var (i := 0))) ia_nil))) (i := 1))
      (iss_one (is_retF (if_lst (ia_cons (ie_var (i := 1)) (ia_cons (ie_callTy fInt1_ok (by rfl) T.n_int (by decide +kernel) (ia_cons (ie_cmp (opGe_ok) (ie_var (i := 1)) (ie_op opPow_ok ie_int ie_int) rfl) ia_nil)) ia_nil))))))
/-! _law_draw -/
theorem sc__law_draw : FnScope ["_law_pen_here", "_law_many", "_law_stir", "_law_left", "_law_found"] ["_law_pen_here", "_law_many"] (defScope s__law_draw) := ⟨rfl, rfl, rfl, by decide +kernel, rfl, by decide +kernel, by decide +kernel⟩
theorem b__law_draw (T : Fx K mg) : Binds K T.d__law_draw ["_law_pen_here", "_law_many"] [] := T.D__law_draw.bindsN fun _ _ _ _ _ _ us hl => match us, hl with | [_, _], _ => rfl
def S__law_draw : SM := (sSeq (sIf (bB (mOp2 opEq (mOp2 opIx (mView 0) (mC (.int 1))) (mC (.int 1)))) (sSeq (sAsg (bindT [3, 4]) (mCallB fDivmod (aCons (mOp2 opIx (mView 0) (mC (.int 0))) (aCons (mVar 1) aNil)))) (sSeq (sSetL 0 (mVar 3) (mC (.int 0))) (sRet ((mVar 4))))) sNext) (sSeq (sAsg (bind1 2) (mOp2 opMod (mOp2 opMul (mOp2 opAdd (mOp2 opMod (mOp2 opIx (mView 0) (mC (.int 0))) (mC (.int 2147483647))) (mC (.int 40503))) (mC (.int 69621))) (mC (.int 2147483629)))) (sSeq (sAsg (bind1 2) (mOp2 opMod (mOp2 opAdd (mOp2 opMul (mVar 2) (mVar 2)) (mC (.int 7817))) (mC (.int 2147483587)))) (sSeq (sSetL 0 (mOp2 opMod (mOp2 opAdd (mOp2 opMul (mVar 2) (mC (.int 48271))) (mC (.int 11))) (mC (.int 2147483629))) (mC (.int 0))) (sRet ((mOp2 opMod (mOp2 opFdiv (mOp2 opIx (mView 0) (mC (.int 0))) (mC (.int 32))) (mVar 1))))))))
def F__law_draw : Fn := bodyF [.lent, .val] 5 S__law_draw
theorem ok__law_draw (T : Fx K mg) : FnOk P w K mg base (L2.CX P w) 1 T.a__law_draw T.d__law_draw ["_law_pen_here", "_law_many"] (spF ⟨P, w, K, mg⟩ [.lent, .val] false F__law_draw) :=
  fn_body T.D__law_draw sc__law_draw rfl (by decide) fun cdv A outer s0 H E hr => by
    have U := hr.units
    have U5 := room65 hr
    exact (iss_cons (is_if (it_cmp (opEq_ok U) (ie_ix opIx_ok (ie_view (i := 0)) ie_int) ie_int rfl) (iss_cons (is_asg (ie_callB fDivmod_ok (by rfl) T.n_divmod (by decide +kernel) (ia_cons (ie_ix opIx_ok (ie_view (i := 0)) ie_int) (ia_cons (ie_var (i := 1)) ia_nil))) (ig_tup rfl (pns_cons (pn_name sc__law_draw.nd (j := 3)) (pns_cons (pn_name sc__law_draw.nd (j := 4)) pns_nil))))
      (iss_cons (is_setL (i := 0) (ie_var (i := 3)) ie_int)
      (iss_one (is_ret (ie_var (i := 4)))))) iss_nil)
      (iss_cons (is_set sc__law_draw.nd (ie_op opMod_ok (ie_op opMul_ok (ie_op opAdd_ok (ie_op opMod_ok (ie_ix opIx_ok (ie_view (i := 0)) ie_int) ie_int) ie_int) ie_int) ie_int) (i := 2))
      (iss_cons (is_set sc__law_draw.nd (ie_op opMod_ok (ie_op opAdd_ok (ie_op opMul_ok (ie_var (i := 2)) (ie_var (i := 2))) ie_int) ie_int) (i := 2))
      (iss_cons (is_setL (i := 0) (ie_op opMod_ok (ie_op opAdd_ok (ie_op opMul_ok (ie_var (i := 2)) ie_int) ie_int) ie_int) ie_int)
      (iss_one (is_ret (ie_op opMod_ok (ie_op opFdiv_ok (ie_ix opIx_ok (ie_view (i := 0)) ie_int) ie_int) (ie_var (i := 1)))))))))
/-! _law_whole -/
theorem sc__law_whole : FnScope ["_law_thing"] ["_law_thing"] (defScope s__law_whole) := ⟨rfl, rfl, rfl, by decide +kernel, rfl, by decide +kernel, by decide +kernel⟩
theorem b__law_whole (T : Fx K mg) : Binds K T.d__law_whole ["_law_thing"] [] := T.D__law_whole.bindsN fun _ _ _ _ _ _ us hl => match us, hl with | [_], _ => rfl
def S__law_whole : SM := (sRet ((mB (bAnd (bB (mOp1 (fIsi .int) (mVar 0))) (bB (mB (bNot (bB (mOp1 (fIsi .bool) (mVar 0))))))))))
def F__law_whole : Fn := bodyF [.val] 1 S__law_whole
theorem ok__law_whole (T : Fx K mg) : FnOk P w K mg base (L2.CX P w) 1 T.a__law_whole T.d__law_whole ["_law_thing"] (spF ⟨P, w, K, mg⟩ [.val] false F__law_whole) :=
  fn_body T.D__law_whole sc__law_whole rfl (by decide) fun cdv A outer s0 H E hr => by
    have U := hr.units
    have U5 := room65 hr
    exact (iss_one (is_ret (ie_and (ie_isi .int (ie_var (i := 0)) (by rfl) T.n_isinstance (by rfl) T.n_int) (ie_one (ie_not (ie_isi .bool (ie_var (i := 0)) (by rfl) T.n_isinstance (by rfl) T.n_bool))))))
/-! _law_times -/
theorem sc__law_times : FnScope ["_law_one", "_law_other", "_law_size", "_law_found", "_law_row", "_law_at", "_law_k"] ["_law_one", "_law_other"] (defScope s__law_times) := ⟨rfl, rfl, rfl, by decide +kernel, rfl, by decide +kernel, by decide +kernel⟩
theorem b__law_times (T : Fx K mg) : Binds K T.d__law_times ["_law_one", "_law_other"] [] := T.D__law_times.bindsN fun _ _ _ _ _ _ us hl => match us, hl with | [_, _], _ => rfl
def S__law_times : SM := (sSeq (sAsg (bind1 2) (mCallB fLen (aCons (mVar 0) aNil))) (sSeq (sAsgO 3 (mLst aNil)) (sSeq (sFor (iSeqD (mVar 0)) (bind1 4) (sApp 3 (mCallB fTuple (aCons (mLc [5] (iRange1 (aCons (mVar 2) aNil)) (bind1 5) bYes (mCallB fSum (aCons (mLc [6] (iRange1 (aCons (mVar 2) aNil)) (bind1 6) bYes (mOp2 opMul (mOp2 opIx (mVar 4) (mVar 6)) (mOp2 opIx (mOp2 opIx (mVar 1) (mVar 6)) (mVar 5)))) aNil))) aNil)))) (sRet ((mCallB fTuple (aCons (mView 3) aNil)))))))
def F__law_times : Fn := bodyF [.val, .val] 7 S__law_times
theorem ok__law_times (T : Fx K mg) : FnOk P w K mg base (L2.CX P w) 1 T.a__law_times T.d__law_times ["_law_one", "_law_other"] (spF ⟨P, w, K, mg⟩ [.val, .val] false F__law_times) :=
  fn_body T.D__law_times sc__law_times rfl (by decide) fun cdv A outer s0 H E hr => by
    have U := hr.units
    have U5 := room65 hr
    exact (iss_cons (is_set sc__law_times.nd (ie_callB fLen_ok (by rfl) T.n_len (by decide +kernel) (ia_cons (ie_var (i := 0)) ia_nil)) (i := 2))
      (iss_cons (is_setO sc__law_times.nd (if_lst ia_nil) (i := 3))
      (iss_cons (is_for (passes_of rfl) rfl (ii_seq (ie_var (i := 0))) (ig_name sc__law_times.nd (j := 4)) (iss_one (is_app (i := 3) (ie_callTy fTuple_ok (by rfl) T.n_tuple (by decide +kernel) (ia_cons (ie_F (if_lc rfl sc__law_times.nd (blkOk_by (own := [("_law_at", 5)]) (by kernel_rfl)) (bdOk1 5) (ii_range1 (by rfl) T.n_range (ia_cons (ie_var (i := 2)) ia_nil)) (fun _ _ _ _ _ => (ig_name sc__law_times.nd (j := 5))) (fun _ _ _ _ _ => its_nil) (fun _ _ _ _ _ => (ie_callB (fSum_ok rfl) (by rfl) T.n_sum (by decide +kernel) (ia_cons (ie_F (if_lc rfl sc__law_times.nd (blkOk_by (own := [("_law_k", 6)]) (by kernel_rfl)) (bdOk1 6) (ii_range1 (by rfl) T.n_range (ia_cons (ie_var (i := 2)) ia_nil)) (fun _ _ _ _ _ => (ig_name sc__law_times.nd (j := 6))) (fun _ _ _ _ _ => its_nil) (fun _ _ _ _ _ => (ie_op opMul_ok (ie_ix opIx_ok (ie_var (i := 4)) (ie_var (i := 6))) (ie_ix opIx_ok (ie_ix opIx_ok (ie_var (i := 1)) (ie_var (i := 6))) (ie_var (i := 5))))))) ia_nil))))) ia_nil)))))
      (iss_one (is_ret (ie_callTy fTuple_ok (by rfl) T.n_tuple (by decide +kernel) (ia_cons (ie_view (i := 3)) ia_nil)))))))
/-! _law_columns -/
theorem sc__law_columns : FnScope ["_law_table", "_law_places", "_law_found", "_law_other", "_law_place"] ["_law_table", "_law_places"] (defScope s__law_columns) := ⟨rfl, rfl, rfl, by decide +kernel, rfl, by decide +kernel, by decide +kernel⟩
theorem b__law_columns (T : Fx K mg) : Binds K T.d__law_columns ["_law_table", "_law_places"] [] := T.D__law_columns.bindsN fun _ _ _ _ _ _ us hl => match us, hl with | [_, _], _ => rfl
def S__law_columns : SM := (sSeq (sAsgO 2 (mLst aNil)) (sSeq (sFor (iRange1 (aCons (mCallB fLen (aCons (mVar 0) aNil)) aNil)) (bind1 3) (sIf (bB (mOp2 opNe (mLc [4] (iSeqD (mVar 1)) (bind1 4) (bB (mOp2 opNe (mOp2 opIx (mOp2 opIx (mVar 0) (mVar 4)) (mVar 3)) (mC (.int 0)))) (mVar 4)) (mLst aNil))) (sApp 2 (mVar 3)) sNext)) (sRet ((mCallB fTuple (aCons (mView 2) aNil))))))
def F__law_columns : Fn := bodyF [.val, .val] 5 S__law_columns
theorem ok__law_columns (T : Fx K mg) : FnOk P w K mg base (L2.CX P w) 1 T.a__law_columns T.d__law_columns ["_law_table", "_law_places"] (spF ⟨P, w, K, mg⟩ [.val, .val] false F__law_columns) :=
  fn_body T.D__law_columns sc__law_columns rfl (by decide) fun cdv A outer s0 H E hr => by
    have U := hr.units
    have U5 := room65 hr
    exact (iss_cons (is_setO sc__law_columns.nd (if_lst ia_nil) (i := 2))
      (iss_cons (is_for (passes_of rfl) rfl (ii_range1 (by rfl) T.n_range (ia_cons (ie_callB fLen_ok (by rfl) T.n_len (by decide +kernel) (ia_cons (ie_var (i := 0)) ia_nil)) ia_nil)) (ig_name sc__law_columns.nd (j := 3)) (iss_one (is_if (it_cmp (opNe_ok U) (ie_F (if_lc rfl sc__law_columns.nd (blkOk_by (own := [("_law_place", 4)]) (by kernel_rfl)) (bdOk1 4) (ii_seq (ie_var (i := 1))) (fun _ _ _ _ _ => (ig_name sc__law_columns.nd (j := 4))) (fun _ _ _ _ _ => (its_one (it_cmp (opNe_ok U) (ie_ix opIx_ok (ie_ix opIx_ok (ie_var (i := 0)) (ie_var (i := 4))) (ie_var (i := 3))) ie_int rfl))) (fun _ _ _ _ _ => (ie_var (i := 4))))) (ie_F (if_lst ia_nil)) rfl) (iss_one (is_app (i := 2) (ie_var (i := 3)))) iss_nil)))
      (iss_one (is_ret (ie_callTy fTuple_ok (by rfl) T.n_tuple (by decide +kernel) (ia_cons (ie_view (i := 2)) ia_nil))))))
/-! _law_all -/
theorem sc__law_all : FnScope ["_law_size", "_law_found", "_law_number", "_law_figures", "_law_at", "_law_row"] ["_law_size"] (defScope s__law_all) := ⟨rfl, rfl, rfl, by decide +kernel, rfl, by decide +kernel, by decide +kernel⟩
theorem b__law_all (T : Fx K mg) : Binds K T.d__law_all ["_law_size"] [] := T.D__law_all.bindsN fun _ _ _ _ _ _ us hl => match us, hl with | [_], _ => rfl
def S__law_all : SM := (sSeq (sAsgO 1 (mLst aNil)) (sSeq (sFor (iRange1 (aCons (mOp2 opShl (mC (.int 1)) (mOp2 opMul (mVar 0) (mVar 0))) aNil)) (bind1 2) (sSeq (sAsg (bind1 3) (mLc [4] (iRange1 (aCons (mOp2 opMul (mVar 0) (mVar 0)) aNil)) (bind1 4) bYes (mOp2 opAnd1 (mOp2 opShr (mVar 2) (mOp2 opSub (mOp2 opSub (mOp2 opMul (mVar 0) (mVar 0)) (mC (.int 1))) (mVar 4))) (mC (.int 1))))) (sApp 1 (mCallB fTuple (aCons (mLc [5] (iRange1 (aCons (mVar 0) aNil)) (bind1 5) bYes (mCallB fTuple (aCons (mSl (mVar 3) (pSome (mOp2 opMul (mVar 5) (mVar 0))) (pSome (mOp2 opAdd (mOp2 opMul (mVar 5) (mVar 0)) (mVar 0)))) aNil))) aNil))))) (sRet ((mFrz 1)))))
def F__law_all : Fn := bodyF [.val] 6 S__law_all
theorem ok__law_all (T : Fx K mg) : FnOk P w K mg base (L2.CX P w) 1 T.a__law_all T.d__law_all ["_law_size"] (spF ⟨P, w, K, mg⟩ [.val] false F__law_all) :=
  fn_body T.D__law_all sc__law_all rfl (by decide) fun cdv A outer s0 H E hr => by
    have U := hr.units
    have U5 := room65 hr
    exact (iss_cons (is_setO sc__law_all.nd (if_lst ia_nil) (i := 1))
      (iss_cons (is_for (passes_of rfl) rfl (ii_range1 (by rfl) T.n_range (ia_cons (ie_op opShl_ok ie_int (ie_op opMul_ok (ie_var (i := 0)) (ie_var (i := 0)))) ia_nil)) (ig_name sc__law_all.nd (j := 2)) (iss_cons (is_set sc__law_all.nd (ie_F (if_lc rfl sc__law_all.nd (blkOk_by (own := [("_law_at", 4)]) (by kernel_rfl)) (bdOk1 4) (ii_range1 (by rfl) T.n_range (ia_cons (ie_op opMul_ok (ie_var (i := 0)) (ie_var (i := 0))) ia_nil)) (fun _ _ _ _ _ => (ig_name sc__law_all.nd (j := 4))) (fun _ _ _ _ _ => its_nil) (fun _ _ _ _ _ => (ie_op opAnd1_ok (ie_op opShr_ok (ie_var (i := 2)) (ie_op opSub_ok (ie_op opSub_ok (ie_op opMul_ok (ie_var (i := 0)) (ie_var (i := 0))) ie_int) (ie_var (i := 4)))) ie_int)))) (i := 3))
      (iss_one (is_app (i := 1) (ie_callTy fTuple_ok (by rfl) T.n_tuple (by decide +kernel) (ia_cons (ie_F (if_lc rfl sc__law_all.nd (blkOk_by (own := [("_law_row", 5)]) (by kernel_rfl)) (bdOk1 5) (ii_range1 (by rfl) T.n_range (ia_cons (ie_var (i := 0)) ia_nil)) (fun _ _ _ _ _ => (ig_name sc__law_all.nd (j := 5))) (fun _ _ _ _ _ => its_nil) (fun _ _ _ _ _ => (ie_callTy fTuple_ok (by rfl) T.n_tuple (by decide +kernel) (ia_cons (ie_F (if_sl (ie_var (i := 3)) (ip_some (ie_op opMul_ok (ie_var (i := 5)) (ie_var (i := 0)))) (ip_some (ie_op opAdd_ok (ie_op opMul_ok (ie_var (i := 5)) (ie_var (i := 0))) (ie_var (i := 0)))))) ia_nil))))) ia_nil))))))
      (iss_one (is_ret (ie_frz (i := 1))))))
/-! _law_length -/
theorem sc__law_length : FnScope ["_law_tables", "_law_full", "_law_seen", "_law_here", "_law_length_here", "_law_there", "_law_left", "_law_table"] ["_law_tables"] (defScope s__law_length) := ⟨rfl, rfl, rfl, by decide +kernel, rfl, by decide +kernel, by decide +kernel⟩
theorem b__law_length (T : Fx K mg) : Binds K T.d__law_length ["_law_tables"] [] := T.D__law_length.bindsN fun _ _ _ _ _ _ us hl => match us, hl with | [_], _ => rfl
def S__law_length : SM := (sSeq (sAsg (bind1 1) (mRg1 .tuple (mCallB fLen (aCons (mOp2 opIx (mVar 0) (mC (.int 0))) aNil)))) (sSeq (sAsg (bind1 2) (mLst (aCons (mVar 1) aNil))) (sSeq (sAsg (bind1 3) (mLst (aCons (mVar 1) aNil))) (sSeq (sAsg (bind1 4) (mC (.int 0))) (sSeq (sWhile 200 (bB (mOp2 opNe (mVar 3) (mLst aNil))) (sSeq (sAsg (bind1 4) (mOp2 opAdd (mVar 4) (mC (.int 1)))) (sSeq (sAsg (bind1 5) (mLst aNil)) (sSeq (sFor (iSeqD (mVar 3)) (bind1 6) (sAsg (bind1 5) (mOp2 opAdd (mVar 5) (mLc [7] (iSeqD (mVar 0)) (bind1 7) bYes (mCall F__law_columns [.e (mVar 7), .e (mVar 6)]))))) (sSeq (sIf (bB (mOp2 opIn (mTup aNil) (mVar 5))) (sRet ((mVar 4))) sNext) (sSeq (sAsg (bind1 3) (mLc [6] (iSeqD (mOp1 fSSet (mVar 5))) (bind1 6) (bB (mOp2 opNotIn (mVar 6) (mVar 2))) (mVar 6))) (sAsg (bind1 2) (mOp2 opAdd (mVar 2) (mVar 3))))))))) (sRet ((mC .none))))))))
def F__law_length : Fn := bodyF [.val] 8 S__law_length
theorem ok__law_length (T : Fx K mg) : FnOk P w K mg base (L2.CX P w) 2 T.a__law_length T.d__law_length ["_law_tables"] (spF ⟨P, w, K, mg⟩ [.val] false F__law_length) :=
  fn_body T.D__law_length sc__law_length rfl (by decide) fun cdv A outer s0 H E hr => by
    have U := hr.units
    have U5 := room65 hr
    exact (iss_cons (is_set sc__law_length.nd (ie_tupRg rfl (ie_callB fLen_ok (by rfl) T.n_len (by decide +kernel) (ia_cons (ie_ix opIx_ok (ie_var (i := 0)) ie_int) ia_nil)) (by rfl) T.n_tuple (by rfl) T.n_range) (i := 1))
      (iss_cons (is_set sc__law_length.nd (ie_F (if_lst (ia_cons (ie_var (i := 1)) ia_nil))) (i := 2))
      (iss_cons (is_set sc__law_length.nd (ie_F (if_lst (ia_cons (ie_var (i := 1)) ia_nil))) (i := 3))
      (iss_cons (is_set sc__law_length.nd ie_int (i := 4))
      (iss_cons (is_while 200 (passes_of rfl) (it_cmp (opNe_ok U) (ie_var (i := 3)) (ie_F (if_lst ia_nil)) rfl) (iss_cons (is_set sc__law_length.nd (ie_op opAdd_ok (ie_var (i := 4)) ie_int) (i := 4))
      (iss_cons (is_set sc__law_length.nd (ie_F (if_lst ia_nil)) (i := 5))
      (iss_cons (is_for (passes_of rfl) rfl (ii_seq (ie_var (i := 3))) (ig_name sc__law_length.nd (j := 6)) (iss_one (is_set sc__law_length.nd (ie_op opAdd_ok (ie_var (i := 5)) (ie_F (if_lc rfl sc__law_length.nd (blkOk_by (own := [("_law_table", 7)]) (by kernel_rfl)) (bdOk1 7) (ii_seq (ie_var (i := 0))) (fun _ _ _ _ _ => (ig_name sc__law_length.nd (j := 7))) (fun _ _ _ _ _ => its_nil) (fun _ _ _ _ _ => (ie_call takes0 (ok__law_columns T) (hr.mono (by decide)) (by rfl) T.g__law_columns T.D__law_columns.kp (b__law_columns T) (io_e (ie_var (i := 7)) (io_e (ie_var (i := 6)) io_nil))))))) (i := 5))))
      (iss_cons (is_if (it_cmp (opIn_ok U5) (ie_tup ia_nil) (ie_var (i := 5)) rfl) (iss_one (is_ret (ie_var (i := 4)))) iss_nil)
      (iss_cons (is_setLc (i := 3) sc__law_length.nd rfl (blkOk_by (own := [("_law_left", 6)]) (by kernel_rfl)) (bdOk1 6) (ii_seq (ie_F (if_sset rfl U (ie_var (i := 5)) (by rfl) T.n_sorted (by rfl) T.n_set))) (fun _ _ _ _ _ => (ig_name sc__law_length.nd (j := 6))) (fun _ _ _ _ _ => (its_one (it_cmp (opNotIn_ok U5) (ie_var (i := 6)) (ie_var (i := 2)) rfl))) (fun _ _ _ _ _ => (ie_var (i := 6))) (sw_true rfl rfl rfl rfl))
      (iss_one (is_set sc__law_length.nd (ie_op opAdd_ok (ie_var (i := 2)) (ie_var (i := 3))) (i := 2)))))))))
      (iss_one (is_ret ie_non)))))))
/-! _law_due -/
theorem sc__law_due : FnScope ["_law_size", "_law_marks", "_law_found", "_law_at", "_law_one", "_law_other"] ["_law_size"] (defScope s__law_due) := ⟨rfl, rfl, rfl, by decide +kernel, rfl, by decide +kernel, by decide +kernel⟩
theorem b__law_due (T : Fx K mg) : Binds K T.d__law_due ["_law_size"] [] := T.D__law_due.bindsN fun _ _ _ _ _ _ us hl => match us, hl with | [_], _ => rfl
def S__law_due : SM := (sSeq (sAsg (bind1 1) (mCall F__law_all [.e (mVar 0)])) (sSeq (sAsg (bind1 2) (mLst aNil)) (sSeq (sFor (iEnumD (aCons (mVar 1) aNil)) (bindT [3, 4]) (sAsg (bind1 2) (mOp2 opAdd (mVar 2) (mLc [5] (iSeqD (mSl (mVar 1) (pSome (mOp2 opAdd (mVar 3) (mC (.int 1)))) pNo)) (bind1 5) bYes (mTup (aCons (mVar 4) (aCons (mVar 5) (aCons (mCall F__law_length [.e (mLst (aCons (mVar 4) (aCons (mVar 5) aNil)))]) aNil)))))))) (sRet ((mVar 2))))))
def F__law_due : Fn := bodyF [.val] 6 S__law_due
theorem ok__law_due (T : Fx K mg) : FnOk P w K mg base (L2.CX P w) 3 T.a__law_due T.d__law_due ["_law_size"] (spF ⟨P, w, K, mg⟩ [.val] false F__law_due) :=
  fn_body T.D__law_due sc__law_due rfl (by decide) fun cdv A outer s0 H E hr => by
    have U := hr.units
    have U5 := room65 hr
    exact (iss_cons (is_set sc__law_due.nd (ie_call (takes_of rfl rfl rfl rfl) (ok__law_all T) (hr.mono (by decide)) (by rfl) T.g__law_all T.D__law_all.kp (b__law_all T) (io_e (ie_var (i := 0)) io_nil)) (i := 1))
      (iss_cons (is_set sc__law_due.nd (ie_F (if_lst ia_nil)) (i := 2))
      (iss_cons (is_for (passes_of rfl) rfl (ii_enum (by rfl) T.n_enumerate (ia_cons (ie_var (i := 1)) ia_nil)) (ig_tup rfl (pns_cons (pn_name sc__law_due.nd (j := 3)) (pns_cons (pn_name sc__law_due.nd (j := 4)) pns_nil))) (iss_one (is_set sc__law_due.nd (ie_op opAdd_ok (ie_var (i := 2)) (ie_F (if_lc rfl sc__law_due.nd (blkOk_by (own := [("_law_other", 5)]) (by kernel_rfl)) (bdOk1 5) (ii_seq (ie_F (if_sl (ie_var (i := 1)) (ip_some (ie_op opAdd_ok (ie_var (i := 3)) ie_int)) ip_no))) (fun _ _ _ _ _ => (ig_name sc__law_due.nd (j := 5))) (fun _ _ _ _ _ => its_nil) (fun _ _ _ _ _ => (ie_tup (ia_cons (ie_var (i := 4)) (ia_cons (ie_var (i := 5)) (ia_cons (ie_call takes0 (ok__law_length T) (hr.mono (by decide)) (by rfl) T.g__law_length T.D__law_length.kp (b__law_length T) (io_e (ie_F (if_lst (ia_cons (ie_var (i := 4)) (ia_cons (ie_var (i := 5)) ia_nil)))) io_nil)) ia_nil)))))))) (i := 2))))
      (iss_one (is_ret (ie_var (i := 2)))))))
/-! _law_right -/
theorem sc__law_right : FnScope ["_law_size", "_law_due_here", "_law_turn", "_law_found", "_law_one"] ["_law_size"] (defScope s__law_right) := ⟨rfl, rfl, rfl, by decide +kernel, rfl, by decide +kernel, by decide +kernel⟩
theorem b__law_right (T : Fx K mg) : Binds K T.d__law_right ["_law_size"] [] := T.D__law_right.bindsN fun _ _ _ _ _ _ us hl => match us, hl with | [_], _ => rfl
def S__law_right : SM := (sSeq (sAsg (bind1 1) (mCall F__law_due [.e (mVar 0)])) (sSeq (sIf (bB (mOp2 opNe (mCallB fLen (aCons (mVar 1) aNil)) (mOp2 opIx (mLst (aCons (mC (.int 1)) (aCons (mC (.int 120)) aNil))) (mOp2 opSub (mVar 0) (mC (.int 1)))))) (sRet ((mC (.bool false)))) sNext) (sSeq (sFor (iRange1 (aCons (mC (.int 2)) aNil)) (bind1 2) (sSeq (sAsgO 3 (mCall F_pair_lengths [.e (mVar 0)])) (sSeq (sIf (bOr (bNot (bB (mOp1 (fIsi .list) (mView 3)))) (bB (mOp2 opNe (mView 3) (mVar 1)))) (sRet ((mC (.bool false)))) sNext) (sSeq (sIf (bNot (bB (mCallB fAll (aCons (mLc [4] (iSeqD (mView 3)) (bind1 4) bYes (mB (bAnd (bB (mOp1 (fIsi .tuple) (mVar 4))) (bB (mB (bOr (bB (mOp2 opIs (mOp2 opIx (mVar 4) (mC (.int 2))) (mC .none))) (bB (mCall F__law_whole [.e (mOp2 opIx (mVar 4) (mC (.int 2)))])))))))) aNil)))) (sRet ((mC (.bool false)))) sNext) (sApp 3 (mC .none)))))) (sRet ((mC (.bool true)))))))
def F__law_right : Fn := bodyF [.val] 5 S__law_right
theorem ok__law_right (T : Fx K mg) : FnOk P w K mg base (L2.CX P w) 4 T.a__law_right T.d__law_right ["_law_size"] (spF ⟨P, w, K, mg⟩ [.val] false F__law_right) :=
  fn_body T.D__law_right sc__law_right rfl (by decide) fun cdv A outer s0 H E hr => by
    have U := hr.units
    have U5 := room65 hr
    exact (iss_cons (is_set sc__law_right.nd (ie_call (takes_of rfl rfl rfl rfl) (ok__law_due T) (hr.mono (by decide)) (by rfl) T.g__law_due T.D__law_due.kp (b__law_due T) (io_e (ie_var (i := 0)) io_nil)) (i := 1))
      (iss_cons (is_if (it_cmp (opNe_ok U) (ie_callB fLen_ok (by rfl) T.n_len (by decide +kernel) (ia_cons (ie_var (i := 1)) ia_nil)) (ie_ix opIx_ok (ie_F (if_lst (ia_cons ie_int (ia_cons ie_int ia_nil)))) (ie_op opSub_ok (ie_var (i := 0)) ie_int)) rfl) (iss_one (is_ret ie_bl)) iss_nil)
      (iss_cons (is_for (passes_of rfl) rfl (ii_range1 (by rfl) T.n_range (ia_cons ie_int ia_nil)) (ig_name sc__law_right.nd (j := 2)) (iss_cons (is_setO sc__law_right.nd (if_call (takes_of rfl rfl rfl rfl) (ok_pair_lengths T) (hr.mono (by decide)) (by rfl) T.g_pair_lengths T.D_pair_lengths.kp (b_pair_lengths T) (io_e (ie_var (i := 0)) io_nil)) (i := 3))
      (iss_cons (is_if (iw_or (it_not (it_val (ie_isi .list (ie_view (i := 3)) (by rfl) T.n_isinstance (by rfl) T.n_list))) (iw_or1 (it_cmp (opNe_ok U) (ie_view (i := 3)) (ie_var (i := 1)) rfl))).pt (iss_one (is_ret ie_bl)) iss_nil)
      (iss_cons (is_if (it_not (it_val (ie_callB (fAll_ok rfl) (by rfl) T.n_all (by decide +kernel) (ia_cons (ie_F (if_lc rfl sc__law_right.nd (blkOk_by (own := [("_law_one", 4)]) (by kernel_rfl)) (bdOk1 4) (ii_seq (ie_view (i := 3))) (fun _ _ _ _ _ => (ig_name sc__law_right.nd (j := 4))) (fun _ _ _ _ _ => its_nil) (fun _ _ _ _ _ => (ie_and (ie_isi .tuple (ie_var (i := 4)) (by rfl) T.n_isinstance (by rfl) T.n_tuple) (ie_one (ie_or (ie_cmp (opIs_ok) (ie_ix opIx_ok (ie_var (i := 4)) ie_int) ie_non rfl) (ie_one (ie_call takes0 (ok__law_whole T) (hr.mono (by decide)) (by rfl) T.g__law_whole T.D__law_whole.kp (b__law_whole T) (io_e (ie_ix opIx_ok (ie_var (i := 4)) ie_int) io_nil))))))))) ia_nil)))) (iss_one (is_ret ie_bl)) iss_nil)
      (iss_one (is_app (i := 3) ie_non))))))
      (iss_one (is_ret ie_bl)))))
/-! _law_by_ways -/
theorem sc__law_by_ways : FnScope ["_law_tables", "_law_found", "_law_places", "_law_more", "_law_made", "_law_table", "_law_row"] ["_law_tables"] (defScope s__law_by_ways) := ⟨rfl, rfl, rfl, by decide +kernel, rfl, by decide +kernel, by decide +kernel⟩
theorem b__law_by_ways (T : Fx K mg) : Binds K T.d__law_by_ways ["_law_tables"] [] := T.D__law_by_ways.bindsN fun _ _ _ _ _ _ us hl => match us, hl with | [_], _ => rfl
def S__law_by_ways : SM := (sSeq (sAsg (bind1 1) (mCallB fList (aCons (mVar 0) aNil))) (sSeq (sFor (iRange2 (aCons (mC (.int 1)) (aCons (mC (.int 4)) aNil))) (bind1 2) (sSeq (sIf (bB (mOp2 opNe (mLc [4] (iSeqD (mVar 1)) (bind1 4) (bB (mOp2 opNe (mLc [6] (iSeqD (mVar 4)) (bind1 6) (bB (mOp2 opLt (mMet true (fCount true) (mVar 6) (mC (.int 0))) (mC (.int 2)))) (mVar 6)) (mLst aNil))) (mVar 4)) (mVar 1))) (sRet ((mVar 2))) sNext) (sSeq (sAsg (bind1 3) (mLst aNil)) (sSeq (sFor (iSeqD (mVar 1)) (bind1 4) (sAsg (bind1 3) (mOp2 opAdd (mVar 3) (mLc [5] (iSeqD (mVar 0)) (bind1 5) bYes (mCall F__law_times [.e (mVar 4), .e (mVar 5)]))))) (sAsg (bind1 1) (mVar 3)))))) (sRet ((mC .none)))))
def F__law_by_ways : Fn := bodyF [.val] 7 S__law_by_ways
theorem ok__law_by_ways (T : Fx K mg) : FnOk P w K mg base (L2.CX P w) 2 T.a__law_by_ways T.d__law_by_ways ["_law_tables"] (spF ⟨P, w, K, mg⟩ [.val] false F__law_by_ways) :=
  fn_body T.D__law_by_ways sc__law_by_ways rfl (by decide) fun cdv A outer s0 H E hr => by
    have U := hr.units
    have U5 := room65 hr
    exact (iss_cons (is_set sc__law_by_ways.nd (ie_F (if_callTy fList_ok (by rfl) T.n_list (by decide +kernel) (ia_cons (ie_var (i := 0)) ia_nil))) (i := 1))
      (iss_cons (is_for (passes_of rfl) rfl (ii_range2 (by rfl) T.n_range (ia_cons ie_int (ia_cons ie_int ia_nil))) (ig_name sc__law_by_ways.nd (j := 2)) (iss_cons (is_if (it_cmp (opNe_ok U) (ie_F (if_lc rfl sc__law_by_ways.nd (blkOk_by (own := [("_law_made", 4)]) (by kernel_rfl)) (bdOk1 4) (ii_seq (ie_var (i := 1))) (fun _ _ _ _ _ => (ig_name sc__law_by_ways.nd (j := 4))) (fun _ _ _ _ _ => (its_one (it_cmp (opNe_ok U) (ie_F (if_lc rfl sc__law_by_ways.nd (blkOk_by (own := [("_law_row", 6)]) (by kernel_rfl)) (bdOk1 6) (ii_seq (ie_var (i := 4))) (fun _ _ _ _ _ => (ig_name sc__law_by_ways.nd (j := 6))) (fun _ _ _ _ _ => (its_one (it_cmp (opLt_ok) (ie_cntT U (ie_var (i := 6)) ie_int) ie_int rfl))) (fun _ _ _ _ _ => (ie_var (i := 6))))) (ie_F (if_lst ia_nil)) rfl))) (fun _ _ _ _ _ => (ie_var (i := 4))))) (ie_var (i := 1)) rfl) (iss_one (is_ret (ie_var (i := 2)))) iss_nil)
      (iss_cons (is_set sc__law_by_ways.nd (ie_F (if_lst ia_nil)) (i := 3))
      (iss_cons (is_for (passes_of rfl) rfl (ii_seq (ie_var (i := 1))) (ig_name sc__law_by_ways.nd (j := 4)) (iss_one (is_set sc__law_by_ways.nd (ie_op opAdd_ok (ie_var (i := 3)) (ie_F (if_lc rfl sc__law_by_ways.nd (blkOk_by (own := [("_law_table", 5)]) (by kernel_rfl)) (bdOk1 5) (ii_seq (ie_var (i := 0))) (fun _ _ _ _ _ => (ig_name sc__law_by_ways.nd (j := 5))) (fun _ _ _ _ _ => its_nil) (fun _ _ _ _ _ => (ie_call takes0 (ok__law_times T) (hr.mono (by decide)) (by rfl) T.g__law_times T.D__law_times.kp (b__law_times T) (io_e (ie_var (i := 4)) (io_e (ie_var (i := 5)) io_nil))))))) (i := 3))))
      (iss_one (is_set sc__law_by_ways.nd (ie_var (i := 3)) (i := 1)))))))
      (iss_one (is_ret ie_non))))
/-! law -/
theorem sc_law : FnScope ["_law_script", "_law_cell_here", "_law_one", "_law_other", "_law_length_here"] ["_law_script"] (defScope s_law) := ⟨rfl, rfl, rfl, by decide +kernel, rfl, by decide +kernel, by decide +kernel⟩
theorem b_law (T : Fx K mg) : Binds K T.d_law ["_law_script"] [] := T.D_law.bindsN fun _ _ _ _ _ _ us hl => match us, hl with | [_], _ => rfl
def S_law : SM := (sSeq (sIf (bOr (bNot (bB (mCall F__law_right [.e (mC (.int 1))]))) (bNot (bB (mCall F__law_right [.e (mC (.int 2))])))) (sRet ((mC (.bool false)))) sNext) (sSeq (sFor (iSeqD (mOp2 opAdd (mLst (aCons (mCall F__law_cell [.e (mVar 0), .e (mC (.int 0))]) aNil)) (mSl (mVar 0) (pSome (mC (.int 1))) (pSome (mC (.int 3)))))) (bind1 1) (sSeq (sAsg (bindT [2, 3, 4]) (mOp2 opIx (mCall F_pair_lengths [.e (mC (.int 2))]) (mCallT F__law_draw (mCall F__law_pen [.e (mVar 1)]) (aCons (mC (.int 120)) aNil)))) (sIf (bB (mOp2 opNe (mCall F__law_by_ways [.e (mLst (aCons (mVar 2) (aCons (mVar 3) aNil)))]) (mVar 4))) (sRet ((mC (.bool false)))) sNext))) (sRet ((mC (.bool true))))))
def F_law : Fn := bodyF [.val] 5 S_law
theorem ok_law (T : Fx K mg) : FnOk P w K mg base (L2.CX P w) 5 T.a_law T.d_law ["_law_script"] (spF ⟨P, w, K, mg⟩ [.val] false F_law) :=
  fn_body T.D_law sc_law rfl (by decide) fun cdv A outer s0 H E hr => by
    have U := hr.units
    have U5 := room65 hr
    exact (iss_cons (is_if (iw_or (it_not (it_val (ie_call (takes_of rfl rfl rfl rfl) (ok__law_right T) (hr.mono (by decide)) (by rfl) T.g__law_right T.D__law_right.kp (b__law_right T) (io_e ie_int io_nil)))) (iw_or1 (it_not (it_val (ie_call (takes_of rfl rfl rfl rfl) (ok__law_right T) (hr.mono (by decide)) (by rfl) T.g__law_right T.D__law_right.kp (b__law_right T) (io_e ie_int io_nil)))))).pt (iss_one (is_ret ie_bl)) iss_nil)
      (iss_cons (is_for (passes_of rfl) rfl (ii_seq (ie_op opAdd_ok (ie_F (if_lst (ia_cons (ie_call (takes_of rfl rfl rfl rfl) (ok__law_cell T) (hr.mono (by decide)) (by rfl) T.g__law_cell T.D__law_cell.kp (b__law_cell T) (io_e (ie_var (i := 0)) (io_e ie_int io_nil))) ia_nil))) (ie_F (if_sl (ie_var (i := 0)) (ip_some ie_int) (ip_some ie_int))))) (ig_name sc_law.nd (j := 1)) (iss_cons (is_asg (ie_ix opIx_ok (ie_F (if_call (takes_of rfl rfl rfl rfl) (ok_pair_lengths T) (hr.mono (by decide)) (by rfl) T.g_pair_lengths T.D_pair_lengths.kp (b_pair_lengths T) (io_e ie_int io_nil))) (ie_callT (takes_of rfl rfl rfl rfl) (ok__law_draw T) (hr.mono (by decide)) (by rfl) T.g__law_draw T.D__law_draw.kp (b__law_draw T) (if_call (takes_of rfl rfl rfl rfl) (ok__law_pen T) (hr.mono (by decide)) (by rfl) T.g__law_pen T.D__law_pen.kp (b__law_pen T) (io_e (ie_var (i := 1)) io_nil)) (ia_cons ie_int ia_nil) (aCons_len aNil_len))) (ig_tup rfl (pns_cons (pn_name sc_law.nd (j := 2)) (pns_cons (pn_name sc_law.nd (j := 3)) (pns_cons (pn_name sc_law.nd (j := 4)) pns_nil)))))
      (iss_one (is_if (it_cmp (opNe_ok U) (ie_call (takes_of rfl rfl rfl rfl) (ok__law_by_ways T) (hr.mono (by decide)) (by rfl) T.g__law_by_ways T.D__law_by_ways.kp (b__law_by_ways T) (io_e (ie_F (if_lst (ia_cons (ie_var (i := 2)) (ia_cons (ie_var (i := 3)) ia_nil)))) io_nil)) (ie_var (i := 4)) rfl) (iss_one (is_ret ie_bl)) iss_nil))))
      (iss_one (is_ret ie_bl))))
end Ml

namespace Ml
open PySem PySem.Spec PyProof.Rows L2 Mo
theorem right1 : isT (F__law_right [.int 1]) = true := by decide +kernel
theorem right2 : isT (F__law_right [.int 2]) = true := by decide +kernel
def t2 (a b c d : Int) : PyData := .tuple [.tuple [.int a, .int b], .tuple [.int c, .int d]]
def PL0 : List PyData := [.tuple [(t2 0 0 0 0), (t2 0 0 0 1), .int 1], .tuple [(t2 0 0 0 0), (t2 0 0 1 0), .int 1], .tuple [(t2 0 0 0 0), (t2 0 0 1 1), .int 1], .tuple [(t2 0 0 0 0), (t2 0 1 0 0), .int 1], .tuple [(t2 0 0 0 0), (t2 0 1 0 1), .int 1], .tuple [(t2 0 0 0 0), (t2 0 1 1 0), .int 1], .tuple [(t2 0 0 0 0), (t2 0 1 1 1), .int 1], .tuple [(t2 0 0 0 0), (t2 1 0 0 0), .int 1], .tuple [(t2 0 0 0 0), (t2 1 0 0 1), .int 1], .tuple [(t2 0 0 0 0), (t2 1 0 1 0), .int 1]]
def PL1 : List PyData := [.tuple [(t2 0 0 0 0), (t2 1 0 1 1), .int 1], .tuple [(t2 0 0 0 0), (t2 1 1 0 0), .int 1], .tuple [(t2 0 0 0 0), (t2 1 1 0 1), .int 1], .tuple [(t2 0 0 0 0), (t2 1 1 1 0), .int 1], .tuple [(t2 0 0 0 0), (t2 1 1 1 1), .int 1], .tuple [(t2 0 0 0 1), (t2 0 0 1 0), .int 2], .tuple [(t2 0 0 0 1), (t2 0 0 1 1), .none], .tuple [(t2 0 0 0 1), (t2 0 1 0 0), .int 2], .tuple [(t2 0 0 0 1), (t2 0 1 0 1), .none], .tuple [(t2 0 0 0 1), (t2 0 1 1 0), .int 3]]
def PL2 : List PyData := [.tuple [(t2 0 0 0 1), (t2 0 1 1 1), .none], .tuple [(t2 0 0 0 1), (t2 1 0 0 0), .int 2], .tuple [(t2 0 0 0 1), (t2 1 0 0 1), .none], .tuple [(t2 0 0 0 1), (t2 1 0 1 0), .int 2], .tuple [(t2 0 0 0 1), (t2 1 0 1 1), .none], .tuple [(t2 0 0 0 1), (t2 1 1 0 0), .int 2], .tuple [(t2 0 0 0 1), (t2 1 1 0 1), .none], .tuple [(t2 0 0 0 1), (t2 1 1 1 0), .int 3], .tuple [(t2 0 0 0 1), (t2 1 1 1 1), .none], .tuple [(t2 0 0 1 0), (t2 0 0 1 1), .int 2]]
def PL3 : List PyData := [.tuple [(t2 0 0 1 0), (t2 0 1 0 0), .int 2], .tuple [(t2 0 0 1 0), (t2 0 1 0 1), .int 2], .tuple [(t2 0 0 1 0), (t2 0 1 1 0), .int 2], .tuple [(t2 0 0 1 0), (t2 0 1 1 1), .int 2], .tuple [(t2 0 0 1 0), (t2 1 0 0 0), .int 2], .tuple [(t2 0 0 1 0), (t2 1 0 0 1), .int 2], .tuple [(t2 0 0 1 0), (t2 1 0 1 0), .int 2], .tuple [(t2 0 0 1 0), (t2 1 0 1 1), .int 2], .tuple [(t2 0 0 1 0), (t2 1 1 0 0), .int 2], .tuple [(t2 0 0 1 0), (t2 1 1 0 1), .int 2]]
def PL4 : List PyData := [.tuple [(t2 0 0 1 0), (t2 1 1 1 0), .int 2], .tuple [(t2 0 0 1 0), (t2 1 1 1 1), .int 2], .tuple [(t2 0 0 1 1), (t2 0 1 0 0), .int 2], .tuple [(t2 0 0 1 1), (t2 0 1 0 1), .none], .tuple [(t2 0 0 1 1), (t2 0 1 1 0), .none], .tuple [(t2 0 0 1 1), (t2 0 1 1 1), .none], .tuple [(t2 0 0 1 1), (t2 1 0 0 0), .int 2], .tuple [(t2 0 0 1 1), (t2 1 0 0 1), .none], .tuple [(t2 0 0 1 1), (t2 1 0 1 0), .int 2], .tuple [(t2 0 0 1 1), (t2 1 0 1 1), .none]]
def PL5 : List PyData := [.tuple [(t2 0 0 1 1), (t2 1 1 0 0), .none], .tuple [(t2 0 0 1 1), (t2 1 1 0 1), .none], .tuple [(t2 0 0 1 1), (t2 1 1 1 0), .none], .tuple [(t2 0 0 1 1), (t2 1 1 1 1), .none], .tuple [(t2 0 1 0 0), (t2 0 1 0 1), .int 2], .tuple [(t2 0 1 0 0), (t2 0 1 1 0), .int 2], .tuple [(t2 0 1 0 0), (t2 0 1 1 1), .int 2], .tuple [(t2 0 1 0 0), (t2 1 0 0 0), .int 2], .tuple [(t2 0 1 0 0), (t2 1 0 0 1), .int 2], .tuple [(t2 0 1 0 0), (t2 1 0 1 0), .int 2]]
def PL6 : List PyData := [.tuple [(t2 0 1 0 0), (t2 1 0 1 1), .int 2], .tuple [(t2 0 1 0 0), (t2 1 1 0 0), .int 2], .tuple [(t2 0 1 0 0), (t2 1 1 0 1), .int 2], .tuple [(t2 0 1 0 0), (t2 1 1 1 0), .int 2], .tuple [(t2 0 1 0 0), (t2 1 1 1 1), .int 2], .tuple [(t2 0 1 0 1), (t2 0 1 1 0), .none], .tuple [(t2 0 1 0 1), (t2 0 1 1 1), .none], .tuple [(t2 0 1 0 1), (t2 1 0 0 0), .int 2], .tuple [(t2 0 1 0 1), (t2 1 0 0 1), .none], .tuple [(t2 0 1 0 1), (t2 1 0 1 0), .none]]
def PL7 : List PyData := [.tuple [(t2 0 1 0 1), (t2 1 0 1 1), .none], .tuple [(t2 0 1 0 1), (t2 1 1 0 0), .int 2], .tuple [(t2 0 1 0 1), (t2 1 1 0 1), .none], .tuple [(t2 0 1 0 1), (t2 1 1 1 0), .none], .tuple [(t2 0 1 0 1), (t2 1 1 1 1), .none], .tuple [(t2 0 1 1 0), (t2 0 1 1 1), .none], .tuple [(t2 0 1 1 0), (t2 1 0 0 0), .int 3], .tuple [(t2 0 1 1 0), (t2 1 0 0 1), .none], .tuple [(t2 0 1 1 0), (t2 1 0 1 0), .none], .tuple [(t2 0 1 1 0), (t2 1 0 1 1), .none]]
def PL8 : List PyData := [.tuple [(t2 0 1 1 0), (t2 1 1 0 0), .none], .tuple [(t2 0 1 1 0), (t2 1 1 0 1), .none], .tuple [(t2 0 1 1 0), (t2 1 1 1 0), .none], .tuple [(t2 0 1 1 0), (t2 1 1 1 1), .none], .tuple [(t2 0 1 1 1), (t2 1 0 0 0), .int 3], .tuple [(t2 0 1 1 1), (t2 1 0 0 1), .none], .tuple [(t2 0 1 1 1), (t2 1 0 1 0), .none], .tuple [(t2 0 1 1 1), (t2 1 0 1 1), .none], .tuple [(t2 0 1 1 1), (t2 1 1 0 0), .none], .tuple [(t2 0 1 1 1), (t2 1 1 0 1), .none]]
def PL9 : List PyData := [.tuple [(t2 0 1 1 1), (t2 1 1 1 0), .none], .tuple [(t2 0 1 1 1), (t2 1 1 1 1), .none], .tuple [(t2 1 0 0 0), (t2 1 0 0 1), .none], .tuple [(t2 1 0 0 0), (t2 1 0 1 0), .none], .tuple [(t2 1 0 0 0), (t2 1 0 1 1), .none], .tuple [(t2 1 0 0 0), (t2 1 1 0 0), .none], .tuple [(t2 1 0 0 0), (t2 1 1 0 1), .none], .tuple [(t2 1 0 0 0), (t2 1 1 1 0), .none], .tuple [(t2 1 0 0 0), (t2 1 1 1 1), .none], .tuple [(t2 1 0 0 1), (t2 1 0 1 0), .none]]
def PL10 : List PyData := [.tuple [(t2 1 0 0 1), (t2 1 0 1 1), .none], .tuple [(t2 1 0 0 1), (t2 1 1 0 0), .none], .tuple [(t2 1 0 0 1), (t2 1 1 0 1), .none], .tuple [(t2 1 0 0 1), (t2 1 1 1 0), .none], .tuple [(t2 1 0 0 1), (t2 1 1 1 1), .none], .tuple [(t2 1 0 1 0), (t2 1 0 1 1), .none], .tuple [(t2 1 0 1 0), (t2 1 1 0 0), .none], .tuple [(t2 1 0 1 0), (t2 1 1 0 1), .none], .tuple [(t2 1 0 1 0), (t2 1 1 1 0), .none], .tuple [(t2 1 0 1 0), (t2 1 1 1 1), .none]]
def PL11 : List PyData := [.tuple [(t2 1 0 1 1), (t2 1 1 0 0), .none], .tuple [(t2 1 0 1 1), (t2 1 1 0 1), .none], .tuple [(t2 1 0 1 1), (t2 1 1 1 0), .none], .tuple [(t2 1 0 1 1), (t2 1 1 1 1), .none], .tuple [(t2 1 1 0 0), (t2 1 1 0 1), .none], .tuple [(t2 1 1 0 0), (t2 1 1 1 0), .none], .tuple [(t2 1 1 0 0), (t2 1 1 1 1), .none], .tuple [(t2 1 1 0 1), (t2 1 1 1 0), .none], .tuple [(t2 1 1 0 1), (t2 1 1 1 1), .none], .tuple [(t2 1 1 1 0), (t2 1 1 1 1), .none]]
def PL : List PyData := PL0 ++ (PL1 ++ (PL2 ++ (PL3 ++ (PL4 ++ (PL5 ++ (PL6 ++ (PL7 ++ (PL8 ++ (PL9 ++ (PL10 ++ (PL11)))))))))))
theorem pl_is : isD (.list PL) (F_pair_lengths [.int 2]) = true := by decide +kernel
/-- one entry: all ways of up to three places say the same -/
def chk : PyData → Bool
  | .tuple [a, b, c] => match F__law_by_ways [.list [a, b]] with
    | .ok v _ => (match opNe v c with
      | some (.bool false) => true
      | _ => false)
    | _ => false
  | _ => false
theorem chk0 : PL0.all chk = true := by decide +kernel
theorem chk1 : PL1.all chk = true := by decide +kernel
theorem chk2 : PL2.all chk = true := by decide +kernel
theorem chk3 : PL3.all chk = true := by decide +kernel
theorem chk4 : PL4.all chk = true := by decide +kernel
theorem chk5 : PL5.all chk = true := by decide +kernel
theorem chk6 : PL6.all chk = true := by decide +kernel
theorem chk7 : PL7.all chk = true := by decide +kernel
theorem chk8 : PL8.all chk = true := by decide +kernel
theorem chk9 : PL9.all chk = true := by decide +kernel
theorem chk10 : PL10.all chk = true := by decide +kernel
theorem chk11 : PL11.all chk = true := by decide +kernel
theorem pl_len : PL.length = 120 := by decide +kernel
theorem pl_all : PL.all chk = true := by
  unfold PL
  simp only [List.all_append, chk0, chk1, chk2, chk3, chk4, chk5, chk6, chk7, chk8, chk9, chk10, chk11, Bool.and_self]
theorem chk_ok {e : PyData} (h : chk e = true) : ∃ a b c v outs, e = .tuple [a, b, c] ∧ F__law_by_ways [.list [a, b]] = .ok v outs ∧ opNe v c = some (.bool false) := by
  match e, h with
  | .tuple [a, b, c], h =>
    have h : (match F__law_by_ways [.list [a, b]] with
      | .ok v _ => (match opNe v c with
        | some (.bool false) => true
        | _ => false)
      | _ => false) = true := h
    cases hf : F__law_by_ways [.list [a, b]] with
    | bad => rw [hf] at h; cases h
    | exc x o => rw [hf] at h; cases h
    | ok v outs =>
      rw [hf] at h
      dsimp only at h
      refine ⟨a, b, c, v, outs, rfl, hf, ?_⟩
      match ho : opNe v c with
      | some (.bool false) => rfl
      | none => rw [ho] at h; cases h
      | some (.bool true) => rw [ho] at h; cases h
      | some .none => rw [ho] at h; cases h
      | some (.int _) => rw [ho] at h; cases h
      | some (.str _) => rw [ho] at h; cases h
      | some (.list _) => rw [ho] at h; cases h
      | some (.tuple _) => rw [ho] at h; cases h
      | some (.dict _) => rw [ho] at h; cases h
end Ml

namespace Ml
open PySem PySem.Spec PyProof.Rows L2 Mo
theorem draw_eq : F__law_draw = F_draw := rfl
theorem pen_eq : F__law_pen = F_pen := rfl
theorem cell_eq : F__law_cell = F_cell := rfl
/-- the frame within the loop -/
def In (L : PyData) (G : Env') : Prop := ∃ s1 s2 s3 s4, G = [.val L, s1, s2, s3, s4] ∧ (∀ s, s = s1 ∨ s = s2 ∨ s = s3 ∨ s = s4 → s = .un ∨ ∃ d, s = .val d)
theorem bind1_in {L : PyData} {G : Env'} (h : In L G) (d : PyData) : ∃ s2 s3 s4, bind1 1 d G = some [.val L, .val d, s2, s3, s4] ∧ (∀ s, s = s2 ∨ s = s3 ∨ s = s4 → s = .un ∨ ∃ d, s = .val d) := by
  obtain ⟨s1, s2, s3, s4, rfl, h⟩ := h
  refine ⟨s2, s3, s4, ?_, fun s q => h s (.inr q)⟩
  rcases h s1 (.inl rfl) with rfl | ⟨e, rfl⟩ <;> rfl
theorem bindT_in {L c a b d : PyData} {s2 s3 s4 : Sl} (h : ∀ s, s = s2 ∨ s = s3 ∨ s = s4 → s = .un ∨ ∃ d, s = .val d) : bindT [2, 3, 4] (.tuple [a, b, d]) [.val L, .val c, s2, s3, s4] = some [.val L, .val c, .val a, .val b, .val d] := by
  rcases h s2 (.inl rfl) with rfl | ⟨e, rfl⟩ <;> rcases h s3 (.inr (.inl rfl)) with rfl | ⟨e, rfl⟩ <;> rcases h s4 (.inr (.inr rfl)) with rfl | ⟨e, rfl⟩ <;> rfl
theorem plain (ns : List Int) (hl : ns.length ≤ 63) : ∃ outs, F_law [.list (ns.map .int)] = .ok (.bool true) outs := by
  obtain ⟨o1, r1⟩ := isT_ok right1
  obtain ⟨o2, r2⟩ := isT_ok right2
  obtain ⟨o3, r3⟩ := isD_ok pl_is
  have p1 := pl_len
  have p2 := pl_all
  obtain ⟨c0, hc0⟩ := cell_ok ns 0 (by decide)
  let L : PyData := .list (ns.map .int)
  have step : ∀ d ∈ (c0 :: cutL ns (some 1) (some 3)).map PyData.int, ∀ G, In L G → ∃ G1 G2, bind1 1 d G = some G1 ∧ (sSeq (sAsg (bindT [2, 3, 4]) (mOp2 opIx (mCall F_pair_lengths [.e (mC (.int 2))]) (mCallT F__law_draw (mCall F__law_pen [.e (mVar 1)]) (aCons (mC (.int 120)) aNil)))) (sIf (bB (mOp2 opNe (mCall F__law_by_ways [.e (mLst (aCons (mVar 2) (aCons (mVar 3) aNil)))]) (mVar 4))) (sRet ((mC (.bool false)))) sNext)) G1 = .nx G2 ∧ In L G2 := by
    intro d hd G hG
    obtain ⟨c, hc, rfl⟩ := List.mem_map.mp hd
    obtain ⟨s2, s3, s4, e1, hs⟩ := bind1_in hG (.int c)
    obtain ⟨a, b, hb, ha, hp⟩ := pen_ok c
    obtain ⟨v, a', v0, v1, hv⟩ := draw_ok (a := a) (b := b) (n := 120) hb (by decide) (by decide)
    obtain ⟨e, he, hix⟩ := opIx_l (xs := PL) v0 (by rw [p1]; exact v1)
    obtain ⟨x, y, z, w, o, rfl, hw, hne⟩ := chk_ok (List.all_eq_true.mp p2 e he)
    refine ⟨_, [.val L, .val (.int c), .val x, .val y, .val z], e1, ?_, ⟨_, _, _, _, rfl, fun s q => ?_⟩⟩
    · refine sSeq_nx (sAsg_ok (mOp2_ok (mCallE_ok (evE_ok rfl rfl) r3) (mCallT_ok (mCallE_ok (evE_ok rfl rfl) (pen_eq ▸ hp)) rfl rfl (draw_eq ▸ hv)) hix) (bindT_in hs)) (sIf_f (bB_ok (mOp2_ok (mCallE_ok (evE_ok rfl rfl) hw) rfl hne)) rfl)
    · rcases q with rfl | rfl | rfl | rfl <;> exact .inr ⟨_, rfl⟩
  obtain ⟨G', f1, f2⟩ := forLoop_all _ [.val L, .un, .un, .un, .un] step ⟨_, _, _, _, rfl, fun s q => by rcases q with rfl | rfl | rfl | rfl <;> exact .inl rfl⟩
  have hadd : opAdd (.list [.int c0]) (.list (cutL (ns.map PyData.int) (some 1) (some 3))) = some (.list ((c0 :: cutL ns (some 1) (some 3)).map PyData.int)) := by
    have hz : szOk ([PyData.int c0].length + (cutL (ns.map PyData.int) (some 1) (some 3)).length) = true := by
      have h1 := cutL_len (ns.map PyData.int) (some 1) (some 3)
      rw [List.length_map] at h1
      refine Nat.ble_eq.mpr ?_
      simp only [List.length_cons, List.length_nil]
      omega
    show (if szOk ([PyData.int c0].length + (cutL (ns.map PyData.int) (some 1) (some 3)).length) = true then some (PyData.list ([PyData.int c0] ++ cutL (ns.map PyData.int) (some 1) (some 3))) else none) = _
    rw [if_pos hz, cutL_ints]
    rfl
  have e0 : aCons (mCall F__law_cell [.e (mVar 0), .e (mC (.int 0))]) aNil [.val L, .un, .un, .un, .un] = .ok ([.int c0], [.val L, .un, .un, .un, .un]) := aCons_ok (mCallE_ok (evE_ok rfl (evE_ok rfl rfl)) (cell_eq ▸ hc0)) rfl
  have e1 : mLst (aCons (mCall F__law_cell [.e (mVar 0), .e (mC (.int 0))]) aNil) [.val L, .un, .un, .un, .un] = .ok (.list [.int c0], [.val L, .un, .un, .un, .un]) := by
    unfold mLst
    rw [e0]
    rfl
  have e2 : mSl (mVar 0) (pSome (mC (.int 1))) (pSome (mC (.int 3))) [.val L, .un, .un, .un, .un] = .ok (.list (cutL (ns.map PyData.int) (some 1) (some 3)), [.val L, .un, .un, .un, .un]) := rfl
  refine ⟨_, bodyF_rt (d := .bool true) (G := G') (sSeq_nx (sIf_f (bOr_f (G1 := [.val L, .un, .un, .un, .un]) (bNot_ok (z := true) (bB_ok (mCallE_ok (evE_ok rfl rfl) r1))) (bNot_ok (z := true) (bB_ok (mCallE_ok (evE_ok rfl rfl) r2)))) rfl) (sSeq_nx (sFor_ok (iSeqD_l (mOp2_ok e1 e2 hadd)) f1) rfl))⟩
end Ml

namespace Ml
open PySem PySem.Spec PyProof.Rows L2 Mo
def hd_set_behind : He.DefD := ⟨("set_behind", none), "set_behind", "set_behind", defArgs s_set_behind, defBody s_set_behind, defScope s_set_behind, [], []⟩
def hd_full_set : He.DefD := ⟨("full_set", none), "full_set", "full_set", defArgs s_full_set, defBody s_full_set, defScope s_full_set, [], []⟩
def hd_rows_of : He.DefD := ⟨("rows_of", none), "rows_of", "rows_of", defArgs s_rows_of, defBody s_rows_of, defScope s_rows_of, [], []⟩
def hd_all_marks : He.DefD := ⟨("all_marks", none), "all_marks", "all_marks", defArgs s_all_marks, defBody s_all_marks, defScope s_all_marks, [], []⟩
def hd_length_of : He.DefD := ⟨("length_of", none), "length_of", "length_of", defArgs s_length_of, defBody s_length_of, defScope s_length_of, [], []⟩
def hd_pairs_of : He.DefD := ⟨("pairs_of", none), "pairs_of", "pairs_of", defArgs s_pairs_of, defBody s_pairs_of, defScope s_pairs_of, [], []⟩
def hd_pair_lengths : He.DefD := ⟨("pair_lengths", none), "pair_lengths", "pair_lengths", defArgs s_pair_lengths, defBody s_pair_lengths, defScope s_pair_lengths, [], []⟩
def hd__law_cell : He.DefD := ⟨("_law_cell", none), "_law_cell", "_law_cell", defArgs s__law_cell, defBody s__law_cell, defScope s__law_cell, [], []⟩
def hd__law_pen : He.DefD := ⟨("_law_pen", none), "_law_pen", "_law_pen", defArgs s__law_pen, defBody s__law_pen, defScope s__law_pen, [], []⟩
def hd__law_draw : He.DefD := ⟨("_law_draw", none), "_law_draw", "_law_draw", defArgs s__law_draw, defBody s__law_draw, defScope s__law_draw, [], []⟩
def hd__law_whole : He.DefD := ⟨("_law_whole", none), "_law_whole", "_law_whole", defArgs s__law_whole, defBody s__law_whole, defScope s__law_whole, [], []⟩
def hd__law_times : He.DefD := ⟨("_law_times", none), "_law_times", "_law_times", defArgs s__law_times, defBody s__law_times, defScope s__law_times, [], []⟩
def hd__law_columns : He.DefD := ⟨("_law_columns", none), "_law_columns", "_law_columns", defArgs s__law_columns, defBody s__law_columns, defScope s__law_columns, [], []⟩
def hd__law_all : He.DefD := ⟨("_law_all", none), "_law_all", "_law_all", defArgs s__law_all, defBody s__law_all, defScope s__law_all, [], []⟩
def hd__law_length : He.DefD := ⟨("_law_length", none), "_law_length", "_law_length", defArgs s__law_length, defBody s__law_length, defScope s__law_length, [], []⟩
def hd__law_due : He.DefD := ⟨("_law_due", none), "_law_due", "_law_due", defArgs s__law_due, defBody s__law_due, defScope s__law_due, [], []⟩
def hd__law_right : He.DefD := ⟨("_law_right", none), "_law_right", "_law_right", defArgs s__law_right, defBody s__law_right, defScope s__law_right, [], []⟩
def hd__law_by_ways : He.DefD := ⟨("_law_by_ways", none), "_law_by_ways", "_law_by_ways", defArgs s__law_by_ways, defBody s__law_by_ways, defScope s__law_by_ways, [], []⟩
def hd_law : He.DefD := ⟨("law", none), "law", "law", defArgs s_law, defBody s_law, defScope s_law, [], []⟩
def hfn : List He.DefD := [hd_set_behind, hd_full_set, hd_rows_of, hd_all_marks, hd_length_of, hd_pairs_of, hd_pair_lengths, hd__law_cell, hd__law_pen, hd__law_draw, hd__law_whole, hd__law_times, hd__law_columns, hd__law_all, hd__law_length, hd__law_due, hd__law_right, hd__law_by_ways, hd_law]
def hfa : List He.Fa := [.glo "set_behind", .glo "full_set", .glo "rows_of", .glo "all_marks", .glo "length_of", .glo "pairs_of", .glo "pair_lengths", .glo "_law_cell", .glo "_law_pen", .glo "_law_draw", .glo "_law_whole", .glo "_law_times", .glo "_law_columns", .glo "_law_all", .glo "_law_length", .glo "_law_due", .glo "_law_right", .glo "_law_by_ways", .glo "law", .free "all", .free "any", .free "bool", .free "divmod", .free "enumerate", .free "int", .free "isinstance", .free "len", .free "list", .free "max", .free "range", .free "set", .free "sorted", .free "sum", .free "tuple"]
def hnames0 : List PySem.Str := ["set_behind", "full_set", "rows_of", "all_marks", "length_of", "pairs_of", "pair_lengths", "_law_cell", "_law_pen", "_law_draw", "_law_whole", "_law_times", "_law_columns", "_law_all", "_law_length", "_law_due", "_law_right", "_law_by_ways"]
def hnames : List PySem.Str := hnames0
abbrev hR : PySem.W.OpenRow := PySem.W.OpenLaw.row PySem.Challenge.rw_noughtways_k69_lengths_of_pairs
abbrev hhk : PySem.W.Hook := He.hookD 4 hfa hfn
def hob (s : PySem.W.SharedT) : He.AlD := He.obsDG 4 hfa hfn (HandSHeadRun.getT s)
theorem hrun (w : World) : HandSHeadRun.RunEq hR (PySem.W.view hR.prog [22]) hhk hob 4000 hnames w := by
  intro os
  kernel_rfl
theorem facts {K : PySem.W.Frag} {h : Heap} {mg : Str → Option Value} (X : K.In h) (G : h.Ns mainGlobals mg) (c : He.SaysD hfa hfn K) : Nonempty (Fx K mg) := by
  obtain ⟨d0, D0⟩ := c.def_ 0 (d := hd_set_behind) rfl
  obtain ⟨d1, D1⟩ := c.def_ 1 (d := hd_full_set) rfl
  obtain ⟨d2, D2⟩ := c.def_ 2 (d := hd_rows_of) rfl
  obtain ⟨d3, D3⟩ := c.def_ 3 (d := hd_all_marks) rfl
  obtain ⟨d4, D4⟩ := c.def_ 4 (d := hd_length_of) rfl
  obtain ⟨d5, D5⟩ := c.def_ 5 (d := hd_pairs_of) rfl
  obtain ⟨d6, D6⟩ := c.def_ 6 (d := hd_pair_lengths) rfl
  obtain ⟨d7, D7⟩ := c.def_ 7 (d := hd__law_cell) rfl
  obtain ⟨d8, D8⟩ := c.def_ 8 (d := hd__law_pen) rfl
  obtain ⟨d9, D9⟩ := c.def_ 9 (d := hd__law_draw) rfl
  obtain ⟨d10, D10⟩ := c.def_ 10 (d := hd__law_whole) rfl
  obtain ⟨d11, D11⟩ := c.def_ 11 (d := hd__law_times) rfl
  obtain ⟨d12, D12⟩ := c.def_ 12 (d := hd__law_columns) rfl
  obtain ⟨d13, D13⟩ := c.def_ 13 (d := hd__law_all) rfl
  obtain ⟨d14, D14⟩ := c.def_ 14 (d := hd__law_length) rfl
  obtain ⟨d15, D15⟩ := c.def_ 15 (d := hd__law_due) rfl
  obtain ⟨d16, D16⟩ := c.def_ 16 (d := hd__law_right) rfl
  obtain ⟨d17, D17⟩ := c.def_ 17 (d := hd__law_by_ways) rfl
  obtain ⟨d18, D18⟩ := c.def_ 18 (d := hd_law) rfl
  exact ⟨{
    a_set_behind := _, d_set_behind := d0, D_set_behind := D0, g_set_behind := He.glo_ok X G (c.fact 0 (f := .glo "set_behind") rfl),
    a_full_set := _, d_full_set := d1, D_full_set := D1, g_full_set := He.glo_ok X G (c.fact 1 (f := .glo "full_set") rfl),
    a_rows_of := _, d_rows_of := d2, D_rows_of := D2, g_rows_of := He.glo_ok X G (c.fact 2 (f := .glo "rows_of") rfl),
    a_all_marks := _, d_all_marks := d3, D_all_marks := D3, g_all_marks := He.glo_ok X G (c.fact 3 (f := .glo "all_marks") rfl),
    a_length_of := _, d_length_of := d4, D_length_of := D4, g_length_of := He.glo_ok X G (c.fact 4 (f := .glo "length_of") rfl),
    a_pairs_of := _, d_pairs_of := d5, D_pairs_of := D5, g_pairs_of := He.glo_ok X G (c.fact 5 (f := .glo "pairs_of") rfl),
    a_pair_lengths := _, d_pair_lengths := d6, D_pair_lengths := D6, g_pair_lengths := He.glo_ok X G (c.fact 6 (f := .glo "pair_lengths") rfl),
    a__law_cell := _, d__law_cell := d7, D__law_cell := D7, g__law_cell := He.glo_ok X G (c.fact 7 (f := .glo "_law_cell") rfl),
    a__law_pen := _, d__law_pen := d8, D__law_pen := D8, g__law_pen := He.glo_ok X G (c.fact 8 (f := .glo "_law_pen") rfl),
    a__law_draw := _, d__law_draw := d9, D__law_draw := D9, g__law_draw := He.glo_ok X G (c.fact 9 (f := .glo "_law_draw") rfl),
    a__law_whole := _, d__law_whole := d10, D__law_whole := D10, g__law_whole := He.glo_ok X G (c.fact 10 (f := .glo "_law_whole") rfl),
    a__law_times := _, d__law_times := d11, D__law_times := D11, g__law_times := He.glo_ok X G (c.fact 11 (f := .glo "_law_times") rfl),
    a__law_columns := _, d__law_columns := d12, D__law_columns := D12, g__law_columns := He.glo_ok X G (c.fact 12 (f := .glo "_law_columns") rfl),
    a__law_all := _, d__law_all := d13, D__law_all := D13, g__law_all := He.glo_ok X G (c.fact 13 (f := .glo "_law_all") rfl),
    a__law_length := _, d__law_length := d14, D__law_length := D14, g__law_length := He.glo_ok X G (c.fact 14 (f := .glo "_law_length") rfl),
    a__law_due := _, d__law_due := d15, D__law_due := D15, g__law_due := He.glo_ok X G (c.fact 15 (f := .glo "_law_due") rfl),
    a__law_right := _, d__law_right := d16, D__law_right := D16, g__law_right := He.glo_ok X G (c.fact 16 (f := .glo "_law_right") rfl),
    a__law_by_ways := _, d__law_by_ways := d17, D__law_by_ways := D17, g__law_by_ways := He.glo_ok X G (c.fact 17 (f := .glo "_law_by_ways") rfl),
    a_law := _, d_law := d18, D_law := D18, g_law := He.glo_ok X G (c.fact 18 (f := .glo "law") rfl),
    n_all := He.free_ok X G (c.fact 19 (f := .free "all") rfl),
    n_any := He.free_ok X G (c.fact 20 (f := .free "any") rfl),
    n_bool := He.free_ok X G (c.fact 21 (f := .free "bool") rfl),
    n_divmod := He.free_ok X G (c.fact 22 (f := .free "divmod") rfl),
    n_enumerate := He.free_ok X G (c.fact 23 (f := .free "enumerate") rfl),
    n_int := He.free_ok X G (c.fact 24 (f := .free "int") rfl),
    n_isinstance := He.free_ok X G (c.fact 25 (f := .free "isinstance") rfl),
    n_len := He.free_ok X G (c.fact 26 (f := .free "len") rfl),
    n_list := He.free_ok X G (c.fact 27 (f := .free "list") rfl),
    n_max := He.free_ok X G (c.fact 28 (f := .free "max") rfl),
    n_range := He.free_ok X G (c.fact 29 (f := .free "range") rfl),
    n_set := He.free_ok X G (c.fact 30 (f := .free "set") rfl),
    n_sorted := He.free_ok X G (c.fact 31 (f := .free "sorted") rfl),
    n_sum := He.free_ok X G (c.fact 32 (f := .free "sum") rfl),
    n_tuple := He.free_ok X G (c.fact 33 (f := .free "tuple") rfl) }⟩
end Ml
open PySem PySem.W PySem.Calls PyProof.Rows
theorem PySem.Challenge.cw_noughtways_k69_lengths_of_pairs_holds : PySem.Challenge.rw_noughtways_k69_lengths_of_pairs.Holds := by
  w_on; o_law
  refine HandSHeadRun.head_any (r := OpenLaw.row PySem.Challenge.rw_noughtways_k69_lengths_of_pairs) (q := view (OpenLaw.row PySem.Challenge.rw_noughtways_k69_lengths_of_pairs).prog [22]) (H := Ml.hhk) (ob := Ml.hob) (M := 4000) (loose := Ml.hnames) (d := HandSHeadRun.topDef (OpenLaw.row PySem.Challenge.rw_noughtways_k69_lengths_of_pairs).prog 22) (kwd := []) (fun s => He.obsDG_eq (HandSHeadRun.getT_eq s))
    (by kernel_rfl) (fun s => by kernel_rfl) Ml.hrun (by kernel_rfl) (by kernel_rfl) (by kernel_rfl) (by rfl) (by first | assumption | decide +kernel) (by decide +kernel) ⟨rfl, rfl, rfl, rfl, rfl, by decide +kernel⟩ ?hw ?hc
  case hw => w_witness2
  case hc =>
    refine L2.walk_ofE (l := PySem.Challenge.rw_noughtways_k69_lengths_of_pairs) (n := 63) (k := 5) (x := "_law_script") (CX := Mo.CXa (PySem.Challenge.rw_noughtways_k69_lengths_of_pairs).prog) rfl (by decide) (by kernel_rfl) ⟨rfl, by decide, by decide⟩ ?F Mo.cxa_no
    intro w mg fa h Y G hmg0
    obtain ⟨K, KX, c⟩ := Y
    have hmg : mg ("law" : PySem.Str) = some (.ref fa) := by
      have e : (HandSHeadRun.topDef (OpenLaw.row PySem.Challenge.rw_noughtways_k69_lengths_of_pairs).prog 22).name = ("law" : PySem.Str) := by kernel_rfl
      rw [← e]
      exact hmg0
    obtain ⟨T⟩ := Ml.facts KX G c
    have e := hmg.symm.trans T.g_law
    injection e with e
    injection e with e
    subst e
    have b := L2.FunD.bindsA (ps := ["_law_script"]) T.D_law fun _ _ _ _ _ _ us hl => match us, hl with | [_], _ => rfl
    refine ⟨K, T.d_law, Mo.spF ⟨(PySem.Challenge.rw_noughtways_k69_lengths_of_pairs).prog, w, K, mg⟩ [.val] false Ml.F_law, KX, fun s v => b s [v] rfl, fun H a ns hl _ hS => ?_, fun base _ _ => Mo.fn_any (Ml.ok_law T)⟩
    obtain ⟨outs, ho⟩ := Ml.plain ns hl
    exact Mo.law_sp hS ho

