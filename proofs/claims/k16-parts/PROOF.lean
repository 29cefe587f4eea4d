import PyProof.Rows.All
import Wide.All
import OpenK.AllK
import Wide.FinOn
import HandS.ForMost
import HandS.TupAny
import HandS.Conv
import PyProof.EqAt
import PyProof.EqKinds
import PyProof.TupleCall
import HandS.ForExc
import HandS.Flow
import HandS.Style
import HandS.Wide
import HandS.IsInst
import HandS.Zip
import HandS.Deep
import HandS.StrMore
import HandS.DictComp
import HandS.SortInts
import HandS.NoneIn
import HandS.Rev
import HandS.Walk
import HandS.CallSlots
import HandS.ExcOwn
import HandS.ExcIs
import HandS.TryOnly
import HandS.Head2
import HandS.HeadHook2
import HandS.HeadEnd
import HandS.Defaults
import HandS.WordsDict
import KE.GoesMore
import PyProof.ListNew
import PyProof.ReprRoads
import KE.KDictPairs
import HandS.Codes
import PySem.Challenge.RW_stripewalk_k16_whole_parts_of_columns
set_option Elab.async false
set_option linter.all false
set_option maxRecDepth 100000
set_option maxHeartbeats 4000000
/-! ## 0. Tuples that are known to bear no dict of their own -/
namespace DL
open PySem PySem.Spec PyProof.Rows L2
/-- a tuple without attributes -/
def SqP (K : PySem.W.Frag) (H : Hp) (a : Addr) (xs : List V) : Prop :=
  (∃ ob, H a = some (.frz ob (.tup xs)) ∧ ob.dict = none) ∨
    ∃ (ob : Obj) (arr : Array Value) (m : Nat), K.lookup a = some ob ∧ ob.cls = .type "tuple" ∧ ob.dict = none ∧ ob.data = .seq arr m ∧ arr.size ≤ sizeLine ∧ Vals xs arr.toList
theorem SqP.sq {K : PySem.W.Frag} {H : Hp} {a : Addr} {xs : List V} (h : SqP K H a xs) : SqT K H a xs := by
  rcases h with ⟨ob, e, _⟩ | ⟨ob, arr, m, e1, e2, _, e4, e5, e6⟩
  · exact .inl (.inr ⟨ob, e⟩)
  · exact .inr ⟨ob, arr, m, e1, e2, e4, e5, e6⟩
/-- the wish, a new tuple of these being told -/
def NewP (H : Hp) (xs : List V) (Q : VK) : Prop := ∀ (p : Addr) (ob : Obj), H p = none → ob.dict = none → Q (.ref p) (upd H p (.frz ob (.tup xs)))
section
variable {X : Cx} {pins : List (Addr × Obj)} {σ : L2.St} {H : Hp} {s : Shared}
theorem laidP {xs : List V} {its : List Value} {Q : VK} {tk : Nat} (I : Inv X pins σ H s) (rv : Vals xs its) (hz : xs.length ≤ sizeLine) (go : NewP H xs Q) :
    EP X pins σ Q (.ref s.heap.objs.size) { s with heap := s.heap.push { cls := .type "tuple", data := .seq its.toArray }, toks := tk } := by
  have got : (s.heap.push { cls := .type "tuple", data := .seq its.toArray }).get? s.heap.objs.size = some { cls := .type "tuple", data := .seq its.toArray } := Heap.get?_push_size _ rfl
  refine ⟨.ref s.heap.objs.size, upd H s.heap.objs.size (.frz { cls := .type "tuple", data := .seq its.toArray } (.tup xs)), I.laid (t' := tk) (fun _ _ z => Heap.get?_push_of_some _ z) (Nat.le_refl _) ?_, rfl, go _ _ (I.hok.fresh (Nat.le_refl _)) rfl⟩
  exact ⟨got, hz, its, rv, _, got, rfl, _, rfl⟩
end
section
variable {X : Cx} {es : List Expr} {pos : Pos} {ta : TA}
def tTupP (t : TA) : TE := fun σ H Q => t σ H fun xs G => xs.length ≤ sizeLine ∧ NewP G xs Q
theorem pe_tupP {j : Nat} (ha : PA X es ta) : PE X (.Tuple es j pos) (tTupP ta) := by
  constructor
  intro pins s σ H Q I go
  exact wpAny_Tuple_spliced (thn (ha.run pos pins s σ H _ I go) fun us t ⟨xs, G, J, rv, hz, w⟩ => ⟨rv.length ▸ hz, laidP J rv hz w⟩)
/-- t + u -/
def rCatP (K : PySem.W.Frag) : R2 := fun x y H Q => ∃ a b xs ys, x = .ref a ∧ y = .ref b ∧ SqT K H a xs ∧ SqT K H b ys ∧ xs.length + ys.length ≤ sizeLine ∧
  (xs = [] → Q (.ref b) H) ∧ (xs ≠ [] → ys = [] → Q (.ref a) H) ∧ (xs ≠ [] → ys ≠ [] → NewP H (xs ++ ys) Q)
theorem op_catP : OpR X (binaryOp .Add) (rCatP X.K) := by
  rintro pins s σ H x y v u Q I rx ry ⟨a, b, xs, ys, ex, ey, ha, hb, hz, w0, w1, w2⟩
  subst ex; subst ey
  obtain rfl : v = .ref a := rx
  obtain rfl : u = .ref b := ry
  obtain ⟨us, rx', pa, _⟩ := I.tuple ha
  obtain ⟨ws, ry', pb, _⟩ := I.tuple hb
  rcases xs with _ | ⟨x0, xs⟩
  · cases rx'
    exact cat_tup0 pa pb ⟨.ref b, H, I, rfl, w0 rfl⟩
  · refine HT.cat_tup pa pb (fun e => absurd (rx'.nil_iff.mp e) (List.cons_ne_nil _ _)) (fun e => ⟨.ref a, H, I, rfl, w1 (List.cons_ne_nil _ _) (ry'.nil_iff.mp e)⟩) (fun e => ?_) (by rw [← rx'.length, ← ry'.length]; exact hz)
    exact laidP (tk := s.toks) I (rx'.append ry') (by rw [List.length_append]; exact hz) (w2 (List.cons_ne_nil _ _) fun z => e (ry'.nil_iff.mpr z))
/-- t[lo:hi] -/
def rSlP (K : PySem.W.Frag) : V → Option Int → Option Int → Hp → VK → Prop := fun x lo hi H Q => ∃ a xs, x = .ref a ∧ SqT K H a xs ∧
  (HT.sIx xs.length 0 lo = 0 ∧ HT.sIx xs.length xs.length hi = xs.length → Q (.ref a) H) ∧ (¬ (HT.sIx xs.length 0 lo = 0 ∧ HT.sIx xs.length xs.length hi = xs.length) → NewP H (cutV xs lo hi) Q)
theorem sl_tupP : SlR X (rSlP X.K) := by
  rintro pins s σ H x v vl vu lo hi sl Q I rx hs pl pu ⟨a, xs, ex, ha, w1, w2⟩
  subst ex
  obtain rfl : v = .ref a := rx
  obtain ⟨us, rv, pa, hz⟩ := I.tuple ha
  have many : us.toArray.size = xs.length := by rw [List.size_toArray, rv.length]
  refine ⟨"tuple", _, PyProof.Rows.slot_tuple_getitem.lookup, pa.typeIs, ?_⟩
  rcases Classical.em (HT.sIx xs.length 0 lo = 0 ∧ HT.sIx xs.length xs.length hi = xs.length) with all | part
  · refine getItem_tuple_whole pa hs pl pu (by rw [many]; exact all) ⟨.ref a, H, I, rfl, w1 all⟩
  · refine HT.getItem_tuple_cut pa hs pl pu (by rw [many]; exact part) ?_ (by rw [many]; exact hz)
    rw [many]
    exact laidP (tk := s.toks) I ((rv.drop (HT.sIx xs.length 0 lo)).take (HT.sIx xs.length xs.length hi - HT.sIx xs.length 0 lo)) (Nat.le_trans (cutV_length xs lo hi) hz) (w2 part)
/-- tuple(x) of a list, or of a tuple -/
theorem call_tupP : CallR X (.type "tuple") (fun xs H Q => ∃ p ys, xs = [.ref p] ∧ ((SqL X.K H p ys ∧ NewP H ys Q) ∨ (SqT X.K H p ys ∧ Q (.ref p) H))) := by
  rintro pins s σ H xs us Q I r ⟨p, ys, ex, h⟩
  subst ex
  obtain ⟨u, eu, ru⟩ := vals1 r
  subst eu
  obtain rfl : u = .ref p := ru
  rcases h with ⟨hl, w⟩ | ⟨ht, w⟩
  · obtain ⟨its, rv, pl, hz⟩ := I.list hl
    refine call_tuple_list pl.isList (fun h' kp => ?_) (by rw [List.size_toArray, ← rv.length]; exact hz)
    have J : Inv X pins σ H { s with heap := h' } := I.kept (t' := s.toks) kp
    exact laidP (tk := s.toks) J rv hz w
  · obtain ⟨its, rv, pt, _⟩ := I.tuple ht
    exact call_tuple_same pt ⟨.ref p, H, I, rfl, w⟩
/-- tuple(range(..)) -/
def tTupRgP (te : L2.St → Hp → (Int → Int → Hp → Prop) → Prop) : TE := fun σ H Q => te σ H fun a b G => RgOk a b ∧ NewP G (rgV a b) Q
theorem pe_tupRgP {p : Pos} {e : Expr} {te : L2.St → Hp → (Int → Int → Hp → Prop) → Prop} (hc : X.calm = true) (hg : Gl X "tuple") (hm : X.mg "tuple" = none) (he : PRg X e te) (na : starEach [e] X.env = (false, eval e X.env) :: starEach [] X.env) :
    PE X (.Call (.Name "tuple" p) [e] [] pos) (tTupRgP te) := by
  constructor
  intro pins s σ H Q I go
  refine Call_ (ld_blt I hg hm boot_tuple (PyProof.Rows.callWith_type1 (args_cons (thn (he pins s σ H _ I go) fun x t ⟨r, a, b, c, d, f, G, ex, hr, J, ok, w⟩ => args_nil ?_) na) na))
  subst ex
  have ok' := ok
  obtain ⟨k1, k2, k3, k4, k5⟩ := ok'
  refine call_tuple_range (n := (b - a).toNat) (J.ok.hd hc) hr (small_one k1 k2 k3 k4) (rangeSize_nat a b) k5 fun h' tk acc hk hi => ?_
  have J2 : Inv X pins σ G { t with heap := h', toks := tk } := J.kept hk
  have fin := laidP (tk := tk) J2 (vals_rg hi) (by rw [rgV_length, sizeLine_eq]; omega) w
  rw [Array.toArray_toList] at fin
  exact fin
end
end DL

namespace DL
open PySem PySem.Spec PyProof.Rows L2

/-! ## 1. Data -/
inductive D where
  | non | bl (b : Bool) | int (i : Int) | str (s : List Nat) | tup (ds : List D) | tpl (ds : List D) | lst (ds : List D) | ref (a : Addr) | rnd | scr (ds : List D) | ty (n : String) | fn (i : Nat)

/-- a live object -/
inductive HC where
  | lst (ds : List D)
  | dct (kvs : List (D × D))
  | ins (C : Nat) (fs : List (Str × D))

abbrev HD := Addr → Option HC
def updD (H : HD) (a : Addr) (c : HC) : HD := fun b => if b = a then some c else H b
def delD (H : HD) (a : Addr) : HD := fun b => if b = a then none else H b
def emp : HD := fun _ => none
@[simp] theorem updD_same {H : HD} {a : Addr} {c : HC} : updD H a c a = some c := by unfold updD; rw [if_pos rfl]
theorem updD_ne {H : HD} {a b : Addr} {c : HC} (h : b ≠ a) : updD H a c b = H b := by unfold updD; rw [if_neg h]
@[simp] theorem updD_updD {H : HD} {a : Addr} {c c' : HC} : updD (updD H a c) a c' = updD H a c' := by
  funext b; unfold updD; split <;> rfl
@[simp] theorem delD_same {H : HD} {a : Addr} : delD H a a = none := by unfold delD; rw [if_pos rfl]
theorem delD_ne {H : HD} {a b : Addr} (h : b ≠ a) : delD H a b = H b := by unfold delD; rw [if_neg h]
theorem delD_updD {H : HD} {a : Addr} {c : HC} (h : H a = none) : delD (updD H a c) a = H := by
  funext b; unfold delD updD; split
  · rename_i e; rw [e, h]
  · rfl
theorem updD_comm {H : HD} {a b : Addr} {c d : HC} (h : a ≠ b) : updD (updD H a c) b d = updD (updD H b d) a c := by
  funext x; unfold updD; split
  · rename_i e; rw [if_neg (by rw [e]; exact fun z => h z.symm)]
  · rfl

def mkStr (l : List Nat) : Str := ⟨l.toArray⟩
theorem mkStr_inj {a b : List Nat} (h : mkStr a = mkStr b) : a = b := by
  have := congrArg (fun s => s.cps.toList) h
  simpa [mkStr] using this
theorem mkStr_length (a : List Nat) : (mkStr a).length = a.length := by simp [mkStr, Str.length]
theorem mkStr_append (a b : List Nat) : mkStr a ++ mkStr b = mkStr (a ++ b) := by
  show Str.append _ _ = _
  simp [mkStr, Str.append]
theorem mkStr_of (s : Str) : mkStr s.cps.toList = s := by simp [mkStr]

/-! ## 2. What stands for what -/
/-- a list of the written part -/
def KPart (K : PySem.W.Frag) (a : Addr) (xs : List V) : Prop :=
  ∃ (o : Obj) (its : Array Value) (n : Nat), K.lookup a = some o ∧ o.cls = .type "list" ∧ o.dict = none ∧ o.data = .seq its n ∧ its.size ≤ sizeLine ∧ Vals xs its.toList
/-- a list that stays as it is -/
def LAt (K : PySem.W.Frag) (S : Addr → Option Bool) (H : Hp) (G : HD) (a : Addr) (vs : List V) : Prop :=
  (H a = some (.lst vs) ∧ G a = none ∧ S a = none) ∨ (∃ o, H a = some (.frz o (.lst vs))) ∨ KPart K a vs
theorem LAt.sq {K : PySem.W.Frag} {S : Addr → Option Bool} {H : Hp} {G : HD} {a : Addr} {vs : List V} (h : LAt K S H G a vs) : SqL K H a vs := by
  rcases h with ⟨h, _, _⟩ | ⟨o, h⟩ | h
  · exact .inl (.inl h)
  · exact .inl (.inr ⟨o, h⟩)
  · exact .inr h
section
variable (K : PySem.W.Frag) (fnm : Nat → Option Addr) (clm : Nat → Option Addr) (S : Addr → Option Bool) (H : Hp) (G : HD)
mutual
inductive Dat : V → D → Prop
  | non : Dat .non .non
  | bl (b : Bool) : Dat (.bl b) (.bl b)
  | int (i : Int) : Dat (.int i) (.int i)
  | str (s : List Nat) : PyData.strOk (mkStr s) = true → s.length ≤ sizeLine → Dat (.str (mkStr s)) (.str s)
  | tup {a : Addr} {vs : List V} {ds : List D} : SqP K H a vs → vs.length ≤ sizeLine → DatAll vs ds → Dat (.ref a) (.tup ds)
  | tpl {a : Addr} {vs : List V} {ds : List D} : SqT K H a vs → vs.length ≤ sizeLine → DatAll vs ds → Dat (.ref a) (.tpl ds)
  | lst {a : Addr} {vs : List V} {ds : List D} : H a = some (.lst vs) → G a = none → S a = none → vs.length ≤ sizeLine → DatAll vs ds → Dat (.ref a) (.lst ds)
  | ref (a : Addr) : Dat (.ref a) (.ref a)
  | rnd (a : Addr) : S a = some true → Dat (.ref a) .rnd
  | scr {a : Addr} {vs : List V} {ds : List D} : ((∃ o, H a = some (.frz o (.lst vs))) ∨ KPart K a vs) → vs.length ≤ sizeLine → DatAll vs ds → Dat (.ref a) (.scr ds)
  | ty (n : String) : Dat (.ty n) (.ty n)
  | fn {i : Nat} {f : Addr} : fnm i = some f → Dat (.ref f) (.fn i)
inductive DatAll : List V → List D → Prop
  | nil : DatAll [] []
  | cons {v : V} {d : D} {vs : List V} {ds : List D} : Dat v d → DatAll vs ds → DatAll (v :: vs) (d :: ds)
end
end
theorem DatAll.length {K fnm S H G} : ∀ {vs : List V} {ds : List D}, DatAll K fnm S H G vs ds → vs.length = ds.length
  | _, _, .nil => rfl
  | _, _, .cons _ t => by simp [DatAll.length t]
theorem DatAll.get {K fnm S H G} : ∀ {vs : List V} {ds : List D} {i : Nat} {d : D}, DatAll K fnm S H G vs ds → ds[i]? = some d → ∃ v, vs[i]? = some v ∧ Dat K fnm S H G v d
  | _, _, _, _, .nil, e => by simp at e
  | _, _, 0, _, .cons r _, e => by simp at e; subst e; exact ⟨_, rfl, r⟩
  | _, _, i + 1, _, .cons _ t, e => by
    obtain ⟨v, h1, h2⟩ := DatAll.get t (by simpa using e)
    exact ⟨v, by simpa using h1, h2⟩
theorem DatAll.get' {K fnm S H G} : ∀ {vs : List V} {ds : List D} {i : Nat} {v : V}, DatAll K fnm S H G vs ds → vs[i]? = some v → ∃ d, ds[i]? = some d ∧ Dat K fnm S H G v d
  | _, _, _, _, .nil, e => by simp at e
  | _, _, 0, _, .cons r _, e => by simp at e; subst e; exact ⟨_, rfl, r⟩
  | _, _, i + 1, _, .cons _ t, e => by
    obtain ⟨v, h1, h2⟩ := DatAll.get' t (by simpa using e)
    exact ⟨v, by simpa using h1, h2⟩
theorem DatAll.append {K fnm S H G} : ∀ {vs ws : List V} {ds es : List D}, DatAll K fnm S H G vs ds → DatAll K fnm S H G ws es → DatAll K fnm S H G (vs ++ ws) (ds ++ es)
  | _, _, _, _, .nil, s => s
  | _, _, _, _, .cons r t, s => .cons r (DatAll.append t s)
theorem DatAll.take {K fnm S H G} : ∀ {vs : List V} {ds : List D} (n : Nat), DatAll K fnm S H G vs ds → DatAll K fnm S H G (vs.take n) (ds.take n)
  | _, _, 0, _ => .nil
  | _, _, _ + 1, .nil => .nil
  | _, _, n + 1, .cons r t => .cons r (DatAll.take n t)
theorem DatAll.drop {K fnm S H G} : ∀ {vs : List V} {ds : List D} (n : Nat), DatAll K fnm S H G vs ds → DatAll K fnm S H G (vs.drop n) (ds.drop n)
  | _, _, 0, r => r
  | _, _, _ + 1, .nil => .nil
  | _, _, n + 1, .cons _ t => DatAll.drop n t
theorem DatAll.set {K fnm S H G} {v : V} {d : D} (r : Dat K fnm S H G v d) : ∀ {vs : List V} {ds : List D} (i : Nat), DatAll K fnm S H G vs ds → DatAll K fnm S H G (vs.set i v) (ds.set i d)
  | _, _, _, .nil => .nil
  | _, _, 0, .cons _ t => .cons r t
  | _, _, i + 1, .cons q t => .cons q (DatAll.set r i t)
theorem DatAll.eraseIdx {K fnm S H G} : ∀ {vs : List V} {ds : List D} (i : Nat), DatAll K fnm S H G vs ds → DatAll K fnm S H G (vs.eraseIdx i) (ds.eraseIdx i)
  | _, _, _, .nil => .nil
  | _, _, 0, .cons _ t => t
  | _, _, i + 1, .cons q t => .cons q (DatAll.eraseIdx i t)
theorem DatAll.dropLast {K fnm S H G} {vs : List V} {ds : List D} (h : DatAll K fnm S H G vs ds) : DatAll K fnm S H G vs.dropLast ds.dropLast := by
  rw [List.dropLast_eq_take, List.dropLast_eq_take, h.length]; exact h.take _
theorem DatAll.reverse {K fnm S H G} : ∀ {vs : List V} {ds : List D}, DatAll K fnm S H G vs ds → DatAll K fnm S H G vs.reverse ds.reverse
  | _, _, .nil => .nil
  | _, _, .cons r t => by rw [List.reverse_cons, List.reverse_cons]; exact (DatAll.reverse t).append (.cons r .nil)
theorem DatAll.rep {K fnm S H G} {vs : List V} {ds : List D} (h : DatAll K fnm S H G vs ds) : ∀ n : Nat, DatAll K fnm S H G (List.replicate n vs).flatten (List.replicate n ds).flatten
  | 0 => .nil
  | n + 1 => by rw [List.replicate_succ, List.replicate_succ, List.flatten_cons, List.flatten_cons]; exact h.append (DatAll.rep h n)
theorem DatAll.nil_iff {K fnm S H G} {vs : List V} {ds : List D} (h : DatAll K fnm S H G vs ds) : vs = [] ↔ ds = [] := by
  cases h <;> simp

/-- a law's stream -/
def RndAt (H : Hp) (G : HD) (S : Addr → Option Bool) (a : Addr) : Prop :=
  ∃ (q : Addr) (ns : List Int) (x k m : Int), H a = some (.lst [.ref q, .int x, .int k, .int m]) ∧ H q = some (.lst (ns.map V.int)) ∧ G q = none ∧ S q = none ∧ 0 ≤ x ∧ 0 ≤ k ∧ k ≤ ns.length ∧ 0 ≤ m ∧ m < 2147483647 ∧ ns.length ≤ sizeLine
def keyD : D → Option Key
  | .int i => some (.inl i)
  | .str s => some (.inr (mkStr s))
  | _ => none
section
variable (K : PySem.W.Frag) (fnm : Nat → Option Addr) (clm : Nat → Option Addr) (S : Addr → Option Bool) (H : Hp) (G : HD)
inductive KvAll : List (Key × V) → List (D × D) → Prop
  | nil : KvAll [] []
  | cons {k : Key} {v : V} {c d : D} {vs : List (Key × V)} {ds : List (D × D)} : keyD c = some k → Dat K fnm S H G (kV k) c → Dat K fnm S H G v d → KvAll vs ds → KvAll ((k, v) :: vs) ((c, d) :: ds)
inductive FsAll : List (Str × V) → List (Str × D) → Prop
  | nil : FsAll [] []
  | cons {x : Str} {v : V} {d : D} {vs : List (Str × V)} {ds : List (Str × D)} : Dat K fnm S H G v d → FsAll vs ds → FsAll ((x, v) :: vs) ((x, d) :: ds)
end
def CellOk (K : PySem.W.Frag) (fnm _clm : Nat → Option Addr) (S : Addr → Option Bool) (H : Hp) (G : HD) (a : Addr) : HC → Prop
  | .lst ds => ∃ vs, H a = some (.lst vs) ∧ vs.length ≤ sizeLine ∧ DatAll K fnm S H G vs ds
  | .dct kvs => ∃ vs, H a = some (.dK vs) ∧ KvAll K fnm S H G vs kvs
  | .ins C fs => ∃ c dx vs, fnm (1000 + C) = some c ∧ H a = some (.ins c dx vs) ∧ FsAll K fnm S H G vs fs
section
variable (K : PySem.W.Frag) (fnm : Nat → Option Addr) (clm : Nat → Option Addr) (S : Addr → Option Bool) (H : Hp) (G : HD)
structure Hel : Prop where
  cell : ∀ a c, G a = some c → CellOk K fnm clm S H G a c
  rnd : ∀ a, S a = some true → G a = none ∧ RndAt H G S a
  res : ∀ a, S a = some false → G a = none ∧ H a ≠ none
end
/-- what a piece of code may do: what is neither owned nor a stream stays -/
structure Step (S : Addr → Option Bool) (H : Hp) (G : HD) (S' : Addr → Option Bool) (H' : Hp) (G' : HD) : Prop where
  stay : ∀ a o, H a = some o → G a = none → S a ≠ some true → H' a = some o
  strm : ∀ a b, S a = some b → S' a = some b
  own : ∀ a, (G' a ≠ none ∨ S' a = some true) → G a ≠ none ∨ S a = some true ∨ H a = none
  res : ∀ a, S' a = some false → S a = some false ∨ H a = none
  there : ∀ a, H' a = none → H a = none
theorem Step.refl {S H G} : Step S H G S H G := ⟨fun _ _ h _ _ => h, fun _ _ h => h, fun _ h => h.elim .inl fun x => .inr (.inl x), fun _ h => .inl h, fun _ h => h⟩
theorem Step.trans {S H G S1 H1 G1 S2 H2 G2} (x : Step S H G S1 H1 G1) (y : Step S1 H1 G1 S2 H2 G2) : Step S H G S2 H2 G2 := by
  refine ⟨fun a o h g s => ?_, fun a b h => y.strm a b (x.strm a b h), fun a h => ?_, fun a h => ?_, fun a h => x.there a (y.there a h)⟩
  · have h1 := x.stay a o h g s
    have n : ¬ (G1 a ≠ none ∨ S1 a = some true) := fun z => by
      rcases x.own a z with q | q | q
      · exact q g
      · exact s q
      · rw [h] at q; cases q
    exact y.stay a o h1 (Classical.byContradiction fun z => n (.inl z)) fun z => n (.inr z)
  · rcases y.own a h with q | q | q
    · exact x.own a (.inl q)
    · exact x.own a (.inr q)
    · exact .inr (.inr (x.there a q))
  · rcases y.res a h with q | q
    · exact x.res a q
    · exact .inr (x.there a q)
section
variable {K : PySem.W.Frag} {fnm clm : Nat → Option Addr} {S S' : Addr → Option Bool} {H H' : Hp} {G G' : HD}
theorem Step.un (st : Step S H G S' H' G') {a : Addr} {o : HO} (h : H a = some o) (g : G a = none) (s : S a = none) : H' a = some o ∧ G' a = none ∧ S' a = none := by
  have n : ¬ (G' a ≠ none ∨ S' a = some true) := fun z => by
    rcases st.own a z with q | q | q
    · exact q g
    · rw [s] at q; cases q
    · rw [h] at q; cases q
  refine ⟨st.stay a o h g (by rw [s]; simp), Classical.byContradiction fun z => n (.inl z), ?_⟩
  cases e : S' a with
  | none => rfl
  | some b =>
    cases b with
    | true => exact absurd (.inr e) n
    | false =>
      rcases st.res a e with q | q
      · rw [s] at q; cases q
      · rw [h] at q; cases q
theorem Hel.notTup (R : Hel K fnm clm S H G) {a : Addr} (h : (∃ vs, H a = some (.tup vs)) ∨ ∃ o u, H a = some (.frz o u)) : G a = none ∧ S a ≠ some true := by
  refine ⟨?_, fun s => ?_⟩
  · cases e : G a with
    | none => rfl
    | some c =>
      have q := R.cell a c e
      cases c with
      | lst ds => obtain ⟨vs, q, _⟩ := q; rcases h with ⟨_, h⟩ | ⟨_, _, h⟩ <;> (rw [h] at q; cases q)
      | dct ds => obtain ⟨vs, q, _⟩ := q; rcases h with ⟨_, h⟩ | ⟨_, _, h⟩ <;> (rw [h] at q; cases q)
      | ins C fs => obtain ⟨_, _, vs, _, q, _⟩ := q; rcases h with ⟨_, h⟩ | ⟨_, _, h⟩ <;> (rw [h] at q; cases q)
  · obtain ⟨_, q, _, _, _, _, e, _⟩ := R.rnd a s
    rcases h with ⟨_, h⟩ | ⟨_, _, h⟩ <;> (rw [h] at e; cases e)
/-- what stays so that what stood for what does so still -/
structure Keep (S : Addr → Option Bool) (H : Hp) (G : HD) (S' : Addr → Option Bool) (H' : Hp) (G' : HD) : Prop where
  un : ∀ a o, H a = some o → G a = none → S a = none → H' a = some o ∧ G' a = none ∧ S' a = none
  tup : ∀ a vs, H a = some (.tup vs) → H' a = some (.tup vs)
  frz : ∀ a o u, H a = some (.frz o u) → H' a = some (.frz o u)
  rnd : ∀ a, S a = some true → S' a = some true
theorem Keep.of (R : Hel K fnm clm S H G) (st : Step S H G S' H' G') : Keep S H G S' H' G' :=
  ⟨fun a o h g s => st.un h g s, fun a vs h => let ⟨g, s⟩ := R.notTup (.inl ⟨vs, h⟩); st.stay a _ h g s, fun a o u h => let ⟨g, s⟩ := R.notTup (.inr ⟨o, u, h⟩); st.stay a _ h g s, fun a h => st.strm a _ h⟩
theorem Keep.sqT (k : Keep S H G S' H' G') {a : Addr} {vs : List V} (h : SqT K H a vs) : SqT K H' a vs := by
  rcases h with (h | ⟨o, h⟩) | h
  · exact .inl (.inl (k.tup a _ h))
  · exact .inl (.inr ⟨o, k.frz a _ _ h⟩)
  · exact .inr h
theorem Keep.sqP (k : Keep S H G S' H' G') {a : Addr} {vs : List V} (h : SqP K H a vs) : SqP K H' a vs := by
  rcases h with ⟨o, h, z⟩ | h
  · exact .inl ⟨o, k.frz a _ _ h, z⟩
  · exact .inr h
theorem LAt.keep (k : Keep S H G S' H' G') {a : Addr} {vs : List V} (h : LAt K S H G a vs) : LAt K S' H' G' a vs := by
  rcases h with ⟨h, g, s⟩ | ⟨o, h⟩ | h
  · exact .inl (k.un _ _ h g s)
  · exact .inr (.inl ⟨o, k.frz _ _ _ h⟩)
  · exact .inr (.inr h)
mutual
theorem Dat.keep (k : Keep S H G S' H' G') : ∀ {v : V} {d : D}, Dat K fnm S H G v d → Dat K fnm S' H' G' v d
  | _, _, .non => .non
  | _, _, .bl b => .bl b
  | _, _, .int i => .int i
  | _, _, .str s h z => .str s h z
  | _, _, .tup h z r => .tup (k.sqP h) z (DatAll.keep k r)
  | _, _, .tpl h z r => .tpl (k.sqT h) z (DatAll.keep k r)
  | _, _, .lst h g s z r => let ⟨h', g', s'⟩ := k.un _ _ h g s; .lst h' g' s' z (DatAll.keep k r)
  | _, _, .ref a => .ref a
  | _, _, .rnd a s => .rnd a (k.rnd a s)
  | _, _, .scr h z r => .scr (h.imp (fun ⟨o, h⟩ => ⟨o, k.frz _ _ _ h⟩) id) z (DatAll.keep k r)
  | _, _, .ty n => .ty n
  | _, _, .fn h => .fn h
theorem DatAll.keep (k : Keep S H G S' H' G') : ∀ {vs : List V} {ds : List D}, DatAll K fnm S H G vs ds → DatAll K fnm S' H' G' vs ds
  | _, _, .nil => .nil
  | _, _, .cons r t => .cons (Dat.keep k r) (DatAll.keep k t)
end
theorem Dat.step (R : Hel K fnm clm S H G) (st : Step S H G S' H' G') {v : V} {d : D} (r : Dat K fnm S H G v d) : Dat K fnm S' H' G' v d := r.keep (.of R st)
theorem DatAll.step (R : Hel K fnm clm S H G) (st : Step S H G S' H' G') {vs : List V} {ds : List D} (r : DatAll K fnm S H G vs ds) : DatAll K fnm S' H' G' vs ds := r.keep (.of R st)
end
section
variable {K : PySem.W.Frag} {fnm clm : Nat → Option Addr} {S S' : Addr → Option Bool} {H H' : Hp} {G G' : HD}
theorem KvAll.keep (k : Keep S H G S' H' G') : ∀ {vs ds}, KvAll K fnm S H G vs ds → KvAll K fnm S' H' G' vs ds
  | _, _, .nil => .nil
  | _, _, .cons e c r t => .cons e (c.keep k) (r.keep k) (KvAll.keep k t)
theorem FsAll.keep (k : Keep S H G S' H' G') : ∀ {vs ds}, FsAll K fnm S H G vs ds → FsAll K fnm S' H' G' vs ds
  | _, _, .nil => .nil
  | _, _, .cons r t => .cons (r.keep k) (FsAll.keep k t)
theorem CellOk.keep (k : Keep S H G S' H' G') {a : Addr} (e : H' a = H a) {c : HC} (h : CellOk K fnm clm S H G a c) : CellOk K fnm clm S' H' G' a c := by
  cases c with
  | lst ds => obtain ⟨vs, h1, h2, h3⟩ := h; exact ⟨vs, e.trans h1, h2, h3.keep k⟩
  | dct ds => obtain ⟨vs, h1, h3⟩ := h; exact ⟨vs, e.trans h1, h3.keep k⟩
  | ins C fs => obtain ⟨c, dx, vs, h0, h1, h3⟩ := h; exact ⟨c, dx, vs, h0, e.trans h1, h3.keep k⟩
theorem RndAt.keep (k : Keep S H G S' H' G') {a : Addr} (e : H' a = H a) (h : RndAt H G S a) : RndAt H' G' S' a := by
  obtain ⟨q, ns, x, y, m, h1, h2, h3, h4, h5⟩ := h
  obtain ⟨k1, k2, k3⟩ := k.un _ _ h2 h3 h4
  exact ⟨q, ns, x, y, m, e.trans h1, k1, k2, k3, h5⟩
theorem CellOk.step (R : Hel K fnm clm S H G) (st : Step S H G S' H' G') {a : Addr} (e : H' a = H a) {c : HC} (h : CellOk K fnm clm S H G a c) : CellOk K fnm clm S' H' G' a c := h.keep (.of R st) e
theorem RndAt.step (R : Hel K fnm clm S H G) (st : Step S H G S' H' G') {a : Addr} (e : H' a = H a) (h : RndAt H G S a) : RndAt H' G' S' a := h.keep (.of R st) e
theorem Hel.there (R : Hel K fnm clm S H G) {a : Addr} (h : G a ≠ none ∨ S a ≠ none) : H a ≠ none := fun e => by
  rcases h with h | h
  · cases q : G a with
    | none => exact h q
    | some c =>
      have z := R.cell a c q
      cases c with
      | lst ds => obtain ⟨vs, h1, _⟩ := z; rw [e] at h1; cases h1
      | dct ds => obtain ⟨vs, h1, _⟩ := z; rw [e] at h1; cases h1
      | ins C fs => obtain ⟨c, dx, vs, h0, h1, h3⟩ := z; rw [e] at h1; cases h1
  · cases q : S a with
    | none => exact h q
    | some b =>
      cases b with
      | true =>
        obtain ⟨_, q, ns, x, k, m, h1, _⟩ := R.rnd a q
        rw [e] at h1; cases h1
      | false => exact (R.res a q).2 e
theorem Hel.free (R : Hel K fnm clm S H G) {p : Addr} (h : H p = none) : G p = none ∧ S p = none :=
  ⟨Classical.byContradiction fun z => R.there (.inl z) h, Classical.byContradiction fun z => R.there (.inr z) h⟩
theorem upd_there {p a : Addr} {o : HO} (h : upd H p o a = none) : H a = none := by
  unfold upd at h
  split at h
  · cases h
  · exact h
/-- a new object that is no live one -/
theorem Step.newU {p : Addr} {o : HO} (h : H p = none) : Step S H G S (upd H p o) G :=
  ⟨fun a u e _ _ => by rw [upd_ne (ne_of_none e h)]; exact e, fun _ _ h => h, fun _ h => h.elim .inl fun x => .inr (.inl x), fun _ h => .inl h, fun _ h => upd_there h⟩
/-- the rest of a heap's facts, where the live ones and the streams stand as they were -/
theorem Hel.kept (R : Hel K fnm clm S H G) (st : Step S H G S H' G) (ne : ∀ a, (G a ≠ none ∨ S a = some true) → H' a = H a) : Hel K fnm clm S H' G := by
  refine ⟨fun a c e => (R.cell a c e).step R st (ne a (.inl (by rw [e]; simp))), fun a e => ?_, fun a e => ?_⟩
  · obtain ⟨g, r⟩ := R.rnd a e
    exact ⟨g, r.step R st (ne a (.inr e))⟩
  · obtain ⟨g, r⟩ := R.res a e
    exact ⟨g, fun z => r (st.there a z)⟩
theorem Hel.newU (R : Hel K fnm clm S H G) {p : Addr} {o : HO} (h : H p = none) : Hel K fnm clm S (upd H p o) G := by
  refine R.kept (Step.newU h) fun a z => upd_ne fun e => R.there (a := a) ?_ (by rw [e]; exact h)
  rcases z with z | z
  · exact .inl z
  · exact .inr (by rw [z]; simp)
/-- a new live object -/
theorem Step.new {p : Addr} {o : HO} {c : HC} (h : H p = none) : Step S H G S (upd H p o) (updD G p c) := by
  refine ⟨fun a u e _ _ => by rw [upd_ne (ne_of_none e h)]; exact e, fun _ _ h => h, fun a z => ?_, fun _ h => .inl h, fun _ h => upd_there h⟩
  by_cases q : a = p
  · exact .inr (.inr (by rw [q]; exact h))
  · rw [updD_ne q] at z
    exact z.elim .inl fun x => .inr (.inl x)
theorem Hel.put (R : Hel K fnm clm S H G) {p : Addr} {vs : List V} {ds : List D} (st : Step S H G S (upd H p (.lst vs)) (updD G p (.lst ds))) (ns : S p = none) (z : vs.length ≤ sizeLine) (r : DatAll K fnm S H G vs ds) :
    Hel K fnm clm S (upd H p (.lst vs)) (updD G p (.lst ds)) := by
  refine ⟨fun a c e => ?_, fun a e => ?_, fun a e => ?_⟩
  · by_cases q : a = p
    · subst q
      rw [updD_same] at e; cases e
      exact ⟨vs, upd_same, z, r.step R st⟩
    · rw [updD_ne q] at e
      exact (R.cell a c e).step R st (upd_ne q)
  · obtain ⟨g, r⟩ := R.rnd a e
    have q : a ≠ p := fun z => by rw [z, ns] at e; cases e
    exact ⟨by rw [updD_ne q]; exact g, r.step R st (upd_ne q)⟩
  · obtain ⟨g, r⟩ := R.res a e
    have q : a ≠ p := fun z => by rw [z, ns] at e; cases e
    exact ⟨by rw [updD_ne q]; exact g, by rw [upd_ne q]; exact r⟩
theorem Hel.newL (R : Hel K fnm clm S H G) {p : Addr} {vs : List V} {ds : List D} (h : H p = none) (z : vs.length ≤ sizeLine) (r : DatAll K fnm S H G vs ds) :
    Hel K fnm clm S (upd H p (.lst vs)) (updD G p (.lst ds)) := R.put (Step.new h) (R.free h).2 z r
/-- a live object is changed -/
theorem Step.write {p : Addr} {o : HO} {c : HC} (h : G p ≠ none) : Step S H G S (upd H p o) (updD G p c) := by
  refine ⟨fun a u e g _ => by rw [upd_ne (fun z => h (by rw [← z]; exact g))]; exact e, fun _ _ h => h, fun a z => ?_, fun _ h => .inl h, fun _ h => upd_there h⟩
  by_cases q : a = p
  · exact .inl (by rw [q]; exact h)
  · rw [updD_ne q] at z
    exact z.elim .inl fun x => .inr (.inl x)
theorem Hel.live (R : Hel K fnm clm S H G) {p : Addr} (h : G p ≠ none) : S p = none := by
  cases e : S p with
  | none => rfl
  | some b =>
    cases b with
    | true => exact absurd (R.rnd p e).1 h
    | false => exact absurd (R.res p e).1 h
theorem Hel.writeL (R : Hel K fnm clm S H G) {p : Addr} {vs : List V} {ds : List D} (h : G p ≠ none) (z : vs.length ≤ sizeLine) (r : DatAll K fnm S H G vs ds) :
    Hel K fnm clm S (upd H p (.lst vs)) (updD G p (.lst ds)) := R.put (Step.write h) (R.live h) z r
/-- less is known -/
def Sub (G' G : HD) : Prop := ∀ a c, G' a = some c → G a = some c
theorem Step.less (h : Sub G' G) : Step S H G S H G' := by
  refine ⟨fun _ _ e _ _ => e, fun _ _ h => h, fun a z => ?_, fun _ h => .inl h, fun _ h => h⟩
  rcases z with z | z
  · cases q : G' a with
    | none => exact absurd q z
    | some c => exact .inl (by rw [h a c q]; simp)
  · exact .inr (.inl z)
theorem Sub.no (h : Sub G' G) {a : Addr} (g : G a = none) : G' a = none := by
  cases q : G' a with
  | none => rfl
  | some c => rw [h a c q] at g; cases g
theorem Hel.less (R : Hel K fnm clm S H G) (h : Sub G' G) : Hel K fnm clm S H G' := by
  have st : Step S H G S H G' := Step.less h
  refine ⟨fun a c e => (R.cell a c (h a c e)).step R st rfl, fun a e => ?_, fun a e => ?_⟩
  · obtain ⟨g, r⟩ := R.rnd a e
    exact ⟨h.no g, r.step R st rfl⟩
  · obtain ⟨g, r⟩ := R.res a e
    exact ⟨h.no g, r⟩
theorem sub_del {a : Addr} : Sub (delD G a) G := fun b c e => by
  unfold delD at e
  split at e
  · cases e
  · exact e
theorem Sub.refl : Sub G G := fun _ _ h => h
theorem Sub.upd {p : Addr} {c : HC} (h : G p = none) : Sub G (updD G p c) := fun a o e => by
  rw [updD_ne (fun z => by rw [z, h] at e; cases e)]; exact e
theorem Sub.trans {G1 G2 : HD} (x : Sub G G1) (y : Sub G1 G2) : Sub G G2 := fun a c h => y a c (x a c h)
theorem Sub.emp : Sub emp G := fun a c h => by cases h
end
/-! ### an object kept apart for a while -/
def resS (S : Addr → Option Bool) (p : Addr) : Addr → Option Bool := fun a => if a = p then some false else S a
def unS (S : Addr → Option Bool) (p : Addr) : Addr → Option Bool := fun a => if a = p then none else S a
section
variable {K : PySem.W.Frag} {fnm clm : Nat → Option Addr} {S S' : Addr → Option Bool} {H H' : Hp} {G G' : HD}
theorem Step.reserve {p : Addr} {o : HO} (R : Hel K fnm clm S H G) (h : H p = none) : Step S H G (resS S p) (upd H p o) G := by
  refine ⟨fun a u e _ _ => by rw [upd_ne (ne_of_none e h)]; exact e, fun a b e => ?_, fun a z => ?_, fun a e => ?_, fun _ h => upd_there h⟩
  · unfold resS
    rw [if_neg (fun z => by rw [z, (R.free h).2] at e; cases e)]; exact e
  · unfold resS at z
    rcases z with z | z
    · exact .inl z
    · split at z
      · cases z
      · exact .inr (.inl z)
  · unfold resS at e
    split at e
    · rename_i q; exact .inr (by rw [q]; exact h)
    · exact .inl e
theorem Hel.reserve (R : Hel K fnm clm S H G) {p : Addr} {o : HO} (h : H p = none) : Hel K fnm clm (resS S p) (upd H p o) G := by
  have st : Step S H G (resS S p) (upd H p o) G := Step.reserve R h
  have fr := R.free h
  refine ⟨fun a c e => (R.cell a c e).step R st (upd_ne fun z => by rw [z, fr.1] at e; cases e), fun a e => ?_, fun a e => ?_⟩
  · unfold resS at e
    split at e
    · cases e
    · rename_i q
      obtain ⟨g, r⟩ := R.rnd a e
      exact ⟨g, r.step R st (upd_ne q)⟩
  · by_cases q : a = p
    · subst q; exact ⟨fr.1, by rw [upd_same]; simp⟩
    · unfold resS at e
      rw [if_neg q] at e
      obtain ⟨g, r⟩ := R.res a e
      exact ⟨g, by rw [upd_ne q]; exact r⟩
/-- the object kept apart is changed -/
theorem Keep.change {p : Addr} {o : HO} {vs : List V} (h : H p = some (.lst vs)) (s : S p = some false) : Keep S H G S (upd H p o) G := by
  refine ⟨fun a u e g s' => ⟨by rw [upd_ne (fun z => by rw [z, s] at s'; cases s')]; exact e, g, s'⟩, fun a ws e => ?_, fun a u w e => ?_, fun _ h => h⟩
  · rw [upd_ne (fun z => by rw [z, h] at e; cases e)]; exact e
  · rw [upd_ne (fun z => by rw [z, h] at e; cases e)]; exact e
theorem Hel.change (R : Hel K fnm clm S H G) {p : Addr} {o : HO} {vs : List V} (h : H p = some (.lst vs)) (s : S p = some false) : Hel K fnm clm S (upd H p o) G := by
  have k : Keep S H G S (upd H p o) G := Keep.change h s
  refine ⟨fun a c e => (R.cell a c e).keep k (upd_ne fun z => by rw [z, (R.res p s).1] at e; cases e), fun a e => ?_, fun a e => ?_⟩
  · obtain ⟨g, r⟩ := R.rnd a e
    exact ⟨g, r.keep k (upd_ne fun z => by rw [z, s] at e; cases e)⟩
  · obtain ⟨g, r⟩ := R.res a e
    refine ⟨g, fun z => r (upd_there z)⟩
/-- from before it was there the change is none -/
theorem Step.change {H0 : Hp} {S0 : Addr → Option Bool} {G0 : HD} {p : Addr} {o : HO} (st : Step S0 H0 G0 S H G) (h : H0 p = none) : Step S0 H0 G0 S (upd H p o) G :=
  ⟨fun a u e g s => by rw [upd_ne (ne_of_none e h)]; exact st.stay a u e g s, st.strm, st.own, st.res, fun a z => st.there a (upd_there z)⟩
/-- it is let out -/
theorem Hel.letOut (R : Hel K fnm clm S H G) {p : Addr} (s : S p = some false) : Keep S H G (unS S p) H G ∧ Hel K fnm clm (unS S p) H G := by
  have k : Keep S H G (unS S p) H G := by
    refine ⟨fun a u e g s => ⟨e, g, ?_⟩, fun _ _ e => e, fun _ _ _ e => e, fun a h => ?_⟩
    · unfold unS; split <;> first | rfl | exact s
    · unfold unS; rw [if_neg (fun z => by rw [z, s] at h; cases h)]; exact h
  refine ⟨k, fun a c e => (R.cell a c e).keep k rfl, fun a e => ?_, fun a e => ?_⟩
  · unfold unS at e
    split at e
    · cases e
    · obtain ⟨g, r⟩ := R.rnd a e
      exact ⟨g, r.keep k rfl⟩
  · unfold unS at e
    split at e
    · cases e
    · exact R.res a e
theorem Hel.track (R : Hel K fnm clm S H G) {p : Addr} {vs : List V} {ds : List D} (h : H p = some (.lst vs)) (s : S p = some false) (z : vs.length ≤ sizeLine) (r : DatAll K fnm S H G vs ds) : Hel K fnm clm (unS S p) H (updD G p (.lst ds)) := by
  have k : Keep S H G (unS S p) H (updD G p (.lst ds)) := by
    refine ⟨fun a u e g s' => ?_, fun _ _ e => e, fun _ _ _ e => e, fun a h => ?_⟩
    · have ne : a ≠ p := fun z => by rw [z, s] at s'; cases s'
      refine ⟨e, by rw [updD_ne ne]; exact g, ?_⟩
      unfold unS; split <;> first | rfl | exact s'
    · unfold unS; rw [if_neg (fun z => by rw [z, s] at h; cases h)]; exact h
  refine ⟨fun a c e => ?_, fun a e => ?_, fun a e => ?_⟩
  · by_cases q : a = p
    · subst q
      rw [updD_same] at e; cases e
      exact ⟨vs, h, z, r.keep k⟩
    · rw [updD_ne q] at e
      exact (R.cell a c e).keep k rfl
  · unfold unS at e
    split at e
    · cases e
    · rename_i q
      obtain ⟨g, r⟩ := R.rnd a e
      exact ⟨by rw [updD_ne q]; exact g, r.keep k rfl⟩
  · unfold unS at e
    split at e
    · cases e
    · rename_i q
      obtain ⟨g, r⟩ := R.res a e
      exact ⟨by rw [updD_ne q]; exact g, r⟩
theorem Step.track {H0 : Hp} {S0 : Addr → Option Bool} {G0 : HD} {p : Addr} {c : HC} (st : Step S0 H0 G0 S H G) (h : S0 p = none) (h0 : H0 p = none) : Step S0 H0 G0 (unS S p) H (updD G p c) := by
  refine ⟨st.stay, fun a b e => ?_, fun a z => ?_, fun a e => ?_, st.there⟩
  · unfold unS
    rw [if_neg (fun z => by rw [z, h] at e; cases e)]; exact st.strm a b e
  · by_cases q : a = p
    · exact .inr (.inr (by rw [q]; exact h0))
    · unfold unS at z
      rw [updD_ne q, if_neg q] at z
      exact st.own a z
  · unfold unS at e
    split at e
    · cases e
    · exact st.res a e
theorem Step.letOut {H0 : Hp} {S0 : Addr → Option Bool} {G0 : HD} {p : Addr} (st : Step S0 H0 G0 S H G) (h : S0 p = none) : Step S0 H0 G0 (unS S p) H G := by
  refine ⟨st.stay, fun a b e => ?_, fun a z => ?_, fun a e => ?_, st.there⟩
  · unfold unS
    rw [if_neg (fun z => by rw [z, h] at e; cases e)]; exact st.strm a b e
  · unfold unS at z
    split at z
    · rcases z with z | z
      · exact st.own a (.inl z)
      · cases z
    · exact st.own a z
  · unfold unS at e
    split at e
    · cases e
    · exact st.res a e
end
/-- the slots -/
def SlotOk (K : PySem.W.Frag) (fnm : Nat → Option Addr) (S : Addr → Option Bool) (H : Hp) (G : HD) (σ : List (Option V)) (σD : List (Option D)) : Prop :=
  σ.length = σD.length ∧ ∀ (i : Nat) (d : D), σD[i]? = some (some d) → ∃ v, σ[i]? = some (some v) ∧ Dat K fnm S H G v d
section
variable {K : PySem.W.Frag} {fnm clm : Nat → Option Addr} {S S' : Addr → Option Bool} {H H' : Hp} {G G' : HD} {σ : List (Option V)} {σD : List (Option D)}
theorem SlotOk.step (R : Hel K fnm clm S H G) (st : Step S H G S' H' G') (h : SlotOk K fnm S H G σ σD) : SlotOk K fnm S' H' G' σ σD :=
  ⟨h.1, fun i d e => let ⟨v, h1, h2⟩ := h.2 i d e; ⟨v, h1, h2.step R st⟩⟩
theorem SlotOk.set (h : SlotOk K fnm S H G σ σD) {v : V} {d : D} (r : Dat K fnm S H G v d) (i : Nat) : SlotOk K fnm S H G (σ.set i (some v)) (σD.set i (some d)) := by
  refine ⟨by simp [h.1], fun j e q => ?_⟩
  by_cases hj : i = j
  · subst hj
    by_cases hl : i < σD.length
    · rw [List.getElem?_set_self hl] at q
      cases q
      exact ⟨v, List.getElem?_set_self (by rw [h.1]; exact hl), r⟩
    · rw [List.getElem?_eq_none (by simpa using hl)] at q; cases q
  · rw [List.getElem?_set_ne hj] at q
    obtain ⟨w, h1, h2⟩ := h.2 j e q
    exact ⟨w, by rw [List.getElem?_set_ne hj]; exact h1, h2⟩
theorem SlotOk.wipe1 (h : SlotOk K fnm S H G σ σD) (i : Nat) : SlotOk K fnm S H G (σ.set i none) (σD.set i none) := by
  refine ⟨by simp [h.1], fun j e q => ?_⟩
  by_cases hj : i = j
  · subst hj
    by_cases hl : i < σD.length
    · rw [List.getElem?_set_self hl] at q; cases q
    · rw [List.getElem?_eq_none (by simpa using hl)] at q; cases q
  · rw [List.getElem?_set_ne hj] at q
    obtain ⟨w, h1, h2⟩ := h.2 j e q
    exact ⟨w, by rw [List.getElem?_set_ne hj]; exact h1, h2⟩
end
end DL

namespace DL
open PySem PySem.Spec PyProof.Rows L2

/-! ## 3. The short language -/
inductive BOp where | add | sub | mul | fdiv | mod | pow | xor | bor | band | shl | shr
inductive COp where | eq | ne | lt | le | gt | ge | isn | nisn | inn | nin
inductive Bf where | len | abs | int | bool | tuple | list | all | any | min | max | sum | ord | str
inductive Mt where | append | extend | pop | index | join | count | sindex | scount | sfind
inductive Ty where | non | bool | int | str | tuple | list | dict
  deriving DecidableEq
inductive Tgt where | n (i : Nat) | t (ts : List Tgt)
mutual
inductive E where
  | var (i : Nat) | con (d : D) | glb (i : Nat)
  | bin (z : Bool) (o : BOp) (a b : E) | neg (a : E) | nt (a : E) | boo (b : Bool) (es : Es)
  | cmp (o : COp) (a b : E) | chn (o p : COp) (a b c : E) | ife (t : T) (a b : E)
  | tup (es : Es) | lst (z : Bool) (es : Es) | idx (a b : E) | sl (z : Bool) (a lo hi : E) | no
  | call (f : Nat) (es : Es) | bf (z : Bool) (f : Bf) (es : Es) | isi (a : E) (ts : List Ty)
  | mt (m : Mt) (o : E) (es : Es)
  | lc (z : Bool) (e : E) (g : Tgt) (it : I) (c : T) (own : List (Str × Nat))
  | frz (a : E) | frD (n : Nat) (a : E) | lzp (z : Bool) (es : Es) | rg1 (z t : Bool) (a : E) | rg2 (z t : Bool) (a b : E)
  | dlen (e v : E) (g : Tgt) (it : I) (c : T) (own : List (Str × Nat))
  | rep (a : E) | dix (a b : E) | isc (i : Nat) (c : Option Nat)
  | lcl (z : Bool) (e : E) (g : Tgt) (a : E) (c : T) (own : List (Str × Nat))
  | fld (c : Nat) (a : E) (f : Str) | mcl (c : Nat) (m : Str) (i : Nat) (o : E) (es : Es) | mak (c i : Nat) (es : Es)
inductive Es where | n | c (e : E) (es : Es)
inductive T where
  | of (e : E) | nt (t : T) | bo (b : Bool) (ts : Ts) | cmp (o : COp) (a b : E) | chn (o p : COp) (a b c : E) | yes
inductive Ts where | n | c (t : T) (ts : Ts)
inductive I where
  | of (e : E) | rng (es : Es) | enu (e : E) | zip (es : Es) | rev (e : E)
end
/-- an except clause's suite -/
inductive SU where
  | n | set (i : Nat) (e : E) (r : SU) | ret (e : E) | ifr (t : T) (e : E) (r : SU)
mutual
inductive S where
  | set (i : Nat) (e : E) | asg (g : Tgt) (e : E) | setI (o i e : E) | aug (i : Nat) (o : BOp) (e : E)
  | ex (e : E) | ret (e : E) | retN | ite (t : T) (a b : Ss) | for_ (g : Tgt) (it : I) (b : Ss) | forL (g : Tgt) (a : E) (b : Ss) | whl (t : T) (b : Ss)
  | brk | cnt | pas | rai (x : Nat)
  | setF (c : Nat) (o : E) (f : Str) (e : E) | augF (c : Nat) (o : E) (f : Str) (e : E)
  | fz (i : Nat) | tri (b : Ss) (x : Nat) (n : Option Nat) (h : SU)
inductive Ss where | n | c (s : S) (ss : Ss)
end

/-! ## 4. What it means -/
abbrev StD := List (Option D)
abbrev KD := D → HD → Prop
abbrev KX := Nat → HD → Prop
abbrev SpD := List D → HD → KD → KX → Prop
structure Gam where
  sp : Nat → SpD
  gl : Nat → D
  /-- is a class below another one? -/
  sb : Nat → Nat → Bool := fun _ _ => false
  /-- the exception that is handled, its class -/
  xc : Option (Addr × Nat) := none
/-- is y below the class c (none: ValueError)? -/
def Gam.isb (Γ : Gam) (y : Nat) : Option Nat → Bool
  | none => true
  | some c => Γ.sb y c
def ok {α : Type} (o : Option α) (k : α → Prop) : Prop := match o with | some a => k a | none => False
@[simp] theorem ok_some {α : Type} (a : α) (k : α → Prop) : ok (some a) k = k a := rfl
@[simp] theorem ok_none {α : Type} (k : α → Prop) : ok none k = False := rfl
abbrev lim : Nat := 16777216
def seqOf : D → HD → Option (List D)
  | .lst ds, _ => some ds
  | .scr ds, _ => some ds
  | .ref a, H => match H a with | some (.lst ds) => some ds | _ => none
  | _, _ => none
/-- a list of the heap -/
def seqH : D → HD → Option (List D)
  | .lst ds, _ => some ds
  | .ref a, H => match H a with | some (.lst ds) => some ds | _ => none
  | _, _ => none
/-- a tuple's or a list's items -/
def itms (d : D) (H : HD) : Option (List D) := match d with
  | .tup ds => some ds
  | .tpl ds => some ds
  | d => seqOf d H
/-- .. what tuple(x) is made of -/
def itmT (d : D) (H : HD) : Option (List D) := match d with
  | .tup ds => some ds
  | d => seqOf d H
def lenD (d : D) (H : HD) : Option Nat := match d with
  | .str s => some s.length
  | .tup ds => some ds.length
  | .tpl ds => some ds.length
  | d => match seqOf d H with
    | some ds => some ds.length
    | none => match d with
      | .ref a => match H a with | some (.dct kvs) => some kvs.length | _ => none
      | _ => none
def truth (d : D) (H : HD) : Option Bool := match d with
  | .non => some false
  | .bl b => some b
  | .int i => some (i != 0)
  | d => match lenD d H with
    | some n => some (n != 0)
    | none => none
mutual
def py : D → Option PyData
  | .non => some .none
  | .bl b => some (.bool b)
  | .int i => some (.int i)
  | .str s => some (.str (mkStr s))
  | .tup ds => match pys ds with | some xs => some (.tuple xs) | none => none
  | .tpl ds => match pys ds with | some xs => some (.tuple xs) | none => none
  | .lst ds => match pys ds with | some xs => some (.list xs) | none => none
  | .scr ds => match pys ds with | some xs => some (.list xs) | none => none
  | _ => none
def pys : List D → Option (List PyData)
  | [] => some []
  | d :: ds => match py d, pys ds with | some x, some xs => some (x :: xs) | _, _ => none
end
def pyT (d : D) (H : HD) : Option PyData := match d with
  | .ref a => match H a with
    | some (.lst ds) => (match pys ds with | some xs => some (.list xs) | none => none)
    | _ => none
  | d => py d
def eqD (x y : D) (H : HD) : Option Bool := match pyT x H, pyT y H with
  | some a, some b => if min a.depth b.depth ≤ 64 then some (PyData.eqv a b) else none
  | _, _ => none
def flatD : D → Bool
  | .non | .bl _ | .int _ | .str _ => true
  | _ => false
/-- == of flat values -/
def eqF : D → D → Bool
  | .non, .non => true
  | .bl a, .bl b => a == b
  | .bl a, .int b => (if a then 1 else 0) == b
  | .int a, .bl b => a == (if b then 1 else 0)
  | .int a, .int b => a == b
  | .str a, .str b => a == b
  | _, _ => false
def inD (x y : D) (H : HD) : Option Bool := match y with
  | .str t => match x with
    | .str [c] => some (decide (c ∈ t))
    | _ => none
  | y => match itms y H with
    | some ds => if (flatD x && ds.all flatD) = true then some (ds.any fun z => eqF z x) else none
    | none => none
def cmpD (o : COp) (x y : D) (H : HD) : Option Bool := match o with
  | .eq => eqD x y H
  | .ne => (eqD x y H).map (!·)
  | .lt => match x, y with | .int i, .int j => some (decide (i < j)) | _, _ => none
  | .le => match x, y with | .int i, .int j => some (decide (i ≤ j)) | _, _ => none
  | .gt => match x, y with | .int i, .int j => some (decide (j < i)) | _, _ => none
  | .ge => match x, y with | .int i, .int j => some (decide (j ≤ i)) | _, _ => none
  | .isn => match y with | .non => (match x with | .non => some true | _ => some false) | .bl b => (match x with | .bl a => some (decide (a = b)) | _ => none) | _ => none
  | .nisn => match y with | .non => (match x with | .non => some false | _ => some true) | .bl b => (match x with | .bl a => some (!decide (a = b)) | _ => none) | _ => none
  | .inn => inD x y H
  | .nin => (inD x y H).map (!·)
def newL (z : Bool) (ds : List D) (H : HD) (Q : KD) : Prop := match z with
  | true => Q (.lst ds) H
  | false => ∀ p, H p = none → Q (.ref p) (updD H p (.lst ds))
@[simp] theorem newL_t {ds : List D} {H : HD} {Q : KD} : newL true ds H Q = Q (.lst ds) H := rfl
theorem newL_f {ds : List D} {H : HD} {Q : KD} : newL false ds H Q = ∀ p, H p = none → Q (.ref p) (updD H p (.lst ds)) := rfl
def binD (z : Bool) (o : BOp) (x y : D) (H : HD) (Q : KD) : Prop := match o with
  | .add => match x, y with
    | .int i, .int j => Q (.int (i + j)) H
    | .str s, .str t => s.length + t.length ≤ lim ∧ Q (.str (s ++ t)) H
    | .tup s, .tup t => s.length + t.length ≤ lim ∧ Q (.tup (s ++ t)) H
    | x, y => ok (seqH x H) fun a => ok (seqH y H) fun b => a.length + b.length ≤ lim ∧ newL z (a ++ b) H Q
  | .sub => match x, y with | .int i, .int j => Q (.int (i - j)) H | _, _ => False
  | .mul => match x, y with
    | .int i, .int j => ((-18446744073709551616 < i ∧ i < 18446744073709551616) ∨ (-18446744073709551616 < j ∧ j < 18446744073709551616)) ∧ Q (.int (i * j)) H
    | .str s, .int n => (0 ≤ n ∧ n ≤ lim) ∧ s.length * n.toNat ≤ lim ∧ Q (.str (List.replicate n.toNat s).flatten) H
    | x, .int n => ok (seqH x H) fun a => (0 ≤ n ∧ n ≤ lim) ∧ a.length * n.toNat ≤ lim ∧ newL z (List.replicate n.toNat a).flatten H Q
    | _, _ => False
  | .fdiv => match x, y with | .int i, .int j => (0 < j ∧ j < 2 ^ 200) ∧ Q (.int (i / j)) H | _, _ => False
  | .mod => match x, y with | .int i, .int j => 0 < j ∧ Q (.int (i % j)) H | _, _ => False
  | .pow => match x, y with | .int i, .int j => (0 ≤ j ∧ j ≤ 1000000 ∧ i.natAbs < 2 ^ 64) ∧ Q (.int (i ^ j.toNat)) H | _, _ => False
  | .xor => match x, y with | .int i, .int j => Q (.int (Builtin.bitXor i j)) H | _, _ => False
  | .bor => match x, y with | .int i, .int j => Q (.int (Builtin.bitOr i j)) H | _, _ => False
  | .band => match x, y with | .int i, .int j => Q (.int (Builtin.bitAnd i j)) H | _, _ => False
  | .shl => match x, y with | .int i, .int j => (0 ≤ j ∧ j ≤ 1000000 ∧ i.natAbs < 2 ^ 64) ∧ Q (.int (i * 2 ^ j.toNat)) H | _, _ => False
  | .shr => match x, y with | .int i, .int j => 0 ≤ j ∧ Q (.int (i / 2 ^ j.toNat)) H | _, _ => False
def idxD (x i : D) (H : HD) : Option D := match i with
  | .int i => match x with
    | .str s => (atI s i).map fun c => .str [c]
    | x => match itms x H with
      | some ds => atI ds i
      | none => none
  | _ => none
def cutL {α : Type} (xs : List α) (lo hi : Option Int) : List α := (xs.drop (HT.sIx xs.length 0 lo)).take (HT.sIx xs.length xs.length hi - HT.sIx xs.length 0 lo)
def slD (z : Bool) (x : D) (lo hi : Option Int) (H : HD) (Q : KD) : Prop := match x with
  | .str s => Q (.str (cutL s lo hi)) H
  | .tup ds => Q (.tup (cutL ds lo hi)) H
  | x => ok (seqOf x H) fun ds => newL z (cutL ds lo hi) H Q
def tyD (d : D) (H : HD) : Option Ty := match d with
  | .non => some .non
  | .bl _ => some .bool
  | .int _ => some .int
  | .str _ => some .str
  | .tup _ => some .tuple
  | .tpl _ => some .tuple
  | .lst _ => some .list
  | .scr _ => some .list
  | .ref a => match H a with
    | some (.lst _) => some .list
    | some (.dct _) => some .dict
    | _ => none
  | _ => none
def isTy : Ty → Ty → Bool
  | .bool, .int => true
  | a, b => decide (a = b)
def blsOf : List D → Option (List Bool)
  | [] => some []
  | .bl b :: ds => (blsOf ds).map (b :: ·)
  | _ => none
def intsOf : List D → Option (List Int)
  | [] => some []
  | .int b :: ds => (intsOf ds).map (b :: ·)
  | _ => none
def strsOf : List D → Option (List (List Nat))
  | [] => some []
  | .str b :: ds => (strsOf ds).map (b :: ·)
  | _ => none
def joinL (sep : List Nat) : List (List Nat) → List Nat
  | [] => []
  | [x] => x
  | x :: y :: r => x ++ sep ++ joinL sep (y :: r)
/-- a value's text: may it be told? -/
def shOk (p : PyData) : Prop := p.showable = true ∧ p.depth ≤ 64 ∧ p.shown.length ≤ lim ∧ PyData.strOk p.shown = true
/-- pairs of a text and a value -/
def prsD : List D → Option (List (List Nat × D))
  | [] => some []
  | .tup [.str s, v] :: ds => (prsD ds).map ((s, v) :: ·)
  | _ => none
/-- dict(pairs)[k] -/
def drsD : D → Option (List (List Nat × D))
  | .tup ds => match prsD ds with
    | some ps => if (ps.map Prod.fst).Nodup then some ps else none
    | none => none
  | _ => none
def dgtD (ps : List (List Nat × D)) : D → Option D
  | .str s => (ps.find? fun p => decide (p.1 = s)).map Prod.snd
  | _ => none
/-- a field of an instance of the class c -/
def attD (c : Nat) (f : Str) (x : D) (H : HD) : Option D := match x with
  | .ref a => match H a with
    | some (.ins c' fs) => if c' = c then fs.lookup f else none
    | _ => none
  | _ => none
/-- an instance of c, no field of this name -/
def insB (c : Nat) (m : Str) (x : D) (H : HD) : Bool := match x with
  | .ref a => match H a with
    | some (.ins c' fs) => decide (c' = c) && (fs.lookup m).isNone
    | _ => false
  | _ => false
def putFD (f : Str) (d : D) : List (Str × D) → List (Str × D)
  | [] => [(f, d)]
  | (g, e) :: r => if g = f then (g, d) :: r else (g, e) :: putFD f d r
def setFD (c : Nat) (f : Str) (x d : D) (H : HD) (Q : HD → Prop) : Prop := match x with
  | .ref a => match H a with
    | some (.ins c' fs) => (c' = c ∧ fs.length < 1000) ∧ Q (updD H a (.ins c (putFD f d fs)))
    | _ => False
  | _ => False
def bfD (z : Bool) (f : Bf) (ds : List D) (H : HD) (Q : KD) : Prop := match f, ds with
  | .len, [x] => ok (lenD x H) fun n => Q (.int n) H
  | .abs, [.int i] => Q (.int i.natAbs) H
  | .int, [.int i] => Q (.int i) H
  | .int, [.bl b] => Q (.int (if b then 1 else 0)) H
  | .bool, [.bl b] => Q (.bl b) H
  | .bool, [.int i] => Q (.bl (i != 0)) H
  | .tuple, [x] => ok (itmT x H) fun ds => Q (.tup ds) H
  | .list, [x] => ok (itms x H) fun ds => newL z ds H Q
  | .all, [x] => ok (seqOf x H) fun ds => ok (blsOf ds) fun bs => Q (.bl (bs.all id)) H
  | .any, [x] => ok (seqOf x H) fun ds => ok (blsOf ds) fun bs => Q (.bl (bs.any id)) H
  | .min, [.int i, .int j] => Q (.int (if j < i then j else i)) H
  | .max, [.int i, .int j] => Q (.int (if j > i then j else i)) H
  | .min, [x] => ok (seqOf x H) fun ds => ok (intsOf ds) fun ns => 0 < ns.length ∧ ∀ m, m ∈ ns → (∀ y, y ∈ ns → m ≤ y) → Q (.int m) H
  | .max, [x] => ok (seqOf x H) fun ds => ok (intsOf ds) fun ns => 0 < ns.length ∧ ∀ m, m ∈ ns → (∀ y, y ∈ ns → y ≤ m) → Q (.int m) H
  | .sum, [x] => ok (seqOf x H) fun ds => ok (intsOf ds) fun ns => Q (.int ns.sum) H
  | .ord, [.str [c]] => Q (.int c) H
  | .str, [.int i] => i.natAbs.log2 < 1920 ∧ (∀ s : List Nat, mkStr s = Str.ofString (toString i) → Q (.str s) H)
  | _, _ => False
def mtD (m : Mt) (o : D) (es : List D) (H : HD) (Q : KD) : Prop := match m, o, es with
  | .append, .ref a, [d] => (match H a with | some (.lst ds) => ds.length < lim ∧ Q .non (updD H a (.lst (ds ++ [d]))) | _ => False)
  | .extend, .ref a, [x] => (match H a with | some (.lst ds) => ok (seqH x H) fun es => ds.length + es.length ≤ lim ∧ Q .non (updD H a (.lst (ds ++ es))) | _ => False)
  | .pop, .ref a, [] => (match H a with | some (.lst ds) => ok ds.getLast? fun d => Q d (updD H a (.lst ds.dropLast)) | _ => False)
  | .pop, .ref a, [.int i] => (match H a with | some (.lst ds) => (0 ≤ i ∧ i < ds.length) ∧ ok (ds[i.toNat]?) fun d => Q d (updD H a (.lst (ds.eraseIdx i.toNat))) | _ => False)
  | .index, x, [d] => ok (seqOf x H) fun ds => (flatD d && ds.all flatD) = true ∧ ok (ds.findIdx? fun z => eqF z d) fun i => Q (.int (i : Nat)) H
  | .join, .str s, [x] => ok (itms x H) fun ds => ok (strsOf ds) fun ss => (ss.map List.length).sum + ss.length * s.length ≤ lim ∧ Q (.str (joinL s ss)) H
  | .sindex, .str s, [.str t] => ok (Txt.index0 (mkStr s) (mkStr t)) fun i => Q (.int (i : Nat)) H
  | .scount, .str s, [.str t] => Q (.int (Txt.count (mkStr s) (mkStr t))) H
  | .sfind, .str s, [.str t] => Q (.int (Txt.find (mkStr s) (mkStr t))) H
  | _, _, _ => False
/-- what a method is called of -/
def rcv (m : Mt) (x : D) (H : HD) : Bool := match m with
  | .append | .extend | .pop | .index | .count => (seqOf x H).isSome
  | .join | .sindex | .scount | .sfind => match x with | .str _ => true | _ => false
def frzD (d : D) (H : HD) (Q : KD) : Prop := match d with
  | .ref a => (match H a with | some (.lst ds) => Q (.lst ds) (delD H a) | _ => False)
  | d => Q d H
def frL (f : D → HD → Option (D × HD)) : List D → HD → Option (List D × HD)
  | [], H => some ([], H)
  | d :: ds, H => match f d H with
    | some (e, H1) => match frL f ds H1 with
      | some (es, H2) => some (e :: es, H2)
      | none => none
    | none => none
/-- frozen, and so is what lies in it -/
def frDp : Nat → D → HD → Option (D × HD)
  | 0, d, H => some (d, H)
  | n + 1, .ref a, H => match H a with
    | some (.lst ds) => match frL (frDp n) ds (delD H a) with
      | some (es, H') => some (.lst es, H')
      | none => none
    | _ => none
  | n + 1, .tup ds, H => match frL (frDp n) ds H with
    | some (es, H') => some (.tup es, H')
    | none => none
  | _ + 1, d, H => some (d, H)
/-- list(zip(s, t)), s and t tuples -/
def zip2T (ds : List D) : Option (List D × List D) := match ds with
  | [.tup xs, .tup ys] => some (xs, ys)
  | _ => none
mutual
def asg : Tgt → D → StD → Option StD
  | .n i, d, σ => some (σ.set i (some d))
  | .t ts, .tup ds, σ => asgs ts ds σ
  | .t ts, .tpl ds, σ => asgs ts ds σ
  | .t _, _, _ => none
def asgs : List Tgt → List D → StD → Option StD
  | [], [], σ => some σ
  | g :: gs, d :: ds, σ => match asg g d σ with | some σ' => asgs gs ds σ' | none => none
  | _, _, _ => none
end
def wipeD (σ : StD) : List Nat → StD
  | [] => σ
  | v :: vs => (wipeD σ vs).set v none
/-- what may be walked in a for or a comprehension: it doesn't change meanwhile -/
def walkD : D → Option (List D)
  | .tup ds => some ds
  | .tpl ds => some ds
  | .lst ds => some ds
  | .scr ds => some ds
  | .str s => some (s.map fun c => .str [c])
  | _ => none
/-- .. a live list too, where it stays as it is -/
def lvD (d : D) (H : HD) : Option (List D) := match d with
  | .ref a => match H a with | some (.lst ds) => some ds | _ => none
  | d => walkD d
def gdD (d : D) (ds : List D) (H : HD) : Prop := match d with
  | .ref a => H a = some (.lst ds)
  | _ => True
/-- what may be walked for enumerate, zip, reversed -/
def fixD : D → Option (List D)
  | .tup ds => some ds
  | .lst ds => some ds
  | .scr ds => some ds
  | _ => none
def rngD (ds : List D) : Option (Int × Nat × Int) := match ds with
  | [.int j] => if -4611686018427387904 ≤ j ∧ j < 4611686018427387904 then some (0, j.toNat, 1) else none
  | [.int i, .int j] => if (-4611686018427387904 ≤ i ∧ i < 4611686018427387904) ∧ (-4611686018427387904 ≤ j ∧ j < 4611686018427387904) then some (i, (j - i).toNat, 1) else none
  | [.int i, .int j, .int c] => if ((-4611686018427387904 ≤ i ∧ i < 4611686018427387904) ∧ (-4611686018427387904 ≤ j ∧ j < 4611686018427387904)) ∧ c = -1 then some (i, (i - j).toNat, -1) else none
  | _ => none
def rngF (c : Int) : Nat → Int → List D
  | 0, _ => []
  | n + 1, lo => .int lo :: rngF c n (lo + c)
def rngL (r : Int × Nat × Int) : List D := rngF r.2.2 r.2.1 r.1
/-- tuple(range(i, j)), list(range(i, j)) -/
def rgD (z t : Bool) (i j : Int) (H : HD) (Q : KD) : Prop := ((-4611686018427387904 ≤ i ∧ i < 4611686018427387904) ∧ (-4611686018427387904 ≤ j ∧ j < 4611686018427387904)) ∧ (j - i).toNat ≤ lim ∧
  match t with
  | true => Q (.tup (rngL (i, (j - i).toNat, 1))) H
  | false => newL z (rngL (i, (j - i).toNat, 1)) H Q
def enuF : Nat → List D → List D
  | _, [] => []
  | k, d :: ds => .tpl [.int (k : Nat), d] :: enuF (k + 1) ds
def enuL (ds : List D) : List D := enuF 0 ds
def zip2L : List D → List D → List D
  | x :: xs, y :: ys => .tpl [x, y] :: zip2L xs ys
  | _, _ => []
def zipD (ds : List D) : Option (List D) := match ds with
  | [.lst xs, .lst ys] => some (zip2L xs ys)
  | [.lst xs, .scr ys] => some (zip2L xs ys)
  | [.scr xs, .lst ys] => some (zip2L xs ys)
  | [.scr xs, .scr ys] => some (zip2L xs ys)
  | [.tup xs, .tup ys] => some (zip2L xs ys)
  | [.lst xs, .tup ys] => some (zip2L xs ys)
  | [.tup xs, .lst ys] => some (zip2L xs ys)
  | _ => none
def isNo : E → Bool
  | .no => true
  | _ => false
/-- an optional part of a slice -/
def wPart (n : Bool) (w : StD → HD → KD → KX → Prop) (σ : StD) (H : HD) (Q : Option Int → HD → Prop) (X : KX) : Prop := match n with
  | true => Q none H
  | false => w σ H (fun d H1 => match d with | .int i => Q (some i) H1 | _ => False) X
/-- the turns of a comprehension -/
def lcD (step : D → HD → (Option D → HD → Prop) → Prop) (Q : List D → HD → Prop) : List D → List D → HD → Prop
  | [], acc, H => Q acc H
  | x :: xs, acc, H => step x H fun r H1 => lcD step Q xs (match r with | some d => acc ++ [d] | none => acc) H1
/-- a dict's keys, one more -/
def insK (acc : List Key) (k : Key) : List Key := if (acc.any fun x => decide (x = k)) = true then acc else acc ++ [k]
/-- the turns of a dict comprehension -/
def dcD (step : D → HD → (Option Key → HD → Prop) → Prop) (Q : List Key → HD → Prop) : List D → List Key → HD → Prop
  | [], acc, H => Q acc H
  | x :: xs, acc, H => step x H fun r H1 => dcD step Q xs (match r with | some k => insK acc k | none => acc) H1
mutual
def wE (Γ : Gam) : E → StD → HD → KD → KX → Prop
  | .var i => fun σ H Q _ => ok (σ.getD i none) fun d => Q d H
  | .con d => fun _ H Q _ => Q d H
  | .glb i => fun _ H Q _ => Q (Γ.gl i) H
  | .bin z o a b => fun σ H Q X => wE Γ a σ H (fun x H1 => wE Γ b σ H1 (fun y H2 => binD z o x y H2 Q) X) X
  | .neg a => fun σ H Q X => wE Γ a σ H (fun x H1 => match x with | .int i => Q (.int (-i)) H1 | _ => False) X
  | .nt a => fun σ H Q X => wE Γ a σ H (fun x H1 => ok (truth x H1) fun b => Q (.bl (!b)) H1) X
  | .boo b es => fun σ H Q X => wBo Γ b es σ H Q X
  | .cmp o a b => fun σ H Q X => wE Γ a σ H (fun x H1 => wE Γ b σ H1 (fun y H2 => ok (cmpD o x y H2) fun c => Q (.bl c) H2) X) X
  | .chn o p a b c => fun σ H Q X => wE Γ a σ H (fun x H1 => wE Γ b σ H1 (fun y H2 => ok (cmpD o x y H2) fun k => match k with
      | true => wE Γ c σ H2 (fun z H3 => ok (cmpD p y z H3) fun k' => Q (.bl k') H3) X
      | false => Q (.bl false) H2) X) X
  | .ife t a b => fun σ H Q X => wT Γ t σ H (fun k H1 => match k with | true => wE Γ a σ H1 Q X | false => wE Γ b σ H1 Q X) X
  | .tup es => fun σ H Q X => wEs Γ es σ H (fun ds H1 => Q (.tup ds) H1) X
  | .lst z es => fun σ H Q X => wEs Γ es σ H (fun ds H1 => newL z ds H1 Q) X
  | .idx a b => fun σ H Q X => wE Γ a σ H (fun x H1 => wE Γ b σ H1 (fun y H2 => ok (idxD x y H2) fun d => Q d H2) X) X
  | .sl z a lo hi => fun σ H Q X => wE Γ a σ H (fun x H1 => wPart (isNo lo) (wE Γ lo) σ H1 (fun l H2 => wPart (isNo hi) (wE Γ hi) σ H2 (fun h H3 => slD z x l h H3 Q) X) X) X
  | .no => fun _ _ _ _ => False
  | .call f es => fun σ H Q X => wEs Γ es σ H (fun ds H1 => Γ.sp f ds H1 Q X) X
  | .bf z f es => fun σ H Q X => wEs Γ es σ H (fun ds H1 => bfD z f ds H1 Q) X
  | .isi a ts => fun σ H Q X => wE Γ a σ H (fun x H1 => ok (tyD x H1) fun t => Q (.bl (ts.any fun u => isTy t u)) H1) X
  | .mt m o es => fun σ H Q X => wE Γ o σ H (fun x H1 => rcv m x H1 = true ∧ wEs Γ es σ H1 (fun ds H2 => mtD m x ds H2 Q) X) X
  | .lc z e g it c own => fun σ H Q X => wI Γ it σ H (fun items H1 => lcD (fun x H2 K => ok (asg g x (wipeD σ (own.map (·.2)))) fun σ' =>
      wT Γ c σ' H2 (fun k H3 => match k with | true => wE Γ e σ' H3 (fun d H4 => K (some d) H4) (fun _ _ => False) | false => K none H3) (fun _ _ => False)) (fun acc H2 => newL z acc H2 Q) items [] H1) X
  | .frz a => fun σ H Q X => wE Γ a σ H (fun d H1 => frzD d H1 Q) X
  | .frD n a => fun σ H Q X => wE Γ a σ H (fun d H1 => ok (frDp n d H1) fun r => Q r.1 r.2) X
  | .lzp z es => fun σ H Q X => wEs Γ es σ H (fun ds H1 => ok (zip2T ds) fun r => r.1.length ≤ lim ∧ newL z (zip2L r.1 r.2) H1 Q) X
  | .rg1 z t a => fun σ H Q X => wE Γ a σ H (fun d H1 => match d with | .int j => rgD z t 0 j H1 Q | _ => False) X
  | .rg2 z t a b => fun σ H Q X => wE Γ a σ H (fun d H1 => wE Γ b σ H1 (fun e H2 => match d, e with | .int i, .int j => rgD z t i j H2 Q | _, _ => False) X) X
  | .dix a b => fun σ H Q X => wE Γ a σ H (fun x H1 => ok (drsD x) fun ps => wE Γ b σ H1 (fun y H2 => ok (dgtD ps y) fun d => Q d H2) X) X
  | .isc i c => fun σ H Q _ => match Γ.xc with
    | some (a, y) => σ.getD i none = some (.ref a) ∧ Q (.bl (Γ.isb y c)) H
    | none => False
  | .lcl z e g a c own => fun σ H Q X => wE Γ a σ H (fun d H1 => ok (lvD d H1) fun items => lcD (fun x H2 K => gdD d items H2 ∧ ok (asg g x (wipeD σ (own.map (·.2)))) fun σ' =>
      wT Γ c σ' H2 (fun k H3 => match k with | true => wE Γ e σ' H3 (fun d H4 => K (some d) H4) (fun _ _ => False) | false => K none H3) (fun _ _ => False)) (fun acc H2 => gdD d items H2 ∧ newL z acc H2 Q) items [] H1) X
  | .fld c a f => fun σ H Q X => wE Γ a σ H (fun x H1 => ok (attD c f x H1) fun d => Q d H1) X
  | .mcl c m i o es => fun σ H Q X => wE Γ o σ H (fun x H1 => insB c m x H1 = true ∧ wEs Γ es σ H1 (fun ds H2 => Γ.sp i (x :: ds) H2 Q X) X) X
  | .mak c i es => fun σ H Q X => wEs Γ es σ H (fun ds H1 => ∀ p, H1 p = none → Γ.sp i (.ref p :: ds) (updD H1 p (.ins c [])) (fun d H2 => d = .non ∧ Q (.ref p) H2) X) X
  | .rep a => fun σ H Q X => wE Γ a σ H (fun x H1 => ok (pyT x H1) fun p => shOk p ∧ Q (.str p.shown.cps.toList) H1) X
  | .dlen e v g it c own => fun σ H Q X => wI Γ it σ H (fun items H1 => dcD (fun x H2 K => ok (asg g x (wipeD σ (own.map (·.2)))) fun σ' =>
      wT Γ c σ' H2 (fun k H3 => match k with | true => wE Γ e σ' H3 (fun d H4 => wE Γ v σ' H4 (fun _ H5 => ok (keyD d) fun k => K (some k) H5) (fun _ _ => False)) (fun _ _ => False) | false => K none H3) (fun _ _ => False)) (fun acc H2 => Q (.int (acc.length : Nat)) H2) items [] H1) X
def wEs (Γ : Gam) : Es → StD → HD → (List D → HD → Prop) → KX → Prop
  | .n => fun _ H Q _ => Q [] H
  | .c e es => fun σ H Q X => wE Γ e σ H (fun d H1 => wEs Γ es σ H1 (fun ds H2 => Q (d :: ds) H2) X) X
def wBo (Γ : Gam) (b : Bool) : Es → StD → HD → KD → KX → Prop
  | .n => fun _ _ _ _ => False
  | .c e .n => fun σ H Q X => wE Γ e σ H Q X
  | .c e (.c e' es) => fun σ H Q X => wE Γ e σ H (fun d H1 => ok (truth d H1) fun k => if k = b then wBo Γ b (.c e' es) σ H1 Q X else Q d H1) X
def wT (Γ : Gam) : T → StD → HD → (Bool → HD → Prop) → KX → Prop
  | .of e => fun σ H Q X => wE Γ e σ H (fun d H1 => ok (truth d H1) fun b => Q b H1) X
  | .nt t => fun σ H Q X => wT Γ t σ H (fun b H1 => Q (!b) H1) X
  | .bo b ts => fun σ H Q X => wTs Γ b ts σ H Q X
  | .cmp o a b => fun σ H Q X => wE Γ a σ H (fun x H1 => wE Γ b σ H1 (fun y H2 => ok (cmpD o x y H2) fun c => Q c H2) X) X
  | .chn o p a b c => fun σ H Q X => wE Γ a σ H (fun x H1 => wE Γ b σ H1 (fun y H2 => ok (cmpD o x y H2) fun k => match k with
      | true => wE Γ c σ H2 (fun z H3 => ok (cmpD p y z H3) fun k' => Q k' H3) X
      | false => Q false H2) X) X
  | .yes => fun _ H Q _ => Q true H
def wTs (Γ : Gam) (b : Bool) : Ts → StD → HD → (Bool → HD → Prop) → KX → Prop
  | .n => fun _ _ _ _ => False
  | .c t .n => fun σ H Q X => wT Γ t σ H Q X
  | .c t (.c t' ts) => fun σ H Q X => wT Γ t σ H (fun k H1 => if k = b then wTs Γ b (.c t' ts) σ H1 Q X else Q (!b) H1) X
def wI (Γ : Gam) : I → StD → HD → (List D → HD → Prop) → KX → Prop
  | .of e => fun σ H Q X => wE Γ e σ H (fun d H1 => ok (walkD d) fun ds => Q ds H1) X
  | .rng es => fun σ H Q X => wEs Γ es σ H (fun ds H1 => ok (rngD ds) fun r => r.2.1 ≤ lim ∧ Q (rngL r) H1) X
  | .enu e => fun σ H Q X => wE Γ e σ H (fun d H1 => ok (fixD d) fun ds => Q (enuL ds) H1) X
  | .zip es => fun σ H Q X => wEs Γ es σ H (fun ds H1 => ok (zipD ds) fun ds => Q ds H1) X
  | .rev e => fun σ H Q X => wE Γ e σ H (fun d H1 => ok (fixD d) fun ds => Q ds.reverse H1) X
end
structure EndsD where
  nx : StD → HD → Prop
  rt : KD
  bk : StD → HD → Prop := fun _ _ => False
  ct : StD → HD → Prop := fun _ _ => False
  ex : Nat → StD → HD → Prop := fun _ _ _ => False
def wFor (g : Tgt) (body : EndsD → StD → HD → Prop) (D : EndsD) : List DL.D → StD → HD → Prop
  | [], σ, H => D.nx σ H
  | x :: xs, σ, H => ok (asg g x σ) fun σ' => body { D with nx := wFor g body D xs, ct := wFor g body D xs, bk := D.nx } σ' H
/-- .. over a live list that stays as it is -/
def wForL (gd : HD → Prop) (g : Tgt) (body : EndsD → StD → HD → Prop) (D : EndsD) : List DL.D → StD → HD → Prop
  | [], σ, H => gd H ∧ D.nx σ H
  | x :: xs, σ, H => gd H ∧ ok (asg g x σ) fun σ' => body { D with nx := wForL gd g body D xs, ct := wForL gd g body D xs, bk := D.nx } σ' H
def wWhl (t : StD → HD → (Bool → HD → Prop) → Prop) (body : EndsD → StD → HD → Prop) (D : EndsD) (σ : StD) (H : HD) : Prop :=
  ∃ W : Nat → StD → HD → Prop, (∃ m, W m σ H) ∧ ∀ m σ H, W m σ H →
    t σ H fun b H1 => match b with
      | true => body { D with nx := fun σ' H' => ∃ m', m' < m ∧ W m' σ' H', ct := fun σ' H' => ∃ m', m' < m ∧ W m' σ' H', bk := D.nx } σ H1
      | false => D.nx σ H1
def wSU (Γ : Gam) : SU → EndsD → StD → HD → Prop
  | .n => fun D σ H => D.nx σ H
  | .set i e r => fun D σ H => wE Γ e σ H (fun d H1 => wSU Γ r D (σ.set i (some d)) H1) fun _ _ => False
  | .ret e => fun D σ H => wE Γ e σ H D.rt fun _ _ => False
  | .ifr t e r => fun D σ H => wT Γ t σ H (fun k H1 => match k with | true => wE Γ e σ H1 D.rt fun _ _ => False | false => wSU Γ r D σ H1) fun _ _ => False
/-- the exception's name goes away behind the suite -/
def offD (n : Option Nat) (D : EndsD) : EndsD := match n with
  | none => D
  | some i => { D with nx := fun σ H => D.nx (σ.set i none) H, bk := fun σ H => D.bk (σ.set i none) H, ct := fun σ H => D.ct (σ.set i none) H }
def onD (n : Option Nat) (a : Addr) (σ : StD) : StD := match n with
  | none => σ
  | some i => σ.set i (some (.ref a))
mutual
def wS (Γ : Gam) : S → EndsD → StD → HD → Prop
  | .set i e => fun D σ H => wE Γ e σ H (fun d H1 => D.nx (σ.set i (some d)) H1) fun x H1 => D.ex x σ H1
  | .asg g e => fun D σ H => wE Γ e σ H (fun d H1 => ok (asg g d σ) fun σ' => D.nx σ' H1) fun x H1 => D.ex x σ H1
  | .setI o i e => fun D σ H => wE Γ e σ H (fun d H1 => wE Γ o σ H1 (fun x H2 => wE Γ i σ H2 (fun y H3 => match x, y with
      | .ref a, .int k => (match H3 a with | some (.lst ds) => (0 ≤ k ∧ k < ds.length) ∧ D.nx σ (updD H3 a (.lst (ds.set k.toNat d))) | _ => False)
      | _, _ => False) fun x H1 => D.ex x σ H1) fun x H1 => D.ex x σ H1) fun x H1 => D.ex x σ H1
  | .setF c o f e => fun D σ H => wE Γ e σ H (fun d H1 => wE Γ o σ H1 (fun x H2 => setFD c f x d H2 fun H3 => D.nx σ H3) fun x H1 => D.ex x σ H1) fun x H1 => D.ex x σ H1
  | .augF c o f e => fun D σ H => wE Γ o σ H (fun x H1 => ok (attD c f x H1) fun v => wE Γ e σ H1 (fun y H2 => match v, y with
      | .int i, .int j => setFD c f x (.int (i + j)) H2 fun H3 => D.nx σ H3
      | _, _ => False) fun x H1 => D.ex x σ H1) fun x H1 => D.ex x σ H1
  | .aug i o e => fun D σ H => ok (σ.getD i none) fun x => wE Γ e σ H (fun y H1 => match x, y with
      | .int _, .int _ => binD true o x y H1 fun d H2 => D.nx (σ.set i (some d)) H2
      | .str _, .str _ => binD true o x y H1 fun d H2 => D.nx (σ.set i (some d)) H2
      | _, _ => False) fun x H1 => D.ex x σ H1
  | .ex e => fun D σ H => wE Γ e σ H (fun _ H1 => D.nx σ H1) fun x H1 => D.ex x σ H1
  | .ret e => fun D σ H => wE Γ e σ H D.rt fun x H1 => D.ex x σ H1
  | .retN => fun D _ H => D.rt .non H
  | .ite t a b => fun D σ H => wT Γ t σ H (fun k H1 => match k with | true => wSs Γ a D σ H1 | false => wSs Γ b D σ H1) fun x H1 => D.ex x σ H1
  | .for_ g it b => fun D σ H => wI Γ it σ H (fun items H1 => wFor g (wSs Γ b) D items σ H1) fun x H1 => D.ex x σ H1
  | .forL g a b => fun D σ H => wE Γ a σ H (fun d H1 => ok (lvD d H1) fun items => wForL (gdD d items) g (wSs Γ b) D items σ H1) fun x H1 => D.ex x σ H1
  | .whl t b => fun D σ H => wWhl (fun σ H Q => wT Γ t σ H Q fun x H1 => D.ex x σ H1) (wSs Γ b) D σ H
  | .brk => fun D σ H => D.bk σ H
  | .cnt => fun D σ H => D.ct σ H
  | .pas => fun D σ H => D.nx σ H
  | .rai x => fun D σ H => D.ex x σ H
  | .fz i => fun D σ H => ok (σ.getD i none) fun d => frzD d H fun d' H1 => D.nx (σ.set i (some d')) H1
  | .tri b x n h => fun D σ H => wSs Γ b { D with ex := fun y σ' H' => match Γ.sb y x with
      | true => ∀ a, H' a = none → wSU { Γ with xc := some (a, y) } h (offD n D) (onD n a σ') H'
      | false => D.ex y σ' H' } σ H
def wSs (Γ : Gam) : Ss → EndsD → StD → HD → Prop
  | .n => fun D σ H => D.nx σ H
  | .c s ss => fun D σ H => wS Γ s { D with nx := wSs Γ ss D } σ H
end
end DL

namespace DL
open PySem PySem.Spec PyProof.Rows L2
abbrev St' := List (Option V)

/-! ## 5. Contexts and judgements -/
/-- an own class: its name, its instances' fields, its methods (each with its def's place), its __init__'s place -/
structure Oc where
  x : Str
  fds : List Str
  mts : List (Str × Nat)
  ini : Option Nat := none
structure Cfg where
  fns : List (Str × Nat)
  gls : List Str
  cls : List Str
  rp : Bool := false
  ocs : List Oc := []
/-- may repr stand here? -/
def Cfg.no (C : Cfg) : Cfg := { C with rp := false }
def Cfg.yes (C : Cfg) : Cfg := { C with rp := true }
/-- a method's def is told by class.name -/
def dotted (x : Str) : Bool := x.cps.toList.contains 46
def nameOk (x : Str) : Bool := !dotted x && !(x == ("__debug__" : Str)) && !(x == ("__classdict__" : Str)) && !(x == ("__name__" : Str))
def bltNames : List Str := ["len", "abs", "int", "bool", "str", "tuple", "list", "dict", "all", "any", "min", "max", "sum", "ord", "isinstance", "range", "enumerate", "zip", "reversed", "sorted", "repr", "ValueError"]
/-- a def's promise, from one over data -/
def lift (K : PySem.W.Frag) (fnm clm : Nat → Option Addr) (n : Nat) (sp : SpD) : Sp := fun vs H Q E => vs.length = n ∧
  ∃ (S : Addr → Option Bool) (G : HD) (ds : List D) (QD : KD) (XD : KX), Hel K fnm clm S H G ∧ DatAll K fnm S H G vs ds ∧ sp ds G QD XD ∧
    (∀ v S' H' d G', Step S H G S' H' G' → Hel K fnm clm S' H' G' → Dat K fnm S' H' G' v d → QD d G' → Q v H') ∧
    (∀ x c S' H' G', Step S H G S' H' G' → Hel K fnm clm S' H' G' → clm x = some c → XD x G' → E (.ref c) none H')
structure FnGood (P : Program) (w : World) (K : PySem.W.Frag) (mg : Str → Option Value) (base : Heap) (fnm clm : Nat → Option Addr) (k : Nat) (i : Nat) (x : Str × Nat) (sp : SpD) : Prop where
  ex : ∃ f fd ps, ps.length = x.2 ∧ fnm i = some f ∧ (dotted x.1 = false → mg x.1 = some (.ref f)) ∧ PySem.W.keepIn K (.ref f) = true ∧ Binds K fd ps [] ∧ FnOk P w K mg base (L2.CX P w) k f fd ps (lift K fnm clm x.2 sp)
/-- room for a def's call, behind a class's making, too -/
structure RoomM (k : Nat) (A : Around) : Prop where
  r : Room k A
  m : ∀ (c : Addr) (us : List Value), Room k (A.under (.builtin "type.__call__" ⟨.ref c :: us, []⟩))
theorem RoomM.of {k : Nat} {A : Around} (r : Room (k + 1) A) (env : Env) : RoomM k (A.deeper env) :=
  ⟨r.deeper env, fun c us => ⟨r.hd, by have h := r.dp; rw [make_depth]; show A.depth + 1 + 1 + 3 * k + 5 < _; omega, by have h := r.un; rw [make_units]; show A.units + 3 + 1 + 16 * k + 200 < _; omega⟩⟩
/-- an own class stands in the world -/
structure OcAt (K : PySem.W.Frag) (mg : Str → Option Value) (fnm : Nat → Option Addr) (j : Nat) (o : Oc) : Prop where
  ex : ∃ c, fnm (1000 + j) = some c ∧ mg o.x = some (.ref c) ∧ Cls K c ∧ (∀ f ∈ o.fds, NoAttr K c f) ∧ (∀ p ∈ o.mts, ∃ g, fnm p.2 = some g ∧ Meth K c p.1 g) ∧ ∀ i, o.ini = some i → ∃ g, fnm i = some g ∧ Mk K c g
structure COk (C : Cfg) (fnm clm : Nat → Option Addr) (Γ : Gam) (N : List Str) (sc : Scope) (X : Cx) (W : WX) : Prop where
  hN : X.N = N
  nd : N.Nodup
  hsc : X.env.scope = sc
  calm : X.calm = true
  tk : Takes X W
  po : PassesOwn (model X.prog X.w) X.A X.env X.xe
  fnk : ∃ k, RoomM k X.A ∧ ∀ i x, C.fns[i]? = some x → FnGood X.prog X.w X.K X.mg X.base fnm clm k i x (Γ.sp i)
  blt : ∀ x ∈ bltNames, X.mg x = none
  gls : ∀ i x, C.gls[i]? = some x → ∃ u v, X.mg x = some u ∧ RelV v u ∧ ∀ S H G, Dat X.K fnm S H G v (Γ.gl i)
  cls : ∀ i x, C.cls[i]? = some x → ∃ c, clm i = some c ∧ X.mg x = some (.ref c) ∧ PySem.W.excIn X.K c He.veBase "ValueError.__new__" = true ∧ PySem.W.keepIn X.K (.ref c) = true ∧ Raises X (.ref c)
  grd : C.rp = true → X.A.guards = some []
  exm : ∀ i j c d, clm i = some c → clm j = some d → PySem.W.exmOne X.K (.ref c) (.ref d) = some (Γ.sb i j)
  ocs : ∀ j o, C.ocs[j]? = some o → OcAt X.K X.mg fnm j o
  isx : ∀ i c, clm i = some c → L2.ExcC X.K c ∧ PySem.W.kitOne X.K (.ref c) (.type "ValueError") = some true ∧ ∀ j d, clm j = some d → PySem.W.kitOne X.K (.ref c) (.ref d) = some (Γ.sb i j)
section
variable (K : PySem.W.Frag) (fnm clm : Nat → Option Addr)
def PostE (S : Addr → Option Bool) (H : Hp) (G : HD) (QD : KD) (Q : VK) : Prop := ∀ v S' H' d G', Step S H G S' H' G' → Hel K fnm clm S' H' G' → Dat K fnm S' H' G' v d → QD d G' → Q v H'
def PostT (S : Addr → Option Bool) (H : Hp) (G : HD) (QD : Bool → HD → Prop) (Q : Bool → Hp → Prop) : Prop := ∀ b S' H' G', Step S H G S' H' G' → Hel K fnm clm S' H' G' → QD b G' → Q b H'
def PostA (S : Addr → Option Bool) (H : Hp) (G : HD) (n : Nat) (QD : List D → HD → Prop) (Q : List V → Hp → Prop) : Prop := ∀ vs S' H' ds G', vs.length = n → Step S H G S' H' G' → Hel K fnm clm S' H' G' → DatAll K fnm S' H' G' vs ds → QD ds G' → Q vs H'
def PostX (W : WX) (σ : St') (S : Addr → Option Bool) (H : Hp) (G : HD) (XD : KX) : Prop := ∀ x c S' H' G', Step S H G S' H' G' → Hel K fnm clm S' H' G' → clm x = some c → XD x G' → W (.ref c) none σ H'
def RefE (W : WX) (te : TE) (t : StD → HD → KD → KX → Prop) : Prop :=
  ∀ S (σ : St') σD H G Q QD XD, Hel K fnm clm S H G → SlotOk K fnm S H G σ σD → t σD G QD XD → PostE K fnm clm S H G QD Q → PostX K fnm clm W σ S H G XD → te σ H Q
def RefT (W : WX) (te : TT) (t : StD → HD → (Bool → HD → Prop) → KX → Prop) : Prop :=
  ∀ S (σ : St') σD H G Q QD XD, Hel K fnm clm S H G → SlotOk K fnm S H G σ σD → t σD G QD XD → PostT K fnm clm S H G QD Q → PostX K fnm clm W σ S H G XD → te σ H Q
def RefA (W : WX) (n : Nat) (te : TA) (t : StD → HD → (List D → HD → Prop) → KX → Prop) : Prop :=
  ∀ S (σ : St') σD H G Q QD XD, Hel K fnm clm S H G → SlotOk K fnm S H G σ σD → t σD G QD XD → PostA K fnm clm S H G n QD Q → PostX K fnm clm W σ S H G XD → te σ H Q
def RefO (W : WX) (te : TO) (t : StD → HD → (Option Int → HD → Prop) → KX → Prop) : Prop :=
  ∀ S (σ : St') σD H G (Q : Option Int → Hp → Prop) QD XD, Hel K fnm clm S H G → SlotOk K fnm S H G σ σD → t σD G QD XD → (∀ o S' H' G', Step S H G S' H' G' → Hel K fnm clm S' H' G' → QD o G' → Q o H') → PostX K fnm clm W σ S H G XD → te σ H Q
/-- what is walked: from now on, whatever happens, the i-th turn brings the i-th of these -/
structure ItOk (J : It) (S : Addr → Option Bool) (H : Hp) (G : HD) (items : List D) : Prop where
  len : items.length ≤ sizeLine
  go : ∀ S' H' G', Step S H G S' H' G' → Hel K fnm clm S' H' G' → ∀ i d, items[i]? = some d → J.go i H' ∧ ∀ x H'', J.yld i H' x H'' → Step S' H' G' S' H'' G' ∧ Hel K fnm clm S' H'' G' ∧ Dat K fnm S' H'' G' x d
  stop : ∀ S' H' G', Step S H G S' H' G' → Hel K fnm clm S' H' G' → J.stop items.length H'
def RefI (W : WX) (wi : TI) (t : StD → HD → (List D → HD → Prop) → KX → Prop) : Prop :=
  ∀ S (σ : St') σD H G (R : It → Hp → Prop) QD XD, Hel K fnm clm S H G → SlotOk K fnm S H G σ σD → t σD G QD XD →
    (∀ J S' H' G' items, Step S H G S' H' G' → Hel K fnm clm S' H' G' → ItOk K fnm clm J S' H' G' items → QD items G' → R J H') → PostX K fnm clm W σ S H G XD → wi σ H R
structure PostS (S : Addr → Option Bool) (H : Hp) (G : HD) (ED : EndsD) (D : Ends) : Prop where
  nx : ∀ (σ' : St') σD' S' H' G', Step S H G S' H' G' → Hel K fnm clm S' H' G' → SlotOk K fnm S' H' G' σ' σD' → ED.nx σD' G' → D.nx σ' H'
  bk : ∀ (σ' : St') σD' S' H' G', Step S H G S' H' G' → Hel K fnm clm S' H' G' → SlotOk K fnm S' H' G' σ' σD' → ED.bk σD' G' → D.bk σ' H'
  ct : ∀ (σ' : St') σD' S' H' G', Step S H G S' H' G' → Hel K fnm clm S' H' G' → SlotOk K fnm S' H' G' σ' σD' → ED.ct σD' G' → D.ct σ' H'
  rt : PostE K fnm clm S H G ED.rt D.rt
def PostXS (W : WX) (S : Addr → Option Bool) (H : Hp) (G : HD) (XD : Nat → StD → HD → Prop) : Prop :=
  ∀ x c (σ' : St') σD' S' H' G', Step S H G S' H' G' → Hel K fnm clm S' H' G' → SlotOk K fnm S' H' G' σ' σD' → clm x = some c → XD x σD' G' → W (.ref c) none σ' H'
def RefS (W : WX) (ts : TS) (t : EndsD → StD → HD → Prop) : Prop :=
  ∀ S (σ : St') σD H G D ED, Hel K fnm clm S H G → SlotOk K fnm S H G σ σD → t ED σD G → PostS K fnm clm S H G ED D → PostXS K fnm clm W S H G ED.ex → ts D σ H
end
section
variable {K : PySem.W.Frag} {fnm clm : Nat → Option Addr} {S S' : Addr → Option Bool} {H H' : Hp} {G G' : HD}
theorem PostE.step {QD : KD} {Q : VK} (h : PostE K fnm clm S H G QD Q) (st : Step S H G S' H' G') : PostE K fnm clm S' H' G' QD Q :=
  fun v S2 H2 d G2 s2 => h v S2 H2 d G2 (st.trans s2)
theorem PostT.step {QD : Bool → HD → Prop} {Q : Bool → Hp → Prop} (h : PostT K fnm clm S H G QD Q) (st : Step S H G S' H' G') : PostT K fnm clm S' H' G' QD Q :=
  fun v S2 H2 G2 s2 => h v S2 H2 G2 (st.trans s2)
theorem PostX.step {W : WX} {σ : St'} {XD : KX} (h : PostX K fnm clm W σ S H G XD) (st : Step S H G S' H' G') : PostX K fnm clm W σ S' H' G' XD :=
  fun x c S2 H2 G2 s2 => h x c S2 H2 G2 (st.trans s2)
theorem PostS.step {ED : EndsD} {D : Ends} (h : PostS K fnm clm S H G ED D) (st : Step S H G S' H' G') : PostS K fnm clm S' H' G' ED D :=
  ⟨fun a b c d e s2 => h.nx a b c d e (st.trans s2), fun a b c d e s2 => h.bk a b c d e (st.trans s2), fun a b c d e s2 => h.ct a b c d e (st.trans s2), h.rt.step st⟩
theorem PostXS.step {W : WX} {XD : Nat → StD → HD → Prop} (h : PostXS K fnm clm W S H G XD) (st : Step S H G S' H' G') : PostXS K fnm clm W S' H' G' XD :=
  fun x c a b S2 H2 G2 s2 => h x c a b S2 H2 G2 (st.trans s2)
theorem PostXS.at {W : WX} {XD : Nat → StD → HD → Prop} {σ : St'} {σD : StD} (R : Hel K fnm clm S H G) (sl : SlotOk K fnm S H G σ σD) (h : PostXS K fnm clm W S H G XD) : PostX K fnm clm W σ S H G (fun x => XD x σD) :=
  fun x c S2 H2 G2 s2 r2 hc hx => h x c σ σD S2 H2 G2 s2 r2 (sl.step R s2) hc hx
end
def isStar : Expr → Bool
  | .Starred _ _ => true
  | _ => false
theorem star_no {e : Expr} (h : isStar e = false) (es : List Expr) (env : Env) : starEach (e :: es) env = (false, eval e env) :: starEach es env := by
  cases e <;> first | rfl | cases h
def isComp : Expr → Bool
  | .ListComp .. => true
  | .SetComp .. => true
  | .DictComp .. => true
  | _ => false
theorem swap_no {e : Expr} (h : isComp e = false) (t : Option Expr) (l : Nat) (env : Env) : swapsWith e t l env = pure false := by
  cases e <;> first | rfl | cases h
/-- what is asked of an expression besides -/
structure JE (fnm clm : Nat → Option Addr) (X : Cx) (W : WX) (e : Expr) (t : StD → HD → KD → KX → Prop) : Prop where
  star : isStar e = false
  ex : ∃ te, PE X e te ∧ RefE X.K fnm clm W te t
def JT (fnm clm : Nat → Option Addr) (X : Cx) (W : WX) (e : Expr) (t : StD → HD → (Bool → HD → Prop) → KX → Prop) : Prop := ∃ te, PT X e te ∧ RefT X.K fnm clm W te t
structure JA (fnm clm : Nat → Option Addr) (X : Cx) (W : WX) (es : List Expr) (t : StD → HD → (List D → HD → Prop) → KX → Prop) : Prop where
  star : ∀ e ∈ es, isStar e = false
  ex : ∃ te, PA X es te ∧ RefA X.K fnm clm W es.length te t
def JI (fnm clm : Nat → Option Addr) (X : Cx) (W : WX) (tg e : Expr) (t : StD → HD → (List D → HD → Prop) → KX → Prop) : Prop := ∃ te, PI X tg e te ∧ RefI X.K fnm clm W te t
def JS (fnm clm : Nat → Option Addr) (X : Cx) (W : WX) (s : Stmt) (t : EndsD → StD → HD → Prop) : Prop := ∃ te, PS X s te ∧ RefS X.K fnm clm W te t
def JSs (fnm clm : Nat → Option Addr) (X : Cx) (W : WX) (s : List Stmt) (t : EndsD → StD → HD → Prop) : Prop := ∃ te, PSs X s te ∧ RefS X.K fnm clm W te t

section
variable {C : Cfg} {fnm clm : Nat → Option Addr} {Γ : Gam} {N : List Str} {sc : Scope} {X : Cx} {W : WX}

/-! ## 6. Expressions -/
theorem vis_of (k : COk C fnm clm Γ N sc X W) {x : Str} (h : (match sc.names.lookup x with | some .local => true | some .cell => true | some .free => true | _ => false) = true) : Vis X.env.scope x := by
  rw [k.hsc]
  unfold Vis
  split at h <;> simp_all
theorem name_debug {x : Str} (h : nameOk x = true) : (x == ("__debug__" : Str)) = false ∧ (x == ("__classdict__" : Str)) = false ∧ x ≠ "__name__" := by
  unfold nameOk at h
  simp only [Bool.and_eq_true, Bool.not_eq_true', beq_eq_false_iff_ne] at h
  exact ⟨by simpa using h.1.1.2, by simpa using h.1.2, h.2⟩
theorem name_dot {x : Str} (h : nameOk x = true) : dotted x = false := by
  unfold nameOk at h
  simp only [Bool.and_eq_true, Bool.not_eq_true'] at h
  exact h.1.1.1
theorem je_var (k : COk C fnm clm Γ N sc X W) {i : Nat} {x : Str} {pos : Pos} (hi : N[i]? = some x) (hv : Vis X.env.scope x) (hx : nameOk x = true) : JE fnm clm X W (.Name x pos) (wE Γ (.var i)) := by
  obtain ⟨h1, h2, h3⟩ := name_debug hx
  refine ⟨rfl, _, pe_var (by rw [k.hN]; exact hi) hv h1 h2, fun S σ σD H G Q QD XD R sl h hQ hX => ?_⟩
  have h : ok (σD.getD i none) fun d => QD d G := h
  cases e : σD.getD i none with
  | none => rw [e] at h; exact h.elim
  | some d =>
    rw [e] at h
    have e2 : σD[i]? = some (some d) := by
      rw [List.getD_eq_getElem?_getD] at e
      cases q : σD[i]? with
      | none => rw [q] at e; cases e
      | some z => rw [q] at e; simp at e; rw [e]
    obtain ⟨v, h1, h2⟩ := sl.2 i d e2
    exact ⟨v, h1, hQ v S H d G .refl R h2 h⟩
theorem je_con {c : Const} {d : D} {j : Nat} {pos : Pos} (h : match c, d with | .none, .non => True | .bool a, .bl b => a = b | .int i, .int j => i = j | .str s, .str l => s = mkStr l ∧ PyData.strOk s = true ∧ l.length ≤ sizeLine | _, _ => False) :
    JE fnm clm X W (.Constant c j pos) (wE Γ (.con d)) := by
  refine ⟨rfl, ?_⟩
  cases c <;> cases d <;> simp only at h
  · exact ⟨_, pe_non, fun S σ σD H G Q QD XD R sl h hQ hX => hQ _ S H _ G .refl R .non h⟩
  · subst h; exact ⟨_, pe_bl, fun S σ σD H G Q QD XD R sl h hQ hX => hQ _ S H _ G .refl R (.bl _) h⟩
  · subst h; exact ⟨_, pe_int, fun S σ σD H G Q QD XD R sl h hQ hX => hQ _ S H _ G .refl R (.int _) h⟩
  · obtain ⟨rfl, h2, h3⟩ := h; exact ⟨_, pe_str, fun S σ σD H G Q QD XD R sl h hQ hX => hQ _ S H _ G .refl R (.str _ h2 h3) h⟩
theorem gl_of (k : COk C fnm clm Γ N sc X W) {x : Str} (h : (match sc.names.lookup x with | some .globalImplicit => true | _ => false) = true) : Gl X x := by
  show X.env.scope.names.lookup x = _
  rw [k.hsc]
  split at h <;> simp_all
theorem je_glb (k : COk C fnm clm Γ N sc X W) {i : Nat} {x : Str} {pos : Pos} (hi : C.gls[i]? = some x) (hg : Gl X x) (hx : nameOk x = true) : JE fnm clm X W (.Name x pos) (wE Γ (.glb i)) := by
  obtain ⟨h1, h2, h3⟩ := name_debug hx
  obtain ⟨u, v, hm, r, hd⟩ := k.gls i x hi
  exact ⟨rfl, _, pe_glob hg hm r h1, fun S σ σD H G Q QD XD R sl h hQ hX => hQ _ S H _ G .refl R (hd S H G) h⟩
/-- two in a row -/
theorem ref2 {ta tb : TE} {t u : StD → HD → KD → KX → Prop} (ha : RefE X.K fnm clm W ta t) (hb : RefE X.K fnm clm W tb u) {S : Addr → Option Bool} {σ : St'} {σD : StD} {H : Hp} {G : HD} {XD : KX} {RD : D → D → HD → Prop} {R2 : V → V → Hp → Prop}
    (R : Hel X.K fnm clm S H G) (sl : SlotOk X.K fnm S H G σ σD) (h : t σD G (fun x G1 => u σD G1 (fun y G2 => RD x y G2) XD) XD)
    (hQ : ∀ v v' S' H' d d' G', Step S H G S' H' G' → Hel X.K fnm clm S' H' G' → Dat X.K fnm S' H' G' v d → Dat X.K fnm S' H' G' v' d' → RD d d' G' → R2 v v' H') (hX : PostX X.K fnm clm W σ S H G XD) :
    ta σ H fun x H1 => tb σ H1 fun y H2 => R2 x y H2 := by
  refine ha S σ σD H G _ _ XD R sl h (fun v S1 H1 d G1 st1 R1 r1 h1 => ?_) hX
  refine hb S1 σ σD H1 G1 _ _ XD R1 (sl.step R st1) h1 (fun v' S2 H2 d' G2 st2 R2' r2 h2 => ?_) (hX.step st1)
  exact hQ v v' S2 H2 d d' G2 (st1.trans st2) R2' (r1.step R1 st2) r2 h2
/-- an operator by values -/
theorem je_op2 {op : Operator} {r : R2} {a b : Expr} {pos : Pos} {t u : StD → HD → KD → KX → Prop} {rd : D → D → HD → KD → Prop} (ho : OpR X (binaryOp op) r) (ha : JE fnm clm X W a t) (hb : JE fnm clm X W b u)
    (hr : ∀ v v' d d' S H G Q QD, Hel X.K fnm clm S H G → Dat X.K fnm S H G v d → Dat X.K fnm S H G v' d' → rd d d' G QD → PostE X.K fnm clm S H G QD Q → r v v' H Q) :
    JE fnm clm X W (.BinOp a op b pos) (fun σ H Q X => t σ H (fun x H1 => u σ H1 (fun y H2 => rd x y H2 Q) X) X) := by
  obtain ⟨_, ta, pa, ra⟩ := ha
  obtain ⟨_, tb, pb, rb⟩ := hb
  refine ⟨rfl, _, pe_op ho pa pb, fun S σ σD H G Q QD XD R sl h hQ hX => ?_⟩
  exact ref2 ra rb R sl h (fun v v' S' H' d d' G' st R' r1 r2 h' => hr v v' d d' S' H' G' Q QD R' r1 r2 h' (hQ.step st)) hX
end
end DL

namespace DL
open PySem PySem.Spec PyProof.Rows L2
/-! ## 7. Values -/
section
variable {K : PySem.W.Frag} {fnm clm : Nat → Option Addr} {S : Addr → Option Bool} {H : Hp} {G : HD} {v v' : V} {d d' : D} {Q : VK} {QD : KD}
theorem lim_eq : sizeLine = lim := sizeLine_eq
theorem dat_int {i : Int} (r : Dat K fnm S H G v (.int i)) : v = .int i := by cases r; rfl
theorem dat_bl {i : Bool} (r : Dat K fnm S H G v (.bl i)) : v = .bl i := by cases r; rfl
theorem dat_non (r : Dat K fnm S H G v .non) : v = .non := by cases r; rfl
theorem dat_str {s : List Nat} (r : Dat K fnm S H G v (.str s)) : v = .str (mkStr s) ∧ PyData.strOk (mkStr s) = true ∧ s.length ≤ sizeLine := by cases r; exact ⟨rfl, by assumption, by assumption⟩
theorem dat_ref {a : Addr} (r : Dat K fnm S H G v (.ref a)) : v = .ref a := by cases r; rfl
theorem dat_tupP {ds : List D} (r : Dat K fnm S H G v (.tup ds)) : ∃ a vs, v = .ref a ∧ SqP K H a vs ∧ vs.length ≤ sizeLine ∧ DatAll K fnm S H G vs ds := by
  cases r; exact ⟨_, _, rfl, by assumption, by assumption, by assumption⟩
theorem dat_tup {ds : List D} (r : Dat K fnm S H G v (.tup ds)) : ∃ a vs, v = .ref a ∧ SqT K H a vs ∧ vs.length ≤ sizeLine ∧ DatAll K fnm S H G vs ds := by
  obtain ⟨a, vs, h1, h2, h3⟩ := dat_tupP r
  exact ⟨a, vs, h1, h2.sq, h3⟩
theorem dat_tpl {ds : List D} (r : Dat K fnm S H G v (.tpl ds)) : ∃ a vs, v = .ref a ∧ SqT K H a vs ∧ vs.length ≤ sizeLine ∧ DatAll K fnm S H G vs ds := by
  cases r; exact ⟨_, _, rfl, by assumption, by assumption, by assumption⟩
theorem dat_lst {ds : List D} (r : Dat K fnm S H G v (.lst ds)) : ∃ a vs, v = .ref a ∧ LAt K S H G a vs ∧ vs.length ≤ sizeLine ∧ DatAll K fnm S H G vs ds := by
  cases r; exact ⟨_, _, rfl, .inl ⟨by assumption, by assumption, by assumption⟩, by assumption, by assumption⟩
theorem dat_scr {ds : List D} (r : Dat K fnm S H G v (.scr ds)) : ∃ a vs, v = .ref a ∧ LAt K S H G a vs ∧ vs.length ≤ sizeLine ∧ DatAll K fnm S H G vs ds := by
  cases r; exact ⟨_, _, rfl, .inr (by assumption), by assumption, by assumption⟩
theorem strOk_iff {s : List Nat} : PyData.strOk (mkStr s) = true ↔ ∀ c ∈ s, c < 0x110000 := by
  simp [PyData.strOk, mkStr, Array.all_toList.symm]
theorem seq_ok (R : Hel K fnm clm S H G) (r : Dat K fnm S H G v d) {ds : List D} (e : seqOf d G = some ds) : ∃ a vs, v = .ref a ∧ SqL K H a vs ∧ vs.length ≤ sizeLine ∧ DatAll K fnm S H G vs ds := by
  cases d with
  | lst xs =>
    obtain ⟨a, vs, h1, h2, h5, h6⟩ := dat_lst r
    cases e
    exact ⟨a, vs, h1, h2.sq, h5, h6⟩
  | scr xs =>
    obtain ⟨a, vs, h1, h2, h5, h6⟩ := dat_scr r
    cases e
    exact ⟨a, vs, h1, h2.sq, h5, h6⟩
  | ref a =>
    have h := dat_ref r
    cases q : G a with
    | none => simp [seqOf, q] at e
    | some c =>
      simp only [seqOf, q] at e
      cases c with
      | lst xs =>
        cases e
        obtain ⟨vs, h1, h2, h3⟩ := R.cell a _ q
        exact ⟨a, vs, h, SqL.of h1, h2, h3⟩
      | dct _ => cases e
      | ins _ _ => cases e
  | _ => cases e
theorem seqH_ok (R : Hel K fnm clm S H G) (r : Dat K fnm S H G v d) {ds : List D} (e : seqH d G = some ds) : ∃ a vs, v = .ref a ∧ H a = some (.lst vs) ∧ vs.length ≤ sizeLine ∧ DatAll K fnm S H G vs ds := by
  cases d with
  | lst xs =>
    cases e
    cases r; exact ⟨_, _, rfl, by assumption, by assumption, by assumption⟩
  | ref a =>
    have h := dat_ref r
    cases q : G a with
    | none => simp [seqH, q] at e
    | some c =>
      simp only [seqH, q] at e
      cases c with
      | lst xs =>
        cases e
        obtain ⟨vs, h1, h2, h3⟩ := R.cell a _ q
        exact ⟨a, vs, h, h1, h2, h3⟩
      | dct _ => cases e
      | ins _ _ => cases e
  | _ => cases e
theorem itm_ok (R : Hel K fnm clm S H G) (r : Dat K fnm S H G v d) {ds : List D} (e : itms d G = some ds) : ∃ a vs, v = .ref a ∧ (SqL K H a vs ∨ SqT K H a vs) ∧ vs.length ≤ sizeLine ∧ DatAll K fnm S H G vs ds := by
  cases d with
  | tup xs =>
    cases e
    obtain ⟨a, vs, h1, h2, h3, h4⟩ := dat_tup r
    exact ⟨a, vs, h1, .inr h2, h3, h4⟩
  | tpl xs =>
    cases e
    obtain ⟨a, vs, h1, h2, h3, h4⟩ := dat_tpl r
    exact ⟨a, vs, h1, .inr h2, h3, h4⟩
  | lst xs => obtain ⟨a, vs, h1, h2, h3, h4⟩ := seq_ok R r e; exact ⟨a, vs, h1, .inl h2, h3, h4⟩
  | scr xs => obtain ⟨a, vs, h1, h2, h3, h4⟩ := seq_ok R r e; exact ⟨a, vs, h1, .inl h2, h3, h4⟩
  | ref a => obtain ⟨a, vs, h1, h2, h3, h4⟩ := seq_ok R r e; exact ⟨a, vs, h1, .inl h2, h3, h4⟩
  | _ => cases e
theorem ok_of {α : Type} {o : Option α} {k : α → Prop} (h : ok o k) : ∃ a, o = some a ∧ k a := by
  cases o with
  | none => exact h.elim
  | some a => exact ⟨a, rfl, h⟩
theorem new_list (R : Hel K fnm clm S H G) {z : Bool} {vs : List V} {ds : List D} (hz : vs.length ≤ sizeLine) (r : DatAll K fnm S H G vs ds) (h : newL z ds G QD) (hQ : PostE K fnm clm S H G QD Q) :
    ∀ p, H p = none → Q (.ref p) (upd H p (.lst vs)) := fun p hp => by
  cases z with
  | true => exact hQ _ S _ _ G (.newU hp) (R.newU hp) (.lst upd_same (R.free hp).1 (R.free hp).2 hz (r.step R (.newU hp))) h
  | false => exact hQ _ S _ _ _ (.new hp) (R.newL hp hz r) (.ref p) (h p (R.free hp).1)
theorem new_tup (R : Hel K fnm clm S H G) {vs : List V} {ds : List D} (hz : vs.length ≤ sizeLine) (r : DatAll K fnm S H G vs ds) (h : QD (.tup ds) G) (hQ : PostE K fnm clm S H G QD Q) :
    NewP H vs Q := fun p ob hp hd =>
  hQ _ S _ _ G (.newU hp) (R.newU hp) (.tup (.inl ⟨ob, upd_same, hd⟩) hz (r.step R (.newU hp))) h
theorem PostE.here (R : Hel K fnm clm S H G) (hQ : PostE K fnm clm S H G QD Q) (r : Dat K fnm S H G v d) (h : QD d G) : Q v H := hQ v S H d G .refl R r h
theorem PostT.here {b : Bool} {Q : Bool → Hp → Prop} {QD : Bool → HD → Prop} (R : Hel K fnm clm S H G) (hQ : PostT K fnm clm S H G QD Q) (h : QD b G) : Q b H := hQ b S H G .refl R h
end
section
variable {fnm clm : Nat → Option Addr} {X : Cx}
/-! ### operators -/
theorem fold_rep (x : List Nat) : ∀ (n : Nat) (acc : Array Nat), ((List.replicate n x.toArray).foldl (· ++ ·) acc) = acc ++ ((List.replicate n x).flatten).toArray
  | 0, acc => by simp
  | n + 1, acc => by
    rw [List.replicate_succ, List.foldl_cons, fold_rep x n, List.replicate_succ, List.flatten_cons]
    simp [Array.append_assoc]
theorem rep_len (s : List Nat) (n : Nat) : ((List.replicate n s).flatten).length = s.length * n := by
  rw [List.length_flatten]; simp; rw [Nat.mul_comm]
theorem op_mulS {X : Cx} : OpR X (binaryOp .Mult) (fun x y H Q => ∃ (s : List Nat) (n : Int), x = .str (mkStr s) ∧ y = .int n ∧ (0 ≤ n ∧ n ≤ lim) ∧ s.length * n.toNat ≤ lim ∧ Q (.str (mkStr (List.replicate n.toNat s).flatten)) H) := by
  intro pins st σ H x y v u Q I rx ry h
  obtain ⟨s, n, rfl, rfl, ⟨h0, h1⟩, h2, q⟩ := h
  obtain ⟨t, rfl⟩ := rx
  obtain ⟨t', rfl⟩ := ry
  have hlim : lim = 16777216 := rfl
  have hl := mkStr_length s
  refine PySem.P.mul_str ?_ (fun a b => ?_) (fun a b => ?_) ?_
  · rw [decide_eq_false (by omega), decide_eq_false (by omega)]; rfl
  · rw [hl]
    intro z
    have : (s.length : Int) * n ≤ 16777216 := by
      have := Int.ofNat_le.mpr h2
      rw [Int.natCast_mul, Int.toNat_of_nonneg h0] at this
      exact this
    have e : (2 : Int) ^ 63 - 1 = 9223372036854775807 := by decide
    rw [e] at z
    have := (Int.ediv_lt_iff_lt_mul (by omega)).mp z
    omega
  · rw [hl]
    unfold Builtin.Str.tooLong
    rw [lim_eq]
    exact decide_eq_false (by omega)
  · by_cases c1 : n < 1
    · have : n = 0 := by omega
      subst this
      rw [if_pos (by decide)]
      exact ⟨by decide, .str (mkStr []), H, I.tok _, ⟨_, rfl⟩, q⟩
    · rw [if_neg c1]
      by_cases c2 : (n == 1 || (mkStr s).length == 0) = true
      · rw [if_pos c2]
        have e : (List.replicate n.toNat s).flatten = s := by
          rw [hl, Bool.or_eq_true] at c2
          rcases c2 with c2 | c2
          · have : n = 1 := by simpa using c2
            subst this; simp
          · have : s = [] := by simpa using c2
            subst this; simp
        rw [e] at q
        exact ⟨.str (mkStr s), H, I, ⟨_, rfl⟩, q⟩
      · rw [if_neg c2]
        have e : (⟨(List.replicate n.toNat (mkStr s).cps).foldl (· ++ ·) #[]⟩ : Str) = mkStr (List.replicate n.toNat s).flatten := by
          unfold mkStr
          rw [fold_rep]; simp
        rw [e]
        exact ⟨by rw [mkStr_length, rep_len, lim_eq]; exact h2, .str _, H, I.tok _, ⟨_, rfl⟩, q⟩
def bopB : BOp → Operator → Bool
  | .add, .Add => true | .sub, .Sub => true | .mul, .Mult => true | .fdiv, .FloorDiv => true | .mod, .Mod => true | .pow, .Pow => true
  | .xor, .BitXor => true | .bor, .BitOr => true | .band, .BitAnd => true | .shl, .LShift => true | .shr, .RShift => true
  | _, _ => false
theorem wide_ok {j : Int} (h : 0 < j ∧ j < 2 ^ 200) : CDivW 0 j := by
  refine wide_div (b := 200) h.1 ?_ (by decide) (by decide)
  have : (j.natAbs : Int) < ((2 ^ 200 : Nat) : Int) := by
    rw [Int.natAbs_of_nonneg (Int.le_of_lt h.1)]
    exact_mod_cast h.2
  exact_mod_cast this
theorem bin_ok {z : Bool} {o : BOp} {op : Operator} (ho : bopB o op = true) : ∃ r, OpR X (binaryOp op) r ∧
    ∀ v v' d d' S H G Q QD, Hel X.K fnm clm S H G → Dat X.K fnm S H G v d → Dat X.K fnm S H G v' d' → binD z o d d' G QD → PostE X.K fnm clm S H G QD Q → r v v' H Q := by
  cases o <;> cases op <;> first | cases ho | skip
  -- add
  · refine ⟨_, op_add.or (op_add_str.or (op_catP.or op_cat)), fun v v' d d' S H G Q QD R r r' h hQ => ?_⟩
    have seqs : ∀ {x y : D}, Dat X.K fnm S H G v x → Dat X.K fnm S H G v' y → (ok (seqH x G) fun a => ok (seqH y G) fun b => a.length + b.length ≤ lim ∧ newL z (a ++ b) G QD) → rCat v v' H Q := by
      intro x y rx ry h
      obtain ⟨a, e1, h⟩ := ok_of h
      obtain ⟨b, e2, h1, h2⟩ := ok_of h
      obtain ⟨p, vs, rfl, hp, zp, rp⟩ := seqH_ok R rx e1
      obtain ⟨q, ws, rfl, hq, zq, rq⟩ := seqH_ok R ry e2
      refine ⟨p, q, vs, ws, rfl, rfl, hp, hq, ?_, ?_⟩
      · rw [rp.length, rq.length, lim_eq]; exact h1
      · exact new_list R (by rw [List.length_append, rp.length, rq.length, lim_eq]; exact h1) (rp.append rq) h2 hQ
    cases d with
    | int i =>
      cases d' with
      | int j =>
        cases dat_int r; cases dat_int r'
        exact .inl ⟨i, j, rfl, rfl, hQ.here R (.int _) h⟩
      | _ => exact .inr (.inr (.inr (seqs r r' h)))
    | str s =>
      cases d' with
      | str t =>
        obtain ⟨rfl, k1, _⟩ := dat_str r
        obtain ⟨rfl, k2, _⟩ := dat_str r'
        refine .inr (.inl ⟨_, _, rfl, rfl, by rw [mkStr_length, mkStr_length, lim_eq]; exact h.1, ?_⟩)
        rw [mkStr_append]
        refine hQ.here R (.str _ ?_ (by rw [List.length_append, lim_eq]; exact h.1)) h.2
        rw [strOk_iff] at k1 k2 ⊢
        intro c hc
        rcases List.mem_append.mp hc with q | q
        · exact k1 c q
        · exact k2 c q
      | _ => exact .inr (.inr (.inr (seqs r r' h)))
    | tup s =>
      cases d' with
      | tup t =>
        obtain ⟨a, vs, rfl, h1, z1, r1⟩ := dat_tupP r
        obtain ⟨b, ws, rfl, h2, z2, r2⟩ := dat_tupP r'
        refine .inr (.inr (.inl ⟨a, b, vs, ws, rfl, rfl, h1.sq, h2.sq, by rw [r1.length, r2.length, lim_eq]; exact h.1, fun e => ?_, fun _ e => ?_, fun _ _ => ?_⟩))
        · subst e; cases r1
          exact hQ.here R (.tup h2 z2 r2) h.2
        · subst e; cases r2
          exact hQ.here R (.tup h1 z1 r1) (by have := h.2; rw [List.append_nil] at this; exact this)
        · exact new_tup R (by rw [List.length_append, r1.length, r2.length, lim_eq]; exact h.1) (r1.append r2) h.2 hQ
      | _ => exact .inr (.inr (.inr (seqs r r' h)))
    | _ => exact .inr (.inr (.inr (seqs r r' h)))
  -- sub
  · refine ⟨_, op_sub, fun v v' d d' S H G Q QD R r r' h hQ => ?_⟩
    cases d <;> try exact h.elim
    cases d' <;> try exact h.elim
    cases dat_int r; cases dat_int r'
    exact ⟨_, _, rfl, rfl, hQ.here R (.int _) h⟩
  -- mul
  · refine ⟨_, op_mul.or (op_mulS.or op_rep), fun v v' d d' S H G Q QD R r r' h hQ => ?_⟩
    have seqs : ∀ {x : D} {n : Int}, Dat X.K fnm S H G v x → Dat X.K fnm S H G v' (.int n) → (ok (seqH x G) fun a => (0 ≤ n ∧ n ≤ lim) ∧ a.length * n.toNat ≤ lim ∧ newL z (List.replicate n.toNat a).flatten G QD) → rRep v v' H Q := by
      intro x n rx ry h
      obtain ⟨a, e1, h0, h1, h2⟩ := ok_of h
      obtain ⟨p, vs, rfl, hp, zp, rp⟩ := seqH_ok R rx e1
      cases dat_int ry
      refine ⟨p, n, vs, rfl, rfl, hp, by omega, by have := h0.2; unfold lim at this; omega, by rw [rp.length, lim_eq]; exact h1, ?_⟩
      have hl : ((List.replicate n.toNat vs).flatten).length ≤ sizeLine := by rw [(rp.rep n.toNat).length, List.length_flatten]; simp; rw [Nat.mul_comm, lim_eq]; exact h1
      exact new_list R hl (rp.rep _) h2 hQ
    cases d with
    | int i =>
      cases d' with
      | int j =>
        cases dat_int r; cases dat_int r'
        refine .inl ⟨i, j, rfl, rfl, ?_, hQ.here R (.int _) h.2⟩
        have e : (2 : Int) ^ 64 = 18446744073709551616 := by decide
        unfold CMul
        rw [e]
        exact h.1
      | _ => exact h.elim
    | str s =>
      cases d' with
      | int j =>
        obtain ⟨rfl, k, _⟩ := dat_str r
        cases dat_int r'
        have h : (0 ≤ j ∧ j ≤ lim) ∧ s.length * j.toNat ≤ lim ∧ QD (.str (List.replicate j.toNat s).flatten) G := h
        refine .inr (.inl ⟨s, j, rfl, rfl, h.1, h.2.1, hQ.here R (.str _ ?_ (by rw [rep_len, lim_eq]; exact h.2.1)) h.2.2⟩)
        rw [strOk_iff] at k ⊢
        intro c hc
        obtain ⟨l, h1, h2⟩ := List.mem_flatten.mp hc
        rw [List.mem_replicate] at h1
        exact k c (by rw [← h1.2]; exact h2)
      | _ => exact h.elim
    | _ =>
      cases d' with
      | int j => exact .inr (.inr (seqs r r' h))
      | _ => exact h.elim
  -- fdiv
  · refine ⟨_, op_fdivW, fun v v' d d' S H G Q QD R r r' h hQ => ?_⟩
    cases d <;> try exact h.elim
    cases d' <;> try exact h.elim
    cases dat_int r; cases dat_int r'
    exact ⟨_, _, rfl, rfl, wide_ok h.1, hQ.here R (.int _) h.2⟩
  -- mod
  · refine ⟨_, op_mod, fun v v' d d' S H G Q QD R r r' h hQ => ?_⟩
    cases d <;> try exact h.elim
    cases d' <;> try exact h.elim
    cases dat_int r; cases dat_int r'
    exact ⟨_, _, rfl, rfl, h.1, hQ.here R (.int _) h.2⟩
  -- pow
  · refine ⟨_, op_pow, fun v v' d d' S H G Q QD R r r' h hQ => ?_⟩
    cases d <;> try exact h.elim
    cases d' <;> try exact h.elim
    cases dat_int r; cases dat_int r'
    exact ⟨_, _, rfl, rfl, h.1, hQ.here R (.int _) h.2⟩
  · refine ⟨_, op_xor, fun v v' d d' S H G Q QD R r r' h hQ => ?_⟩
    cases d <;> try exact h.elim
    cases d' <;> try exact h.elim
    cases dat_int r; cases dat_int r'
    exact ⟨_, _, rfl, rfl, hQ.here R (.int _) h⟩
  · refine ⟨_, op_or, fun v v' d d' S H G Q QD R r r' h hQ => ?_⟩
    cases d <;> try exact h.elim
    cases d' <;> try exact h.elim
    cases dat_int r; cases dat_int r'
    exact ⟨_, _, rfl, rfl, hQ.here R (.int _) h⟩
  · refine ⟨_, op_and, fun v v' d d' S H G Q QD R r r' h hQ => ?_⟩
    cases d <;> try exact h.elim
    cases d' <;> try exact h.elim
    cases dat_int r; cases dat_int r'
    exact ⟨_, _, rfl, rfl, hQ.here R (.int _) h⟩
  · refine ⟨_, op_shl, fun v v' d d' S H G Q QD R r r' h hQ => ?_⟩
    cases d <;> try exact h.elim
    cases d' <;> try exact h.elim
    cases dat_int r; cases dat_int r'
    exact ⟨_, _, rfl, rfl, h.1, hQ.here R (.int _) h.2⟩
  · refine ⟨_, op_shr, fun v v' d d' S H G Q QD R r r' h hQ => ?_⟩
    cases d <;> try exact h.elim
    cases d' <;> try exact h.elim
    cases dat_int r; cases dat_int r'
    exact ⟨_, _, rfl, rfl, h.1, hQ.here R (.int _) h.2⟩
end
end DL

namespace DL
open PySem PySem.Spec PyProof.Rows L2
/-! ### == -/
section
variable {K : PySem.W.Frag} {fnm clm : Nat → Option Addr} {S : Addr → Option Bool} {H : Hp} {G : HD}
mutual
theorem dp_of : ∀ (d : D) {v : V} {x : PyData}, Dat K fnm S H G v d → py d = some x → Dp K H v x ∧ x.canLay0 = true
  | .non, v, x, r, e => by cases dat_non r; cases e; exact ⟨.non, rfl⟩
  | .bl b, v, x, r, e => by cases dat_bl r; cases e; exact ⟨.bl b, rfl⟩
  | .int b, v, x, r, e => by cases dat_int r; cases e; exact ⟨.int b, rfl⟩
  | .str s, v, x, r, e => by obtain ⟨rfl, k, _⟩ := dat_str r; cases e; exact ⟨.str _, by simpa [PyData.canLay0] using k⟩
  | .tup ds, v, x, r, e => by
    obtain ⟨a, vs, rfl, h1, h2, h3⟩ := dat_tup r
    cases q : pys ds with
    | none => simp [py, q] at e
    | some xs =>
      simp [py, q] at e; subst e
      obtain ⟨k1, k2⟩ := dps_of ds h3 q
      exact ⟨.tup h1 k1, by simpa [PyData.canLay0] using k2⟩
  | .tpl ds, v, x, r, e => by
    obtain ⟨a, vs, rfl, h1, h2, h3⟩ := dat_tpl r
    cases q : pys ds with
    | none => simp [py, q] at e
    | some xs =>
      simp [py, q] at e; subst e
      obtain ⟨k1, k2⟩ := dps_of ds h3 q
      exact ⟨.tup h1 k1, by simpa [PyData.canLay0] using k2⟩
  | .lst ds, v, x, r, e => by
    obtain ⟨a, vs, rfl, h1, h2, h3⟩ := dat_lst r
    cases q : pys ds with
    | none => simp [py, q] at e
    | some xs =>
      simp [py, q] at e; subst e
      obtain ⟨k1, k2⟩ := dps_of ds h3 q
      exact ⟨.lst (h1.sq) k1, by simpa [PyData.canLay0] using k2⟩
  | .scr ds, v, x, r, e => by
    obtain ⟨a, vs, rfl, h1, h2, h3⟩ := dat_scr r
    cases q : pys ds with
    | none => simp [py, q] at e
    | some xs =>
      simp [py, q] at e; subst e
      obtain ⟨k1, k2⟩ := dps_of ds h3 q
      exact ⟨.lst (h1.sq) k1, by simpa [PyData.canLay0] using k2⟩
  | .ref _, _, _, _, e => by simp [py] at e
  | .rnd, _, _, _, e => by simp [py] at e
  | .ty _, _, _, _, e => by simp [py] at e
  | .fn _, _, _, _, e => by simp [py] at e
theorem dps_of : ∀ (ds : List D) {vs : List V} {xs : List PyData}, DatAll K fnm S H G vs ds → pys ds = some xs → DpAll K H vs xs ∧ PyData.canLayAll0 xs = true
  | [], _, _, .nil, e => by simp [pys] at e; subst e; exact ⟨.nil, rfl⟩
  | d :: ds, _, xs, .cons r t, e => by
    cases q1 : py d with
    | none => simp [pys, q1] at e
    | some x =>
      cases q2 : pys ds with
      | none => simp [pys, q1, q2] at e
      | some ys =>
        simp [pys, q1, q2] at e; subst e
        obtain ⟨k1, k2⟩ := dp_of d r q1
        obtain ⟨k3, k4⟩ := dps_of ds t q2
        exact ⟨.cons k1 k3, by simp [PyData.canLayAll0, k2, k4]⟩
end
theorem dpT_of (R : Hel K fnm clm S H G) {d : D} {v : V} {x : PyData} (r : Dat K fnm S H G v d) (e : pyT d G = some x) : Dp K H v x ∧ x.canLay0 = true := by
  cases d with
  | ref a =>
    have h := dat_ref r
    subst h
    cases q : G a with
    | none => simp [pyT, q] at e
    | some c =>
      cases c with
      | lst ds =>
        obtain ⟨vs, h1, h2, h3⟩ := R.cell a _ q
        cases q2 : pys ds with
        | none => simp [pyT, q, q2] at e
        | some xs =>
          simp [pyT, q, q2] at e; subst e
          obtain ⟨k1, k2⟩ := dps_of ds h3 q2
          exact ⟨.lst (SqL.of h1) k1, by simpa [PyData.canLay0] using k2⟩
      | _ => simp [pyT, q] at e
  | _ => exact dp_of _ r e
theorem str_beq (a b : List Nat) : (mkStr a == mkStr b) = (a == b) := by
  by_cases h : a = b
  · subst h; rw [beq_self_eq_true, beq_self_eq_true]
  · have : mkStr a ≠ mkStr b := fun z => h (mkStr_inj z)
    rw [beq_eq_false_iff_ne.mpr this, beq_eq_false_iff_ne.mpr h]
theorem flat_of {d : D} {v : V} (r : Dat K fnm S H G v d) (f : flatD d = true) : flatV v = true := by
  cases r <;> first | rfl | cases f
theorem eqF_of {d d' : D} {v v' : V} (r : Dat K fnm S H G v d) (r' : Dat K fnm S H G v' d') (f : flatD d = true) (f' : flatD d' = true) : eqV v v' = eqF d d' := by
  cases d <;> cases f
  all_goals (cases d' <;> cases f')
  all_goals (first | cases dat_non r | cases dat_bl r | cases dat_int r | obtain ⟨rfl, _⟩ := dat_str r)
  all_goals (first | cases dat_non r' | cases dat_bl r' | cases dat_int r' | obtain ⟨rfl, _⟩ := dat_str r')
  all_goals first | rfl | exact str_beq _ _
theorem flats_of : ∀ {ds : List D} {vs : List V}, DatAll K fnm S H G vs ds → ds.all flatD = true → vs.all flatV = true
  | [], _, .nil, _ => rfl
  | d :: ds, v :: vs, .cons r t, f => by
    have f2 : flatD d = true ∧ ds.all flatD = true := by simpa only [List.all_cons, Bool.and_eq_true] using f
    show (flatV v && vs.all flatV) = true
    rw [flat_of r f2.1, flats_of t f2.2] <;> rfl
theorem in_of {d : D} {v : V} (r : Dat K fnm S H G v d) (f : flatD d = true) : ∀ {ds : List D} {vs : List V}, DatAll K fnm S H G vs ds → ds.all flatD = true → inV v vs = ds.any fun z => eqF z d
  | [], _, .nil, _ => rfl
  | d' :: ds, v' :: vs, .cons r' t, f' => by
    have f2 : flatD d' = true ∧ ds.all flatD = true := by simpa only [List.all_cons, Bool.and_eq_true] using f'
    have ih := in_of r f t f2.2
    show (eqV v' v || inV v vs) = (eqF d' d || ds.any fun z => eqF z d)
    rw [ih, eqF_of r' r f2.1 f]
theorem in_str {d : D} {t : List Nat} {c : Bool} (e : inD d (.str t) G = some c) : ∃ x, d = .str [x] ∧ c = decide (x ∈ t) := by
  cases d with
  | str s =>
    match s, e with
    | [x], e => exact ⟨x, rfl, (Option.some.inj e).symm⟩
  | _ => exact nomatch (show (none : Option Bool) = some c from e)
theorem in_seq {d y : D} {c : Bool} (h : ∀ t, y ≠ .str t) (e : inD d y G = some c) : ∃ ds, itms y G = some ds ∧ flatD d = true ∧ ds.all flatD = true ∧ c = ds.any fun z => eqF z d := by
  have e2 : (match itms y G with | some ds => if (flatD d && ds.all flatD) = true then some (ds.any fun z => eqF z d) else none | none => none) = some c := by
    cases y <;> first | exact e | exact absurd rfl (h _)
  split at e2
  · rename_i ds q
    split at e2
    · rename_i f
      rw [Bool.and_eq_true] at f
      exact ⟨ds, q, f.1, f.2, (Option.some.inj e2).symm⟩
    · cases e2
  · cases e2
end
section
variable {fnm clm : Nat → Option Addr} {X : Cx}
def copB : COp → CmpOp → Bool
  | .eq, .Eq => true | .ne, .NotEq => true | .lt, .Lt => true | .le, .LtE => true | .gt, .Gt => true | .ge, .GtE => true | .isn, .Is => true | .nisn, .IsNot => true
  | .inn, .In => true | .nin, .NotIn => true | _, _ => false
theorem op_eqM (hu : X.A.units + 64 < cLine) : OpR X (compareOp .Eq) (fun x y H Q => ∃ d e, Dp X.K H x d ∧ Dp X.K H y e ∧ d.canLay0 = true ∧ e.canLay0 = true ∧ min d.depth e.depth ≤ 64 ∧ Q (.bl (PyData.eqv d e)) H) := by
  intro pins s σ H x y v u Q I rx ry h
  obtain ⟨d, e, hd, he, sd, se, hm, q⟩ := h
  obtain ⟨as, r1⟩ := Dp.reads I d x v hd rx
  obtain ⟨bs, r2⟩ := Dp.reads I e y u he ry
  exact SeqAt.compareEq_reads r1 r2 sd se (by omega) ⟨.bl _, H, I, rfl, q⟩
theorem op_neM (hu : X.A.units + 64 < cLine) : OpR X (compareOp .NotEq) (fun x y H Q => ∃ d e, Dp X.K H x d ∧ Dp X.K H y e ∧ d.canLay0 = true ∧ e.canLay0 = true ∧ min d.depth e.depth ≤ 64 ∧ Q (.bl (!PyData.eqv d e)) H) := by
  intro pins s σ H x y v u Q I rx ry h
  obtain ⟨d, e, hd, he, sd, se, hm, q⟩ := h
  obtain ⟨as, r1⟩ := Dp.reads I d x v hd rx
  obtain ⟨bs, r2⟩ := Dp.reads I e y u he ry
  exact SeqAt.compareNe_reads r1 r2 sd se (by omega) ⟨.bl _, H, I, rfl, q⟩
theorem eqD_of {d d' : D} {G : HD} {b : Bool} (e : eqD d d' G = some b) : ∃ x y, pyT d G = some x ∧ pyT d' G = some y ∧ min x.depth y.depth ≤ 64 ∧ b = PyData.eqv x y := by
  unfold eqD at e
  split at e
  · rename_i x y h1 h2
    by_cases h : min x.depth y.depth ≤ 64
    · rw [if_pos h] at e; exact ⟨x, y, h1, h2, h, (Option.some.inj e).symm⟩
    · rw [if_neg h] at e; cases e
  · cases e
theorem isStr_or (y : D) : (∃ t, y = .str t) ∨ ∀ t, y ≠ .str t := by
  cases y <;> first | exact .inl ⟨_, rfl⟩ | exact .inr fun _ z => nomatch z
theorem in_ok {v v' : V} {d d' : D} {S : Addr → Option Bool} {H : Hp} {G : HD} {c : Bool} {Q : VK} {z : Bool} (R : Hel X.K fnm clm S H G) (r : Dat X.K fnm S H G v d) (r' : Dat X.K fnm S H G v' d') (e : inD d d' G = some c)
    (h : Q (.bl (if z then !c else c)) H) : (∃ (c : Nat) (s : Str), v = .str ⟨#[c]⟩ ∧ v' = .str s ∧ Q (.bl (if z then !decide (c ∈ s.cps.toList) else decide (c ∈ s.cps.toList))) H) ∨ rIn X.K z v v' H Q := by
  rcases isStr_or d' with ⟨t, rfl⟩ | hn
  · obtain ⟨x, rfl, rfl⟩ := in_str e
    obtain ⟨rfl, _⟩ := dat_str r
    obtain ⟨rfl, _⟩ := dat_str r'
    exact .inl ⟨x, mkStr t, rfl, rfl, h⟩
  · obtain ⟨ds, q, f1, f2, rfl⟩ := in_seq hn e
    obtain ⟨a, vs, rfl, h1, h2, h3⟩ := itm_ok R r' q
    refine .inr ⟨a, vs, rfl, h1, flat_of r f1, flats_of h3 f2, ?_⟩
    rw [in_of r f1 h3 f2]
    exact h
theorem cmp_eq (hu : X.A.units + 64 < cLine) {v v' : V} {d d' : D} {S : Addr → Option Bool} {H : Hp} {G : HD} {c : Bool} {Q : Bool → Prop} (R : Hel X.K fnm clm S H G) (r : Dat X.K fnm S H G v d) (r' : Dat X.K fnm S H G v' d') (e : eqD d d' G = some c) (h : Q c) :
    ∃ d e, Dp X.K H v d ∧ Dp X.K H v' e ∧ d.canLay0 = true ∧ e.canLay0 = true ∧ min d.depth e.depth ≤ 64 ∧ Q (PyData.eqv d e) := by
  obtain ⟨x, y, e1, e2, hm, rfl⟩ := eqD_of e
  obtain ⟨k1, k2⟩ := dpT_of R r e1
  obtain ⟨k3, k4⟩ := dpT_of R r' e2
  exact ⟨x, y, k1, k3, k2, k4, hm, h⟩
theorem cmp_int {f : Int → Int → Bool} {v v' : V} {d d' : D} {S : Addr → Option Bool} {H : Hp} {G : HD} {QD : KD} {Q : VK} (R : Hel X.K fnm clm S H G) (r : Dat X.K fnm S H G v d) (r' : Dat X.K fnm S H G v' d')
    (h : ok (match d, d' with | .int i, .int j => some (f i j) | _, _ => none) fun c => QD (.bl c) G) (hQ : PostE X.K fnm clm S H G QD Q) : ∃ i j, v = .int i ∧ v' = .int j ∧ Q (.bl (f i j)) H := by
  cases d <;> try exact h.elim
  cases d' <;> try exact h.elim
  cases dat_int r; cases dat_int r'
  exact ⟨_, _, rfl, rfl, hQ.here R (.bl _) h⟩
theorem cmp_ok (hu : X.A.units + 64 < cLine) : ∀ {o : COp} {op : CmpOp}, copB o op = true → ∃ r, OpR X (compareOp op) r ∧
    ∀ v v' d d' S H G Q QD, Hel X.K fnm clm S H G → Dat X.K fnm S H G v d → Dat X.K fnm S H G v' d' → (ok (cmpD o d d' G) fun c => QD (.bl c) G) → PostE X.K fnm clm S H G QD Q → r v v' H Q
  | .eq, .Eq, _ => ⟨_, op_eqM hu, fun v v' d d' S H G Q QD R r r' h hQ => by
    obtain ⟨c, e, h⟩ := ok_of h
    exact cmp_eq (Q := fun c => Q (.bl c) H) hu R r r' e (hQ.here R (.bl _) h)⟩
  | .ne, .NotEq, _ => ⟨_, op_neM hu, fun v v' d d' S H G Q QD R r r' h hQ => by
    obtain ⟨c, e, h⟩ := ok_of h
    have e : (eqD d d' G).map (!·) = some c := e
    rw [Option.map_eq_some_iff] at e
    obtain ⟨b, e0, rfl⟩ := e
    exact cmp_eq (Q := fun c => Q (.bl (!c)) H) hu R r r' e0 (hQ.here R (.bl _) h)⟩
  | .lt, .Lt, _ => ⟨_, op_lt, fun v v' d d' S H G Q QD R r r' h hQ => cmp_int (f := fun i j => decide (i < j)) R r r' h hQ⟩
  | .le, .LtE, _ => ⟨_, op_le, fun v v' d d' S H G Q QD R r r' h hQ => cmp_int (f := fun i j => decide (i ≤ j)) R r r' h hQ⟩
  | .gt, .Gt, _ => ⟨_, op_gt, fun v v' d d' S H G Q QD R r r' h hQ => cmp_int (f := fun i j => decide (j < i)) R r r' h hQ⟩
  | .ge, .GtE, _ => ⟨_, op_ge, fun v v' d d' S H G Q QD R r r' h hQ => cmp_int (f := fun i j => decide (j ≤ i)) R r r' h hQ⟩
  | .isn, .Is, _ => ⟨_, op_isN.or op_isBl, fun v v' d d' S H G Q QD R r r' h hQ => by
    cases d' <;> try exact h.elim
    · cases dat_non r'
      refine .inl ⟨rfl, hQ.here (d := .bl _) R (.bl _) ?_⟩
      cases r <;> exact h
    · cases dat_bl r'
      cases d <;> try exact h.elim
      cases dat_bl r
      exact .inr ⟨_, _, rfl, rfl, hQ.here (d := .bl _) R (.bl _) h⟩⟩
  | .nisn, .IsNot, _ => ⟨_, op_notN.or op_notBl, fun v v' d d' S H G Q QD R r r' h hQ => by
    cases d' <;> try exact h.elim
    · cases dat_non r'
      refine .inl ⟨rfl, hQ.here (d := .bl _) R (.bl _) ?_⟩
      cases r <;> exact h
    · cases dat_bl r'
      cases d <;> try exact h.elim
      cases dat_bl r
      exact .inr ⟨_, _, rfl, rfl, hQ.here (d := .bl _) R (.bl _) h⟩⟩
  | .inn, .In, _ => ⟨_, op_in_sign.or op_in_seq, fun v v' d d' S H G Q QD R r r' h hQ => by
    obtain ⟨c, e, h⟩ := ok_of h
    exact in_ok (z := false) R r r' e (hQ.here R (.bl _) h)⟩
  | .nin, .NotIn, _ => ⟨_, op_notIn_sign.or op_notIn_seq, fun v v' d d' S H G Q QD R r r' h hQ => by
    obtain ⟨c, e, h⟩ := ok_of h
    have e : (inD d d' G).map (!·) = some c := e
    rw [Option.map_eq_some_iff] at e
    obtain ⟨b, e0, rfl⟩ := e
    exact in_ok (z := true) R r r' e0 (hQ.here R (.bl _) h)⟩
end
end DL

namespace DL
open PySem PySem.Spec PyProof.Rows L2
/-! ### truth, len, items, slices -/
section
variable {K : PySem.W.Frag} {fnm clm : Nat → Option Addr} {S : Addr → Option Bool} {H : Hp} {G : HD} {v v' : V} {d d' : D} {Q : VK} {QD : KD}
theorem seqOf_some {a : Addr} {ds : List D} (h : G a = some (.lst ds)) : seqOf (.ref a) G = some ds := by simp [seqOf, h]
/-- the three kinds that have a length -/
theorem len_of (R : Hel K fnm clm S H G) (r : Dat K fnm S H G v d) {n : Nat} (e : lenD d G = some n) :
    (∃ s, d = .str s ∧ v = .str (mkStr s) ∧ s.length ≤ sizeLine ∧ n = s.length) ∨ (∃ a vs, v = .ref a ∧ (SqL K H a vs ∨ SqT K H a vs) ∧ n = vs.length) ∨ ∃ a kvs, v = .ref a ∧ H a = some (.dK kvs) ∧ n = kvs.length := by
  have seqs : ∀ ds, seqOf d G = some ds → ds.length = n → ∃ a vs, v = .ref a ∧ (SqL K H a vs ∨ SqT K H a vs) ∧ n = vs.length := fun ds h h2 => by
    obtain ⟨a, vs, h1, h3, h4, h5⟩ := seq_ok R r h
    exact ⟨a, vs, h1, .inl (h3), by rw [← h2, h5.length]⟩
  cases d with
  | str s =>
    obtain ⟨h1, h2, h3⟩ := dat_str r
    exact .inl ⟨s, rfl, h1, h3, (Option.some.inj e).symm⟩
  | tup ds =>
    obtain ⟨a, vs, h1, h2, h3, h4⟩ := dat_tup r
    exact .inr (.inl ⟨a, vs, h1, .inr h2, by rw [← Option.some.inj e, h4.length]⟩)
  | tpl ds =>
    obtain ⟨a, vs, h1, h2, h3, h4⟩ := dat_tpl r
    exact .inr (.inl ⟨a, vs, h1, .inr h2, by rw [← Option.some.inj e, h4.length]⟩)
  | lst ds => exact .inr (.inl (seqs ds rfl (Option.some.inj e)))
  | scr ds => exact .inr (.inl (seqs ds rfl (Option.some.inj e)))
  | ref a =>
    cases q : G a with
    | none => simp [lenD, seqOf, q] at e
    | some c =>
      cases c with
      | lst ds => exact .inr (.inl (seqs ds (seqOf_some q) (by simpa [lenD, seqOf, q] using e)))
      | dct kvs =>
        obtain ⟨vs, h1, h2⟩ := R.cell a _ q
        refine .inr (.inr ⟨a, vs, dat_ref r, h1, ?_⟩)
        have e : kvs.length = n := by simpa [lenD, seqOf, q] using e
        rw [← e]
        clear e h1 q r
        induction h2 with
        | nil => rfl
        | cons _ _ _ _ ih => simp [ih]
      | ins _ _ => simp [lenD, seqOf, q] at e
  | _ => exact nomatch (show (none : Option Nat) = some n from e)
theorem ne0 (n : Nat) : (n != 0) = ((n : Int) != 0) := by
  cases n with
  | zero => rfl
  | succ n =>
    have h1 : (n + 1 != 0) = true := by simp
    have h2 : (((n + 1 : Nat) : Int) != 0) = true := by simp; omega
    rw [h1, h2]
theorem ne0e {α : Type} (xs : List α) : (xs.length != 0) = !xs.isEmpty := by cases xs <;> simp
theorem tru_of (R : Hel K fnm clm S H G) (r : Dat K fnm S H G v d) {b : Bool} (e : truth d G = some b) : TruV K v H b := by
  have lens : (match lenD d G with | some n => some (n != 0) | none => none) = some b → TruV K v H b := fun e0 => by
    split at e0
    · rename_i n q
      rcases len_of R r q with ⟨s, rfl, rfl, h1, h2⟩ | ⟨a, vs, rfl, h1, h2⟩ | ⟨a, vs, rfl, h1, h2⟩
      · refine ⟨by rw [mkStr_length]; exact h1, ?_⟩
        rw [mkStr_length, ← h2, ← Option.some.inj e0, ne0]
      · rw [← Option.some.inj e0, h2, ne0e]
        rcases h1 with h1 | h1
        · exact .inl ⟨vs, h1, rfl⟩
        · exact .inr (.inl ⟨vs, h1, rfl⟩)
      · rw [← Option.some.inj e0, h2, ne0e]
        exact .inr (.inr ⟨vs, h1, rfl⟩)
    · cases e0
  cases d with
  | non => cases dat_non r; exact (Option.some.inj e).symm
  | bl b' => cases dat_bl r; exact (Option.some.inj e).symm
  | int i => cases dat_int r; exact (Option.some.inj e).symm
  | _ => exact lens e
theorem at_of {ds : List D} {vs : List V} (r : DatAll K fnm S H G vs ds) {i : Int} (e : atI ds i = some d) : ∃ v, atI vs i = some v ∧ Dat K fnm S H G v d := by
  unfold atI at e ⊢
  rw [r.length]
  cases q : ixN ds.length i with
  | none => rw [q] at e; cases e
  | some j =>
    rw [q] at e
    exact r.get e
theorem cut_of {ds : List D} {vs : List V} (r : DatAll K fnm S H G vs ds) (lo hi : Option Int) : DatAll K fnm S H G (cutV vs lo hi) (cutL ds lo hi) := by
  unfold cutV cutL
  rw [r.length]
  exact (r.drop _).take _
theorem cutL_length {α : Type} (xs : List α) (lo hi : Option Int) : (cutL xs lo hi).length ≤ xs.length := by
  unfold cutL
  rw [List.length_take, List.length_drop]; omega
theorem cutL_mem {α : Type} {xs : List α} {lo hi : Option Int} {x : α} (h : x ∈ cutL xs lo hi) : x ∈ xs := List.mem_of_mem_drop (List.mem_of_mem_take h)
theorem idx_ok (R : Hel K fnm clm S H G) (r : Dat K fnm S H G v d) (r' : Dat K fnm S H G v' d') (h0 : ok (idxD d d' G) fun x => QD x G) (hQ : PostE K fnm clm S H G QD Q) : rIx K v v' H Q := by
  obtain ⟨x, e0, h⟩ := ok_of h0
  clear h0
  cases d' with
  | int i =>
    cases dat_int r'
    have itms_ : (match itms d G with | some ds => atI ds i | none => none) = some x → rIx K v (.int i) H Q := fun e => by
      split at e
      · rename_i ds q
        obtain ⟨a, vs, rfl, h1, h2, h3⟩ := itm_ok R r q
        obtain ⟨u, h4, h5⟩ := at_of h3 e
        rcases h1 with h1 | h1
        · exact .inl ⟨a, vs, i, u, rfl, rfl, h1, h4, hQ.here R h5 h⟩
        · exact .inr (.inl ⟨a, vs, i, u, rfl, rfl, h1, h4, hQ.here R h5 h⟩)
      · cases e
    cases d with
    | str s =>
      obtain ⟨rfl, k, hl⟩ := dat_str r
      have e1 : (atI s i).map (fun c => D.str [c]) = some x := e0
      clear e0
      rw [Option.map_eq_some_iff] at e1
      obtain ⟨c, e, rfl⟩ := e1
      refine .inr (.inr ⟨mkStr s, i, c, rfl, rfl, by rw [mkStr_length]; exact hl, by simpa [mkStr] using e, hQ.here R (.str [c] ?_ (by rw [lim_eq]; show 1 ≤ lim; decide)) h⟩)
      rw [strOk_iff] at k ⊢
      intro z hz
      rw [List.mem_singleton] at hz
      subst hz
      obtain ⟨j, _, q, _⟩ := atI_get e
      exact k z (List.mem_of_getElem? q)
    | _ => exact itms_ e0
  | _ => exact nomatch (show (none : Option D) = some x from e0)
theorem sl_okD (R : Hel K fnm clm S H G) (r : Dat K fnm S H G v d) {z : Bool} {lo hi : Option Int} (h : slD z d lo hi G QD) (hQ : PostE K fnm clm S H G QD Q) :
    rSlS v lo hi H Q ∨ rSlP K v lo hi H Q ∨ rSlL K v lo hi H Q := by
  have seqs : (ok (seqOf d G) fun ds => newL z (cutL ds lo hi) G QD) → rSlL K v lo hi H Q := fun h => by
    obtain ⟨ds, e, h⟩ := ok_of h
    obtain ⟨a, vs, rfl, h1, h2, h3⟩ := seq_ok R r e
    exact ⟨a, vs, rfl, h1, new_list R (Nat.le_trans (cutV_length _ _ _) h2) (cut_of h3 lo hi) h hQ⟩
  cases d with
  | str s =>
    obtain ⟨rfl, k, hl⟩ := dat_str r
    refine .inl ⟨mkStr s, rfl, by rw [mkStr_length]; exact hl, ?_⟩
    have e : cutS (mkStr s) lo hi = mkStr (cutL s lo hi) := by simp [cutS, mkStr, cutL, Str.length]
    rw [e]
    refine hQ.here R (.str _ ?_ (Nat.le_trans (cutL_length _ _ _) hl)) h
    rw [strOk_iff] at k ⊢
    exact fun c hc => k c (cutL_mem hc)
  | tup ds =>
    obtain ⟨a, vs, rfl, h1, h2, h3⟩ := dat_tupP r
    have h : QD (.tup (cutL ds lo hi)) G := h
    have c := cut_of h3 lo hi
    refine .inr (.inl ⟨a, vs, rfl, h1.sq, fun w => ?_, fun _ => new_tup R (Nat.le_trans (cutV_length _ _ _) h2) c h hQ⟩)
    have e : cutL ds lo hi = ds := by
      unfold cutL
      rw [← h3.length, w.1, w.2, List.drop_zero, Nat.sub_zero, h3.length, List.take_length]
    rw [e] at h
    exact hQ.here R (.tup h1 h2 h3) h
  | _ => exact .inr (.inr (seqs h))
theorem frz_ok (R : Hel K fnm clm S H G) (r : Dat K fnm S H G v d) (h : frzD d G QD) (hQ : PostE K fnm clm S H G QD Q) : Q v H := by
  cases d with
  | ref a =>
    cases dat_ref r
    cases q : G a with
    | none => simp [frzD, q] at h
    | some c =>
      cases c with
      | lst ds =>
        simp only [frzD, q] at h
        obtain ⟨vs, h1, h2, h3⟩ := R.cell a _ q
        have st : Step S H G S H (delD G a) := .less sub_del
        have ns : S a = none := R.live (by rw [q]; simp)
        exact hQ _ S H _ _ st (R.less sub_del) (.lst h1 delD_same ns h2 (h3.step R st)) h
      | dct _ => simp [frzD, q] at h
      | ins _ _ => simp [frzD, q] at h
  | _ => exact hQ.here R r h
end
end DL

namespace DL
open PySem PySem.Spec PyProof.Rows L2
/-! ### built-ins -/
section
variable {K : PySem.W.Frag} {fnm clm : Nat → Option Addr} {S : Addr → Option Bool} {H : Hp} {G : HD} {v v' : V} {d d' : D} {Q : VK} {QD : KD}
theorem bls_of : ∀ {ds : List D} {vs : List V} {bs : List Bool}, DatAll K fnm S H G vs ds → blsOf ds = some bs → vs = bs.map V.bl
  | [], _, _, .nil, e => by cases e; rfl
  | d :: ds, v :: vs, bs, .cons r t, e => by
    cases d with
    | bl b =>
      have e : (blsOf ds).map (b :: ·) = some bs := e
      rw [Option.map_eq_some_iff] at e
      obtain ⟨cs, e1, rfl⟩ := e
      cases dat_bl r
      rw [bls_of t e1]; rfl
    | _ => exact nomatch (show (none : Option (List Bool)) = some bs from e)
theorem ints_of : ∀ {ds : List D} {vs : List V} {bs : List Int}, DatAll K fnm S H G vs ds → intsOf ds = some bs → vs = bs.map V.int
  | [], _, _, .nil, e => by cases e; rfl
  | d :: ds, v :: vs, bs, .cons r t, e => by
    cases d with
    | int b =>
      have e : (intsOf ds).map (b :: ·) = some bs := e
      rw [Option.map_eq_some_iff] at e
      obtain ⟨cs, e1, rfl⟩ := e
      cases dat_int r
      rw [ints_of t e1]; rfl
    | _ => exact nomatch (show (none : Option (List Int)) = some bs from e)
theorem strs_of : ∀ {ds : List D} {vs : List V} {bs : List (List Nat)}, DatAll K fnm S H G vs ds → strsOf ds = some bs → vs = (bs.map mkStr).map V.str ∧ ∀ b ∈ bs, PyData.strOk (mkStr b) = true
  | [], _, _, .nil, e => by cases e; exact ⟨rfl, fun _ z => nomatch z⟩
  | d :: ds, v :: vs, bs, .cons r t, e => by
    cases d with
    | str b =>
      have e : (strsOf ds).map (b :: ·) = some bs := e
      rw [Option.map_eq_some_iff] at e
      obtain ⟨cs, e1, rfl⟩ := e
      obtain ⟨rfl, k, _⟩ := dat_str r
      obtain ⟨h1, h2⟩ := strs_of t e1
      rw [h1]
      refine ⟨rfl, fun x hx => ?_⟩
      rcases List.mem_cons.mp hx with rfl | hx
      · exact k
      · exact h2 x hx
    | _ => exact nomatch (show (none : Option (List (List Nat))) = some bs from e)
theorem glue_of' (s : List Nat) : ∀ ss : List (List Nat), Str.join (mkStr s) (ss.map mkStr) = mkStr (joinL s ss)
  | [] => rfl
  | [x] => rfl
  | x :: y :: r => by
    have ih := glue_of' s (y :: r)
    show mkStr x ++ mkStr s ++ Str.join (mkStr s) ((y :: r).map mkStr) = _
    rw [ih, mkStr_append, mkStr_append]; rfl
theorem glue_of (s : List Nat) (ss : List (List Nat)) : Txt.join (mkStr s) (ss.map mkStr) = mkStr (joinL s ss) := by
  unfold Txt.join
  rw [StrLaws.glued_eq_join]
  exact glue_of' s ss
theorem joinL_len (s : List Nat) : ∀ ss : List (List Nat), (joinL s ss).length ≤ (ss.map List.length).sum + ss.length * s.length
  | [] => Nat.zero_le _
  | [x] => by simp [joinL]
  | x :: y :: r => by
    have ih := joinL_len s (y :: r)
    simp only [joinL, List.length_append, List.map_cons, List.sum_cons, List.length_cons, Nat.add_mul, Nat.one_mul] at ih ⊢
    omega
theorem joinL_mem (s : List Nat) : ∀ {ss : List (List Nat)} {c : Nat}, c ∈ joinL s ss → c ∈ s ∨ ∃ x ∈ ss, c ∈ x
  | [], _, h => nomatch h
  | [x], _, h => .inr ⟨x, List.mem_singleton.mpr rfl, h⟩
  | x :: y :: r, c, h => by
    simp only [joinL, List.mem_append] at h
    rcases h with (h | h) | h
    · exact .inr ⟨x, List.mem_cons_self, h⟩
    · exact .inl h
    · rcases joinL_mem s h with h | ⟨z, hz, h⟩
      · exact .inl h
      · exact .inr ⟨z, List.mem_cons_of_mem _ hz, h⟩
end
section
variable {fnm clm : Nat → Option Addr} {X : Cx}
/-- a built-in's name and kind: true for a built-in type -/
def bfName : Bf → Str
  | .len => "len" | .abs => "abs" | .int => "int" | .bool => "bool" | .tuple => "tuple" | .list => "list" | .all => "all" | .any => "any" | .min => "min" | .max => "max" | .sum => "sum" | .ord => "ord" | .str => "str"
def bfVal : Bf → Value
  | .len => .builtin "len" | .abs => .builtin "abs" | .int => .type "int" | .bool => .type "bool" | .tuple => .type "tuple" | .list => .type "list" | .all => .builtin "all" | .any => .builtin "any" | .min => .builtin "min" | .max => .builtin "max"
  | .sum => .builtin "sum" | .ord => .builtin "ord" | .str => .type "str"
theorem one_of {K : PySem.W.Frag} {S : Addr → Option Bool} {H : Hp} {G : HD} {vs : List V} {d : D} (r : DatAll K fnm S H G vs [d]) : ∃ v, vs = [v] ∧ Dat K fnm S H G v d := by
  cases r with
  | cons a b => cases b; exact ⟨_, rfl, a⟩
theorem two_of {K : PySem.W.Frag} {S : Addr → Option Bool} {H : Hp} {G : HD} {vs : List V} {d e : D} (r : DatAll K fnm S H G vs [d, e]) : ∃ v w, vs = [v, w] ∧ Dat K fnm S H G v d ∧ Dat K fnm S H G w e := by
  cases r with
  | cons a b =>
    cases b with
    | cons b c => cases c; exact ⟨_, _, rfl, a, b⟩
abbrev BfOk (fnm clm : Nat → Option Addr) (X : Cx) (f : Bf) (r : List V → Hp → VK → Prop) : Prop :=
  ∀ z vs ds S H G Q QD, Hel X.K fnm clm S H G → DatAll X.K fnm S H G vs ds → bfD z f ds G QD → PostE X.K fnm clm S H G QD Q → r vs H Q
theorem bf_len : ∃ r, CallR X (.builtin "len") r ∧ BfOk fnm clm X .len r := by
  refine ⟨_, call_len.or call_lenD, fun z vs ds S H G Q QD R r h hQ => ?_⟩
  match ds, r, h with
  | [x], r, h =>
    obtain ⟨v, rfl, q⟩ := one_of r
    obtain ⟨n, e, g⟩ := ok_of (show ok (lenD x G) fun n => QD (.int n) G from h)
    rcases len_of R q e with ⟨s, rfl, rfl, h1, h2⟩ | ⟨a, vs, rfl, h1, h2⟩ | ⟨a, vs, rfl, h1, h2⟩
    · exact .inl ⟨_, n, rfl, ⟨by rw [mkStr_length]; exact h1, by rw [mkStr_length]; exact h2⟩, hQ.here R (.int _) g⟩
    · refine .inl ⟨_, n, rfl, ?_, hQ.here R (.int _) g⟩
      rcases h1 with h1 | h1
      · exact .inl ⟨vs, h1, h2⟩
      · exact .inr ⟨vs, h1, h2⟩
    · exact .inr ⟨a, vs, rfl, h1, by rw [← h2]; exact hQ.here R (.int _) g⟩
  | [], _, h => exact h.elim
  | _ :: _ :: _, _, h => exact h.elim
theorem bf_abs : ∃ r, CallR X (.builtin "abs") r ∧ BfOk fnm clm X .abs r := by
  refine ⟨_, call_abs, fun z vs ds S H G Q QD R r h hQ => ?_⟩
  match ds, r, h with
  | [.int i], r, h =>
    obtain ⟨v, rfl, q⟩ := one_of r
    cases dat_int q
    refine ⟨i, rfl, ?_⟩
    have e : (if i < 0 then -i else i) = (i.natAbs : Int) := by split <;> omega
    rw [e]
    exact hQ.here R (.int _) h
theorem bf_int : ∃ r, CallR X (.type "int") r ∧ BfOk fnm clm X .int r := by
  refine ⟨_, call_int1, fun z vs ds S H G Q QD R r h hQ => ?_⟩
  match ds, r, h with
  | [.int i], r, h =>
    obtain ⟨v, rfl, q⟩ := one_of r
    cases dat_int q
    exact .inl ⟨i, rfl, hQ.here R (.int _) h⟩
  | [.bl i], r, h =>
    obtain ⟨v, rfl, q⟩ := one_of r
    cases dat_bl q
    exact .inr ⟨i, rfl, hQ.here R (.int _) h⟩
theorem bf_bool : ∃ r, CallR X (.type "bool") r ∧ BfOk fnm clm X .bool r := by
  refine ⟨_, call_bool1, fun z vs ds S H G Q QD R r h hQ => ?_⟩
  match ds, r, h with
  | [.int i], r, h =>
    obtain ⟨v, rfl, q⟩ := one_of r
    cases dat_int q
    exact .inl ⟨i, rfl, hQ.here R (.bl _) h⟩
  | [.bl i], r, h =>
    obtain ⟨v, rfl, q⟩ := one_of r
    cases dat_bl q
    exact .inr ⟨i, rfl, hQ.here R (.bl _) h⟩
theorem bf_tuple : ∃ r, CallR X (.type "tuple") r ∧ BfOk fnm clm X .tuple r := by
  refine ⟨_, call_tupP, fun z vs ds S H G Q QD R r h hQ => ?_⟩
  match ds, r, h with
  | [x], r, h =>
    obtain ⟨v, rfl, q⟩ := one_of r
    obtain ⟨es, e, g⟩ := ok_of (show ok (itmT x G) fun ds => QD (.tup ds) G from h)
    have lst : seqOf x G = some es → ∃ p ys, [v] = [V.ref p] ∧ ((SqL X.K H p ys ∧ NewP H ys Q) ∨ (SqT X.K H p ys ∧ Q (.ref p) H)) := fun e => by
      obtain ⟨a, ws, rfl, h1, h2, h3⟩ := seq_ok R q e
      exact ⟨a, ws, rfl, .inl ⟨h1, new_tup R h2 h3 g hQ⟩⟩
    cases x with
    | tup xs =>
      cases e
      obtain ⟨a, ws, rfl, h1, h2, h3⟩ := dat_tupP q
      exact ⟨a, ws, rfl, .inr ⟨h1.sq, hQ.here R (.tup h1 h2 h3) g⟩⟩
    | _ => exact lst e
  | [], _, h => exact h.elim
  | _ :: _ :: _, _, h => exact h.elim
theorem bf_list : ∃ r, CallR X (.type "list") r ∧ BfOk fnm clm X .list r := by
  refine ⟨_, call_list_of, fun z vs ds S H G Q QD R r h hQ => ?_⟩
  match ds, r, h with
  | [x], r, h =>
    obtain ⟨v, rfl, q⟩ := one_of r
    obtain ⟨es, e, g⟩ := ok_of (show ok (itms x G) fun ds => newL z ds G QD from h)
    obtain ⟨a, ws, rfl, h1, h2, h3⟩ := itm_ok R q e
    exact ⟨a, ws, rfl, h1, new_list R h2 h3 g hQ⟩
  | [], _, h => exact h.elim
  | _ :: _ :: _, _, h => exact h.elim
theorem bf_all (hc : X.calm = true) : ∃ r, CallR X (.builtin "all") r ∧ BfOk fnm clm X .all r := by
  refine ⟨_, cr_all hc, fun z vs ds S H G Q QD R r h hQ => ?_⟩
  match ds, r, h with
  | [x], r, h =>
    obtain ⟨v, rfl, q⟩ := one_of r
    obtain ⟨es, e, g⟩ := ok_of (show ok (seqOf x G) fun ds => ok (blsOf ds) fun bs => QD (.bl (bs.all id)) G from h)
    obtain ⟨bs, e2, g2⟩ := ok_of g
    obtain ⟨a, ws, rfl, h1, h2, h3⟩ := seq_ok R q e
    have e3 := bls_of h3 e2
    subst e3
    exact ⟨a, bs, rfl, h1, hQ.here R (.bl _) g2⟩
  | [], _, h => exact h.elim
  | _ :: _ :: _, _, h => exact h.elim
theorem bf_any (hc : X.calm = true) : ∃ r, CallR X (.builtin "any") r ∧ BfOk fnm clm X .any r := by
  refine ⟨_, cr_any hc, fun z vs ds S H G Q QD R r h hQ => ?_⟩
  match ds, r, h with
  | [x], r, h =>
    obtain ⟨v, rfl, q⟩ := one_of r
    obtain ⟨es, e, g⟩ := ok_of (show ok (seqOf x G) fun ds => ok (blsOf ds) fun bs => QD (.bl (bs.any id)) G from h)
    obtain ⟨bs, e2, g2⟩ := ok_of g
    obtain ⟨a, ws, rfl, h1, h2, h3⟩ := seq_ok R q e
    have e3 := bls_of h3 e2
    subst e3
    exact ⟨a, bs, rfl, h1, hQ.here R (.bl _) g2⟩
  | [], _, h => exact h.elim
  | _ :: _ :: _, _, h => exact h.elim
theorem bf_sum (hc : X.calm = true) : ∃ r, CallR X (.builtin "sum") r ∧ BfOk fnm clm X .sum r := by
  refine ⟨_, cr_sum hc, fun z vs ds S H G Q QD R r h hQ => ?_⟩
  match ds, r, h with
  | [x], r, h =>
    obtain ⟨v, rfl, q⟩ := one_of r
    obtain ⟨es, e, g⟩ := ok_of (show ok (seqOf x G) fun ds => ok (intsOf ds) fun bs => QD (.int bs.sum) G from h)
    obtain ⟨bs, e2, g2⟩ := ok_of g
    obtain ⟨a, ws, rfl, h1, h2, h3⟩ := seq_ok R q e
    have e3 := ints_of h3 e2
    subst e3
    exact ⟨a, bs, rfl, h1, hQ.here R (.int _) g2⟩
  | [], _, h => exact h.elim
  | _ :: _ :: _, _, h => exact h.elim
theorem mm_of {f : Bf} {vs : List V} {x : D} {S : Addr → Option Bool} {H : Hp} {G : HD} {P : List Int → Prop} (R : Hel X.K fnm clm S H G) (r : DatAll X.K fnm S H G vs [x]) (h : ok (seqOf x G) fun ds => ok (intsOf ds) fun ns => P ns) :
    ∃ (a : Addr) (ns : List Int), vs = [V.ref a] ∧ SqL X.K H a (ns.map V.int) ∧ P ns := by
  obtain ⟨v, rfl, q⟩ := one_of r
  obtain ⟨es, e, g⟩ := ok_of h
  obtain ⟨bs, e2, g2⟩ := ok_of g
  obtain ⟨a, ws, rfl, h1, h2, h3⟩ := seq_ok R q e
  have e3 := ints_of h3 e2
  subst e3
  exact ⟨a, bs, rfl, h1, g2⟩
theorem bf_min (hc : X.calm = true) : ∃ r, CallR X (.builtin "min") r ∧ BfOk fnm clm X .min r := by
  refine ⟨_, (call_min2 hc).or (cr_min hc), fun z vs ds S H G Q QD R r h hQ => ?_⟩
  match ds, r, h with
  | [x], r, h =>
    have h : ok (seqOf x G) fun ds => ok (intsOf ds) fun ns => 0 < ns.length ∧ ∀ m, m ∈ ns → (∀ y, y ∈ ns → m ≤ y) → QD (.int m) G := by
      cases x <;> exact h
    obtain ⟨a, ns, rfl, h1, h2, h3⟩ := mm_of (f := .min) R r h
    exact .inr ⟨a, ns, rfl, h1, h2, fun m h4 h5 => hQ.here R (.int _) (h3 m h4 h5)⟩
  | [x, y], r, h =>
    obtain ⟨v, w, rfl, r1, r2⟩ := two_of r
    cases x <;> try exact h.elim
    cases y <;> try exact h.elim
    cases dat_int r1; cases dat_int r2
    exact .inl ⟨_, _, rfl, hQ.here R (.int _) h⟩
  | [], _, h => exact h.elim
  | _ :: _ :: _ :: _, _, h => exact absurd h (by simp [bfD])
theorem bf_max (hc : X.calm = true) : ∃ r, CallR X (.builtin "max") r ∧ BfOk fnm clm X .max r := by
  refine ⟨_, (call_max2 hc).or (cr_max hc), fun z vs ds S H G Q QD R r h hQ => ?_⟩
  match ds, r, h with
  | [x], r, h =>
    have h : ok (seqOf x G) fun ds => ok (intsOf ds) fun ns => 0 < ns.length ∧ ∀ m, m ∈ ns → (∀ y, y ∈ ns → y ≤ m) → QD (.int m) G := by
      cases x <;> exact h
    obtain ⟨a, ns, rfl, h1, h2, h3⟩ := mm_of (f := .max) R r h
    exact .inr ⟨a, ns, rfl, h1, h2, fun m h4 h5 => hQ.here R (.int _) (h3 m h4 h5)⟩
  | [x, y], r, h =>
    obtain ⟨v, w, rfl, r1, r2⟩ := two_of r
    cases x <;> try exact h.elim
    cases y <;> try exact h.elim
    cases dat_int r1; cases dat_int r2
    exact .inl ⟨_, _, rfl, hQ.here R (.int _) h⟩
  | [], _, h => exact h.elim
  | _ :: _ :: _ :: _, _, h => exact absurd h (by simp [bfD])
theorem bf_ord : ∃ r, CallR X (.builtin "ord") r ∧ BfOk fnm clm X .ord r := by
  refine ⟨_, call_ord, fun z vs ds S H G Q QD R r h hQ => ?_⟩
  match ds, r, h with
  | [.str [c]], r, h =>
    obtain ⟨v, rfl, q⟩ := one_of r
    obtain ⟨rfl, _⟩ := dat_str q
    exact ⟨_, rfl, rfl, hQ.here R (.int _) h⟩
theorem ofString_ok (t : String) : PyData.strOk (Str.ofString t) = true := by
  unfold PyData.strOk
  rw [← Array.all_toList, List.all_eq_true]
  intro c hc
  rw [Str.ofString_eq_toList] at hc
  simp only [List.mem_map] at hc
  obtain ⟨ch, _, rfl⟩ := hc
  have h := ch.valid
  have e : ch.toNat = ch.val.toNat := rfl
  rw [decide_eq_true_eq, e]
  rcases h with h | ⟨_, h⟩ <;> omega
theorem call_strI : CallR X (.type "str") (fun xs H Q => ∃ i, xs = [.int i] ∧ i.natAbs.log2 < 1920 ∧ Q (.str (toString i)) H) := by
  intro pins s σ H xs us Q I r h
  obtain ⟨i, rfl, hz, q⟩ := h
  obtain ⟨u, rfl, t, rfl⟩ := vals1 r
  refine PySem.P.str_of_int hz ?_
  exact ⟨.str _, H, I.tok _, ⟨_, rfl⟩, q⟩
theorem bf_str : ∃ r, CallR X (.type "str") r ∧ BfOk fnm clm X .str r := by
  refine ⟨_, call_strI, fun z vs ds S H G Q QD R r h hQ => ?_⟩
  match ds, r, h with
  | [.int i], r, h =>
    obtain ⟨v, rfl, q⟩ := one_of r
    cases dat_int q
    have h : i.natAbs.log2 < 1920 ∧ ∀ s : List Nat, mkStr s = Str.ofString (toString i) → QD (.str s) G := h
    have e := mkStr_of (Str.ofString (toString i))
    have q2 := h.2 _ e
    have r2 : Dat X.K fnm S H G (.str (mkStr (Str.ofString (toString i)).cps.toList)) (.str (Str.ofString (toString i)).cps.toList) :=
      .str _ (by rw [e]; exact ofString_ok _) (int_text_fits h.1)
    rw [e] at r2
    exact ⟨_, rfl, h.1, hQ.here R r2 q2⟩
theorem bf_ok (hc : X.calm = true) (f : Bf) : ∃ r, CallR X (bfVal f) r ∧ BfOk fnm clm X f r := by
  cases f
  · exact bf_len
  · exact bf_abs
  · exact bf_int
  · exact bf_bool
  · exact bf_tuple
  · exact bf_list
  · exact bf_all hc
  · exact bf_any hc
  · exact bf_min hc
  · exact bf_max hc
  · exact bf_sum hc
  · exact bf_ord
  · exact bf_str
end
end DL

namespace DL
open PySem PySem.Spec PyProof.Rows L2
/-! ### methods of built-in types -/
section
variable {K : PySem.W.Frag} {fnm clm : Nat → Option Addr} {S : Addr → Option Bool} {H : Hp} {G : HD} {v v' : V} {d d' : D} {Q : VK} {QD : KD}
theorem write_l (R : Hel K fnm clm S H G) {a : Addr} {ds0 ds : List D} {vs : List V} (hg : G a = some (.lst ds0)) (hz : vs.length ≤ sizeLine) (r : DatAll K fnm S H G vs ds) (rv : Dat K fnm S H G v d)
    (h : QD d (updD G a (.lst ds))) (hQ : PostE K fnm clm S H G QD Q) : Q v (upd H a (.lst vs)) := by
  have ne : G a ≠ none := by rw [hg]; simp
  exact hQ v S _ d _ (.write ne) (R.writeL ne hz r) (rv.step R (.write ne)) h
theorem cell_l (R : Hel K fnm clm S H G) {a : Addr} {ds : List D} (hg : G a = some (.lst ds)) : ∃ vs, H a = some (.lst vs) ∧ vs.length ≤ sizeLine ∧ DatAll K fnm S H G vs ds := R.cell a _ hg
theorem rcv_seq (R : Hel K fnm clm S H G) (r : Dat K fnm S H G v d) (h : (seqOf d G).isSome = true) : tyV K "list" v H := by
  cases e : seqOf d G with
  | none => rw [e] at h; cases h
  | some ds =>
    obtain ⟨a, vs, rfl, h1, h2, h3⟩ := seq_ok R r e
    exact .inl ⟨rfl, vs, h1⟩
theorem rcv_str {m : Mt} (hm : m = .join ∨ m = .sindex ∨ m = .scount ∨ m = .sfind) (r : Dat K fnm S H G v d) (h : rcv m d G = true) : tyV K "str" v H := by
  cases d with
  | str s => obtain ⟨rfl, _⟩ := dat_str r; exact rfl
  | _ => rcases hm with rfl | rfl | rfl | rfl <;> (simp [rcv] at h)
theorem live_of {a : Addr} {P : List D → Prop} (h : match G a with | some (.lst ds) => P ds | _ => False) : ∃ ds, G a = some (.lst ds) ∧ P ds := by
  cases e : G a with
  | none => rw [e] at h; exact h.elim
  | some c =>
    rw [e] at h
    cases c with
    | lst ds => exact ⟨ds, rfl, h⟩
    | _ => exact h.elim
end
section
variable {fnm clm : Nat → Option Addr} {X : Cx}
def mtName : Mt → Str
  | .append => "append" | .extend => "extend" | .pop => "pop" | .index => "index" | .join => "join" | .count => "count" | .sindex => "index" | .scount => "count" | .sfind => "find"
def mtYes : Mt → Bool
  | .append | .extend | .pop | .index | .join | .sindex | .scount | .sfind => true
  | _ => false
structure MtOk (fnm clm : Nat → Option Addr) (X : Cx) (m : Mt) (T id : String) (r : V → List V → Hp → VK → Prop) : Prop where
  pa : PlainAttrs T
  slot : Slot T (mtName m) id
  ty : typeOf (.builtin id) = pure (.type "method_descriptor")
  mt : MtR X id r
  rc : ∀ v x S H G, Hel X.K fnm clm S H G → Dat X.K fnm S H G v x → rcv m x G = true → tyV X.K T v H
  to : ∀ v vs x ds S H G Q QD, Hel X.K fnm clm S H G → Dat X.K fnm S H G v x → DatAll X.K fnm S H G vs ds → mtD m x ds G QD → PostE X.K fnm clm S H G QD Q → r v vs H Q
theorem mt_appendD : ∃ T id r, MtOk fnm clm X .append T id r := by
  refine ⟨_, _, _, PySem.F.plainAttrs_list, PySem.F.slot_list_append, PySem.F.type_list_append, mt_append, fun v x S H G R r h => rcv_seq R r h, fun v vs x ds S H G Q QD R r rs h hQ => ?_⟩
  match x, ds, r, rs, h with
  | .ref a, [d], r, rs, h =>
    obtain ⟨u, rfl, ru⟩ := one_of rs
    cases dat_ref r
    obtain ⟨es, hg, h1, h2⟩ := live_of (P := fun es => es.length < lim ∧ QD .non (updD G a (.lst (es ++ [d])))) h
    obtain ⟨ws, k1, k2, k3⟩ := cell_l R hg
    exact ⟨a, ws, u, rfl, rfl, k1, by rw [k3.length, lim_eq]; exact h1, write_l R hg (by rw [List.length_append, k3.length, lim_eq]; exact h1) (k3.append (.cons ru .nil)) .non h2 hQ⟩
theorem mt_extendD : ∃ T id r, MtOk fnm clm X .extend T id r := by
  refine ⟨_, _, _, PySem.F.plainAttrs_list, PySem.F.slot_list_extend, PySem.F.type_list_extend, mt_extend, fun v x S H G R r h => rcv_seq R r h, fun v vs x ds S H G Q QD R r rs h hQ => ?_⟩
  match x, ds, r, rs, h with
  | .ref a, [d], r, rs, h =>
    obtain ⟨u, rfl, ru⟩ := one_of rs
    cases dat_ref r
    obtain ⟨es, hg, h1⟩ := live_of (P := fun es => ok (seqH d G) fun fs => es.length + fs.length ≤ lim ∧ QD .non (updD G a (.lst (es ++ fs)))) h
    obtain ⟨fs, e2, h2, h3⟩ := ok_of h1
    obtain ⟨ws, k1, k2, k3⟩ := cell_l R hg
    obtain ⟨b, zs, rfl, j1, j2, j3⟩ := seqH_ok R ru e2
    exact ⟨a, b, ws, zs, rfl, rfl, k1, j1, by rw [k3.length, j3.length, lim_eq]; exact h2, write_l R hg (by rw [List.length_append, k3.length, j3.length, lim_eq]; exact h2) (k3.append j3) .non h3 hQ⟩
theorem mt_popD : ∃ T id r, MtOk fnm clm X .pop T id r := by
  refine ⟨_, _, _, PySem.F.plainAttrs_list, PySem.F.slot_list_pop, PySem.F.type_list_pop, MtR.or mt_pop mt_popAt, fun v x S H G R r h => rcv_seq R r h, fun v vs x ds S H G Q QD R r rs h hQ => ?_⟩
  match x, ds, r, rs, h with
  | .ref a, [], r, rs, h =>
    cases rs
    cases dat_ref r
    obtain ⟨es, hg, h1⟩ := live_of (P := fun es => ok es.getLast? fun d => QD d (updD G a (.lst es.dropLast))) h
    obtain ⟨d, e2, h2⟩ := ok_of h1
    obtain ⟨ws, k1, k2, k3⟩ := cell_l R hg
    rw [List.getLast?_eq_getElem?] at e2
    obtain ⟨u, j1, j2⟩ := k3.get e2
    exact .inl ⟨a, ws, u, rfl, rfl, k1, by rw [k3.length]; exact j1, write_l R hg (by rw [List.length_dropLast]; omega) k3.dropLast j2 h2 hQ⟩
  | .ref a, [.int i], r, rs, h =>
    obtain ⟨u, rfl, ru⟩ := one_of rs
    cases dat_ref r
    cases dat_int ru
    obtain ⟨es, hg, h1, h2⟩ := live_of (P := fun es => (0 ≤ i ∧ i < es.length) ∧ ok (es[i.toNat]?) fun d => QD d (updD G a (.lst (es.eraseIdx i.toNat)))) h
    obtain ⟨d, e2, h3⟩ := ok_of h2
    obtain ⟨ws, k1, k2, k3⟩ := cell_l R hg
    obtain ⟨u, j1, j2⟩ := k3.get e2
    have hl : es.length ≤ lim := by rw [← k3.length, ← lim_eq]; exact k2
    unfold lim at hl
    refine .inr ⟨a, ws, i, i.toNat, u, rfl, rfl, k1, by omega, by omega, ?_, j1, write_l R hg (Nat.le_trans (len_erase _ _) k2) (k3.eraseIdx _) j2 h3 hQ⟩
    have q : ixN ws.length i = some i.toNat := by
      unfold ixN
      rw [if_pos h1.1, if_pos (by rw [k3.length]; exact h1.2)]
    exact (ixN_seq q).1
theorem mt_indexD' : ∃ T id r, MtOk fnm clm X .index T id r := by
  refine ⟨_, _, _, PySem.F.plainAttrs_list, PySem.F.slot_list_index, PySem.F.type_list_index, mt_index, fun v x S H G R r h => rcv_seq R r h, fun v vs x ds S H G Q QD R r rs h hQ => ?_⟩
  match ds, rs, h with
  | [d], rs, h =>
    obtain ⟨u, rfl, ru⟩ := one_of rs
    obtain ⟨es, e1, f, h2⟩ := ok_of (show ok (seqOf x G) fun es => (flatD d && es.all flatD) = true ∧ ok (es.findIdx? fun z => eqF z d) fun i => QD (.int (i : Nat)) G by cases x <;> exact h)
    obtain ⟨i, e2, h3⟩ := ok_of h2
    rw [Bool.and_eq_true] at f
    obtain ⟨a, ws, rfl, k1, k2, k3⟩ := seq_ok R r e1
    rw [List.findIdx?_eq_some_iff_getElem] at e2
    obtain ⟨hl, q1, q2⟩ := e2
    have hw : i < ws.length := by rw [k3.length]; exact hl
    obtain ⟨z, j1, j2⟩ := k3.get' (List.getElem?_eq_getElem hw)
    have ez : es[i] = z := by rw [List.getElem?_eq_getElem hl] at j1; exact Option.some.inj j1
    have fz : ∀ z ∈ es, flatD z = true := fun z hz => List.all_eq_true.mp f.2 z hz
    refine ⟨a, ws, u, i, ws[i], rfl, rfl, k1, flat_of ru f.1, flats_of k3 f.2, List.getElem?_eq_getElem hw, ?_, fun m z' hm hz' => ?_, hQ.here R (.int _) h3⟩
    · rw [eqF_of j2 ru (by rw [← ez]; exact fz _ (List.getElem_mem hl)) f.1, ← ez]; exact q1
    · obtain ⟨y, j3, j4⟩ := k3.get' hz'
      have hm2 : m < es.length := by omega
      have ey : es[m] = y := by rw [List.getElem?_eq_getElem hm2] at j3; exact Option.some.inj j3
      rw [eqF_of j4 ru (by rw [← ey]; exact fz _ (List.getElem_mem hm2)) f.1, ← ey]
      have := q2 m hm
      simpa using this
  | [], _, h => exact absurd h (by cases x <;> exact id)
  | _ :: _ :: _, _, h => exact absurd h (by cases x <;> exact id)
theorem mt_joinD : ∃ T id r, MtOk fnm clm X .join T id r := by
  refine ⟨_, _, _, PySem.F.plainAttrs_str, PySem.F.slot_str_join, PySem.F.type_str_join, mt_join, fun v x S H G R r h => rcv_str (.inl rfl) r h, fun v vs x ds S H G Q QD R r rs h hQ => ?_⟩
  match x, ds, r, rs, h with
  | .str s, [d], r, rs, h =>
    obtain ⟨u, rfl, ru⟩ := one_of rs
    obtain ⟨rfl, k, _⟩ := dat_str r
    obtain ⟨es, e1, h1⟩ := ok_of (show ok (itms d G) fun ds => ok (strsOf ds) fun ss => (ss.map List.length).sum + ss.length * s.length ≤ lim ∧ QD (.str (joinL s ss)) G from h)
    obtain ⟨ss, e2, h2, h3⟩ := ok_of h1
    obtain ⟨a, ws, rfl, k1, k2, k3⟩ := itm_ok R ru e1
    obtain ⟨e3, k4⟩ := strs_of k3 e2
    subst e3
    refine ⟨_, a, ss.map mkStr, rfl, rfl, k1, ?_, ?_⟩
    · rw [mkStr_length, List.length_map, List.map_map]
      have : ((fun (x : Str) => x.length) ∘ mkStr) = List.length := by funext x; exact mkStr_length x
      rw [this]; exact h2
    · rw [glue_of]
      refine hQ.here R (.str _ ?_ (by rw [lim_eq]; exact Nat.le_trans (joinL_len _ _) h2)) h3
      rw [strOk_iff] at k ⊢
      intro c hc
      rcases joinL_mem s hc with h | ⟨x, hx, h⟩
      · exact k c h
      · exact strOk_iff.mp (k4 x hx) c h
theorem mt_sidx : MtR X "str.index" (fun x xs H Q => ∃ (a b : Str) (k : Nat), x = .str a ∧ xs = [.str b] ∧ Txt.index0 a b = some k ∧ Q (.int (k : Int)) H) := by
  intro pins s σ H x xs v us Q I rx rs h
  obtain ⟨a, b, k, rfl, rfl, hy, w⟩ := h
  obtain ⟨t, rfl⟩ := rx
  cases rs with
  | cons r1 rs =>
    cases rs
    obtain ⟨u, rfl⟩ := r1
    cases q : Builtin.Str.occurrences a b 0 a.length 1 with
    | nil => unfold Txt.index0 at hy; rw [q] at hy; cases hy
    | cons k' rest =>
      have e : k' = k := by unfold Txt.index0 at hy; rw [q] at hy; exact Option.some.inj hy
      subst e
      exact PySem.SC.index q ⟨.int (k' : Nat), H, I.tok _, ⟨_, rfl⟩, w⟩
theorem mt_sindexD : ∃ T id r, MtOk fnm clm X .sindex T id r := by
  refine ⟨_, _, _, PySem.F.plainAttrs_str, PySem.F.slot_str_index, PySem.F.type_str_index, mt_sidx, fun v x S H G R r h => rcv_str (.inr (.inl rfl)) r h, fun v vs x ds S H G Q QD R r rs h hQ => ?_⟩
  match x, ds, r, rs, h with
  | .str s, [.str t], r, rs, h =>
    obtain ⟨u, rfl, ru⟩ := one_of rs
    obtain ⟨rfl, _⟩ := dat_str r
    obtain ⟨rfl, _⟩ := dat_str ru
    obtain ⟨i, e, h1⟩ := ok_of (show ok (Txt.index0 (mkStr s) (mkStr t)) fun i => QD (.int (i : Nat)) G from h)
    exact ⟨_, _, i, rfl, rfl, e, hQ.here R (.int _) h1⟩
theorem mt_scountD : ∃ T id r, MtOk fnm clm X .scount T id r := by
  refine ⟨_, _, _, PySem.F.plainAttrs_str, PySem.F.slot_str_count, PySem.F.type_str_count, mt_count, fun v x S H G R r h => rcv_str (.inr (.inr (.inl rfl))) r h, fun v vs x ds S H G Q QD R r rs h hQ => ?_⟩
  match x, ds, r, rs, h with
  | .str s, [.str t], r, rs, h =>
    obtain ⟨u, rfl, ru⟩ := one_of rs
    obtain ⟨rfl, _⟩ := dat_str r
    obtain ⟨rfl, _⟩ := dat_str ru
    exact ⟨_, _, rfl, rfl, hQ.here R (.int _) h⟩
theorem mt_sfindD : ∃ T id r, MtOk fnm clm X .sfind T id r := by
  refine ⟨_, _, _, PySem.F.plainAttrs_str, PySem.F.slot_str_find, PySem.F.type_str_find, mt_find, fun v x S H G R r h => rcv_str (.inr (.inr (.inr rfl))) r h, fun v vs x ds S H G Q QD R r rs h hQ => ?_⟩
  match x, ds, r, rs, h with
  | .str s, [.str t], r, rs, h =>
    obtain ⟨u, rfl, ru⟩ := one_of rs
    obtain ⟨rfl, _⟩ := dat_str r
    obtain ⟨rfl, _⟩ := dat_str ru
    exact ⟨_, _, rfl, rfl, hQ.here R (.int _) h⟩
theorem mt_okD {m : Mt} (h : mtYes m = true) : ∃ T id r, MtOk fnm clm X m T id r := by
  cases m <;> first | cases h | skip
  · exact mt_appendD
  · exact mt_extendD
  · exact mt_popD
  · exact mt_indexD'
  · exact mt_joinD
  · exact mt_sindexD
  · exact mt_scountD
  · exact mt_sfindD
end
end DL

namespace DL
open PySem PySem.Spec PyProof.Rows L2
section
variable {C : Cfg} {fnm clm : Nat → Option Addr} {Γ : Gam} {N : List Str} {sc : Scope} {X : Cx} {W : WX}
/-! ## 8. The rules of expressions -/
theorem COk.hu (k : COk C fnm clm Γ N sc X W) : X.A.units + 64 < cLine := by
  obtain ⟨n, hr, _⟩ := k.fnk; exact hr.r.units
theorem je_bin (k : COk C fnm clm Γ N sc X W) {z : Bool} {o : BOp} {op : Operator} {a b : Expr} {pos : Pos} {ea eb : E} (ho : bopB o op = true) (ha : JE fnm clm X W a (wE Γ ea)) (hb : JE fnm clm X W b (wE Γ eb)) :
    JE fnm clm X W (.BinOp a op b pos) (wE Γ (.bin z o ea eb)) := by
  obtain ⟨r, h1, h2⟩ := bin_ok (z := z) (fnm := fnm) (clm := clm) (X := X) ho
  exact je_op2 h1 ha hb h2
theorem je_neg {a : Expr} {pos : Pos} {ea : E} (ha : JE fnm clm X W a (wE Γ ea)) : JE fnm clm X W (.UnaryOp .USub a pos) (wE Γ (.neg ea)) := by
  obtain ⟨_, ta, pa, ra⟩ := ha
  refine ⟨rfl, _, pe_un un_neg pa, fun S σ σD H G Q QD XD R sl h hQ hX => ?_⟩
  refine ra S σ σD H G _ _ XD R sl h (fun v S1 H1 d G1 st1 R1 r1 h1 => ?_) hX
  cases d <;> try exact h1.elim
  cases dat_int r1
  exact ⟨_, rfl, (hQ.step st1).here R1 (.int _) h1⟩
theorem je_nt {a : Expr} {pos : Pos} {ea : E} (ha : JE fnm clm X W a (wE Γ ea)) : JE fnm clm X W (.UnaryOp .Not a pos) (wE Γ (.nt ea)) := by
  obtain ⟨_, ta, pa, ra⟩ := ha
  refine ⟨rfl, _, pe_notT pa, fun S σ σD H G Q QD XD R sl h hQ hX => ?_⟩
  refine ra S σ σD H G _ _ XD R sl h (fun v S1 H1 d G1 st1 R1 r1 h1 => ?_) hX
  obtain ⟨b, e, h2⟩ := ok_of h1
  exact ⟨b, tru_of R1 r1 e, (hQ.step st1).here R1 (.bl _) h2⟩
/-- and, or as values -/
def bopE : Bool → BoolOp
  | true => .And
  | false => .Or
theorem jb_one {b : Bool} {e : Expr} {pos : Pos} {ee : E} (he : JE fnm clm X W e (wE Γ ee)) : JE fnm clm X W (.BoolOp (bopE b) [e] pos) (wBo Γ b (.c ee .n)) := by
  obtain ⟨_, ta, pa, ra⟩ := he
  exact ⟨rfl, _, pe_one pa, ra⟩
theorem jb_cons {b : Bool} {e e' : Expr} {es : List Expr} {pos : Pos} {ee ee' : E} {ees : Es} (he : JE fnm clm X W e (wE Γ ee)) (hr : JE fnm clm X W (.BoolOp (bopE b) (e' :: es) pos) (wBo Γ b (.c ee' ees))) :
    JE fnm clm X W (.BoolOp (bopE b) (e :: e' :: es) pos) (wBo Γ b (.c ee (.c ee' ees))) := by
  obtain ⟨_, ta, pa, ra⟩ := he
  obtain ⟨_, tb, pb, rb⟩ := hr
  have main : ∀ (k0 : Bool) {S : Addr → Option Bool} {σ : St'} {σD : StD} {H : Hp} {G : HD} {Q : VK} {QD : KD} {XD : KX}, Hel X.K fnm clm S H G → SlotOk X.K fnm S H G σ σD → wBo Γ b (.c ee (.c ee' ees)) σD G QD XD → PostE X.K fnm clm S H G QD Q → PostX X.K fnm clm W σ S H G XD →
      ta σ H fun x H1 => ∃ k, TruV X.K x H1 k ∧ (k = b → tb σ H1 Q) ∧ (k ≠ b → Q x H1) := by
    intro k0 S σ σD H G Q QD XD R sl h hQ hX
    have h : wE Γ ee σD G (fun d H1 => ok (truth d H1) fun k => if k = b then wBo Γ b (.c ee' ees) σD H1 QD XD else QD d H1) XD := h
    refine ra S σ σD H G _ _ XD R sl h (fun v S1 H1 d G1 st1 R1 r1 h1 => ?_) hX
    obtain ⟨k, e, h2⟩ := ok_of h1
    refine ⟨k, tru_of R1 r1 e, fun q => ?_, fun q => ?_⟩
    · rw [if_pos q] at h2
      exact rb S1 σ σD H1 G1 _ _ XD R1 (sl.step R st1) h2 (hQ.step st1) (hX.step st1)
    · rw [if_neg q] at h2
      exact (hQ.step st1).here R1 r1 h2
  cases b with
  | true =>
    refine ⟨rfl, _, pe_andT pa pb, fun S σ σD H G Q QD XD R sl h hQ hX => ?_⟩
    refine ra S σ σD H G _ _ XD R sl h (fun v S1 H1 d G1 st1 R1 r1 h1 => ?_) hX
    obtain ⟨k, e, h2⟩ := ok_of h1
    refine ⟨k, tru_of R1 r1 e, ?_⟩
    cases k with
    | true => exact rb S1 σ σD H1 G1 _ _ XD R1 (sl.step R st1) h2 (hQ.step st1) (hX.step st1)
    | false => exact (hQ.step st1).here R1 r1 h2
  | false =>
    refine ⟨rfl, _, pe_orT pa pb, fun S σ σD H G Q QD XD R sl h hQ hX => ?_⟩
    refine ra S σ σD H G _ _ XD R sl h (fun v S1 H1 d G1 st1 R1 r1 h1 => ?_) hX
    obtain ⟨k, e, h2⟩ := ok_of h1
    refine ⟨k, tru_of R1 r1 e, ?_⟩
    cases k with
    | false => exact rb S1 σ σD H1 G1 _ _ XD R1 (sl.step R st1) h2 (hQ.step st1) (hX.step st1)
    | true => exact (hQ.step st1).here R1 r1 h2
theorem je_cmp (k : COk C fnm clm Γ N sc X W) {o : COp} {op : CmpOp} {a b : Expr} {pos : Pos} {ea eb : E} (ho : copB o op = true) (hm : behindInMarks op b = false) (ha : JE fnm clm X W a (wE Γ ea)) (hb : JE fnm clm X W b (wE Γ eb)) :
    JE fnm clm X W (.Compare a [op] [b] pos) (wE Γ (.cmp o ea eb)) := by
  obtain ⟨r, h1, h2⟩ := cmp_ok (fnm := fnm) (clm := clm) (X := X) k.hu ho
  obtain ⟨_, ta, pa, ra⟩ := ha
  obtain ⟨_, tb, pb, rb⟩ := hb
  refine ⟨rfl, _, pe_cmpR h1 pa pb hm, fun S σ σD H G Q QD XD R sl h hQ hX => ?_⟩
  exact ref2 ra rb R sl h (fun v v' S' H' d d' G' st R' r1 r2 h' => h2 v v' d d' S' H' G' Q QD R' r1 r2 h' (hQ.step st)) hX
theorem jt_cmp (k : COk C fnm clm Γ N sc X W) {o : COp} {op : CmpOp} {a b : Expr} {pos : Pos} {ea eb : E} (ho : copB o op = true) (hm : behindInMarks op b = false) (ha : JE fnm clm X W a (wE Γ ea)) (hb : JE fnm clm X W b (wE Γ eb)) :
    JT fnm clm X W (.Compare a [op] [b] pos) (wT Γ (.cmp o ea eb)) := by
  obtain ⟨r, h1, h2⟩ := cmp_ok (fnm := fnm) (clm := clm) (X := X) k.hu ho
  obtain ⟨_, ta, pa, ra⟩ := ha
  obtain ⟨_, tb, pb, rb⟩ := hb
  refine ⟨_, pt_cmpR h1 pa pb hm, fun S σ σD H G Q QD XD R sl h hQ hX => ?_⟩
  have h : wE Γ ea σD G (fun x H1 => wE Γ eb σD H1 (fun y H2 => ok (cmpD o x y H2) fun c => QD c H2) XD) XD := h
  refine ref2 ra rb R sl h (fun v v' S' H' d d' G' st R' r1 r2 h' => ?_) hX
  refine h2 v v' d d' S' H' G' _ (fun d G => ∃ c, d = .bl c ∧ QD c G) R' r1 r2 ?_ (fun u S2 H2 d2 G2 st2 R2 r3 h3 => ?_)
  · obtain ⟨c, e, h4⟩ := ok_of h'
    rw [e]
    exact ⟨c, rfl, h4⟩
  · obtain ⟨c, rfl, h4⟩ := h3
    cases dat_bl r3
    exact ⟨c, rfl, hQ c S2 H2 G2 (st.trans st2) R2 h4⟩
/-- the inner part of a chain -/
theorem chn_in {o p : COp} {op op' : CmpOp} {r r' : R2} {ta tb tc : TE} {ea eb ec : E} {Q : VK} {QD : KD} {σ : St'} {σD : StD} {S : Addr → Option Bool} {H : Hp} {G : HD} {XD : KX}
    (ra : RefE X.K fnm clm W ta (wE Γ ea)) (rb : RefE X.K fnm clm W tb (wE Γ eb)) (rc : RefE X.K fnm clm W tc (wE Γ ec))
    (h2 : ∀ v v' d d' S H G Q QD, Hel X.K fnm clm S H G → Dat X.K fnm S H G v d → Dat X.K fnm S H G v' d' → (ok (cmpD o d d' G) fun c => QD (.bl c) G) → PostE X.K fnm clm S H G QD Q → r v v' H Q)
    (h3 : ∀ v v' d d' S H G Q QD, Hel X.K fnm clm S H G → Dat X.K fnm S H G v d → Dat X.K fnm S H G v' d' → (ok (cmpD p d d' G) fun c => QD (.bl c) G) → PostE X.K fnm clm S H G QD Q → r' v v' H Q)
    (R : Hel X.K fnm clm S H G) (sl : SlotOk X.K fnm S H G σ σD) (h : wE Γ (.chn o p ea eb ec) σD G QD XD) (hQ : PostE X.K fnm clm S H G QD Q) (hX : PostX X.K fnm clm W σ S H G XD) : tChain r r' ta tb tc σ H Q := by
  refine ref2 ra rb R sl h (fun v v' S' H' d d' G' st R' r1 r2 h' => ?_) hX
  refine h2 v v' d d' S' H' G' _ (fun z G0 => G0 = G' ∧ ∃ k, z = .bl k ∧ match k with
      | true => wE Γ ec σD G' (fun z H3 => ok (cmpD p d' z H3) fun k' => QD (.bl k') H3) XD
      | false => QD (.bl false) G') R' r1 r2 ?_ (fun u S2 H2 d2 G2 st2 R2 r3 h4 => ?_)
  · obtain ⟨c, e, h4⟩ := ok_of h'
    rw [e]
    exact ⟨rfl, c, rfl, h4⟩
  · obtain ⟨rfl, c, rfl, h5⟩ := h4
    cases dat_bl r3
    refine ⟨c, rfl, ?_⟩
    cases c with
    | false => exact (hQ.step (st.trans st2)).here R2 (.bl _) h5
    | true =>
      refine rc S2 σ σD H2 G2 _ _ XD R2 (sl.step R (st.trans st2)) h5 (fun w S3 H3 d3 G3 st3 R3 r4 h6 => ?_) (hX.step (st.trans st2))
      exact h3 v' w d' d3 S3 H3 G3 Q QD R3 ((r2.step R' st2).step R2 st3) r4 h6 (hQ.step ((st.trans st2).trans st3))
theorem je_chn (k : COk C fnm clm Γ N sc X W) {o p : COp} {op op' : CmpOp} {a b c : Expr} {pos : Pos} {ea eb ec : E} (ho : copB o op = true) (hp : copB p op' = true) (hm : lastMarks [op, op'] [b, c] = false) (ha : JE fnm clm X W a (wE Γ ea)) (hb : JE fnm clm X W b (wE Γ eb)) (hc : JE fnm clm X W c (wE Γ ec)) :
    JE fnm clm X W (.Compare a [op, op'] [b, c] pos) (wE Γ (.chn o p ea eb ec)) := by
  obtain ⟨r, h1, h2⟩ := cmp_ok (fnm := fnm) (clm := clm) (X := X) k.hu ho
  obtain ⟨r', h1', h3⟩ := cmp_ok (fnm := fnm) (clm := clm) (X := X) k.hu hp
  obtain ⟨_, ta, pa, ra⟩ := ha
  obtain ⟨_, tb, pb, rb⟩ := hb
  obtain ⟨_, tc, pc, rc⟩ := hc
  refine ⟨rfl, _, pe_chain h1 h1' pa pb pc hm, fun S σ σD H G Q QD XD R sl h hQ hX => ?_⟩
  exact chn_in (op := op) (op' := op') ra rb rc h2 h3 R sl h hQ hX
theorem jt_chn (k : COk C fnm clm Γ N sc X W) {o p : COp} {op op' : CmpOp} {a b c : Expr} {pos : Pos} {ea eb ec : E} (ho : copB o op = true) (hp : copB p op' = true) (hm : lastMarks [op, op'] [b, c] = false) (ha : JE fnm clm X W a (wE Γ ea)) (hb : JE fnm clm X W b (wE Γ eb)) (hc : JE fnm clm X W c (wE Γ ec)) :
    JT fnm clm X W (.Compare a [op, op'] [b, c] pos) (wT Γ (.chn o p ea eb ec)) := by
  obtain ⟨r, h1, h2⟩ := cmp_ok (fnm := fnm) (clm := clm) (X := X) k.hu ho
  obtain ⟨r', h1', h3⟩ := cmp_ok (fnm := fnm) (clm := clm) (X := X) k.hu hp
  obtain ⟨_, ta, pa, ra⟩ := ha
  obtain ⟨_, tb, pb, rb⟩ := hb
  obtain ⟨_, tc, pc, rc⟩ := hc
  refine ⟨_, pt_chain h1 h1' pa pb pc hm, fun S σ σD H G Q QD XD R sl h hQ hX => ?_⟩
  refine chn_in (op := op) (op' := op') (QD := fun d G => match d with | .bl c => QD c G | _ => False) ra rb rc h2 h3 R sl h (fun u S2 H2 d2 G2 st2 R2 r3 h4 => ?_) hX
  cases d2 <;> try exact h4.elim
  cases dat_bl r3
  exact ⟨_, rfl, hQ _ S2 H2 G2 st2 R2 h4⟩
theorem je_ife {t a b : Expr} {pos : Pos} {et : T} {ea eb : E} (ht : JT fnm clm X W t (wT Γ et)) (ha : JE fnm clm X W a (wE Γ ea)) (hb : JE fnm clm X W b (wE Γ eb)) : JE fnm clm X W (.IfExp t a b pos) (wE Γ (.ife et ea eb)) := by
  obtain ⟨tt, pt, rt⟩ := ht
  obtain ⟨_, ta, pa, ra⟩ := ha
  obtain ⟨_, tb, pb, rb⟩ := hb
  refine ⟨rfl, _, pe_ifExp pt pa pb, fun S σ σD H G Q QD XD R sl h hQ hX => ?_⟩
  refine rt S σ σD H G _ _ XD R sl h (fun c S1 H1 G1 st1 R1 h1 => ?_) hX
  cases c with
  | true => exact ra S1 σ σD H1 G1 _ _ XD R1 (sl.step R st1) h1 (hQ.step st1) (hX.step st1)
  | false => exact rb S1 σ σD H1 G1 _ _ XD R1 (sl.step R st1) h1 (hQ.step st1) (hX.step st1)
theorem ja_nil : JA fnm clm X W [] (wEs Γ .n) := ⟨fun _ z => (nomatch z), _, pa_nil, fun S σ σD H G Q QD XD R sl h hQ hX => hQ [] S H [] G rfl .refl R .nil h⟩
theorem ja_cons {e : Expr} {es : List Expr} {ee : E} {ees : Es} (he : JE fnm clm X W e (wE Γ ee)) (hr : JA fnm clm X W es (wEs Γ ees)) : JA fnm clm X W (e :: es) (wEs Γ (.c ee ees)) := by
  obtain ⟨s, ta, pa, ra⟩ := he
  obtain ⟨ss, tb, pb, rb⟩ := hr
  refine ⟨fun x hx => ?_, _, pa_cons pa pb (star_no s _ _), fun S σ σD H G Q QD XD R sl h hQ hX => ?_⟩
  · rcases List.mem_cons.mp hx with rfl | hx
    · exact s
    · exact ss x hx
  · refine ra S σ σD H G _ _ XD R sl h (fun v S1 H1 d G1 st1 R1 r1 h1 => ?_) hX
    refine rb S1 σ σD H1 G1 _ _ XD R1 (sl.step R st1) h1 (fun vs S2 H2 ds G2 hl st2 R2 r2 h2 => ?_) (hX.step st1)
    exact hQ (v :: vs) S2 H2 (d :: ds) G2 (by rw [List.length_cons, hl, List.length_cons]) (st1.trans st2) R2 (.cons (r1.step R1 st2) r2) h2
theorem star_all {es : List Expr} (h : ∀ e ∈ es, isStar e = false) (pos : Pos) (env : Env) : (backTo pos (starEach es env)).any (·.1) = false := by
  induction es with
  | nil => rfl
  | cons e es ih =>
    rw [star_no (h e List.mem_cons_self)]
    have := ih fun x hx => h x (List.mem_cons_of_mem _ hx)
    simp only [backTo, List.map_cons, List.any_cons, Bool.false_or] at this ⊢
    exact this
theorem je_tup {es : List Expr} {k : Nat} {pos : Pos} {ees : Es} (hl : es.length ≤ 1000) (h : JA fnm clm X W es (wEs Γ ees)) : JE fnm clm X W (.Tuple es k pos) (wE Γ (.tup ees)) := by
  obtain ⟨_, ta, pa, ra⟩ := h
  refine ⟨rfl, _, pe_tupP pa, fun S σ σD H G Q QD XD R sl h hQ hX => ?_⟩
  refine ra S σ σD H G _ _ XD R sl h (fun vs S1 H1 ds G1 hn st1 R1 r1 h1 => ?_) hX
  have hz : vs.length ≤ sizeLine := by rw [hn, lim_eq]; unfold lim; omega
  exact ⟨hz, new_tup R1 hz r1 h1 (hQ.step st1)⟩
theorem je_lst {z : Bool} {es : List Expr} {pos : Pos} {ees : Es} (hl : es.length ≤ 1000) (h : JA fnm clm X W es (wEs Γ ees)) : JE fnm clm X W (.List es pos) (wE Γ (.lst z ees)) := by
  obtain ⟨_, ta, pa, ra⟩ := h
  refine ⟨rfl, _, pe_lst pa, fun S σ σD H G Q QD XD R sl h hQ hX => ?_⟩
  refine ra S σ σD H G _ _ XD R sl h (fun vs S1 H1 ds G1 hn st1 R1 r1 h1 => ?_) hX
  have hz : vs.length ≤ sizeLine := by rw [hn, lim_eq]; unfold lim; omega
  exact ⟨hz, new_list R1 hz r1 h1 (hQ.step st1)⟩
def isSlice : Expr → Bool
  | .Slice .. => true
  | _ => false
theorem plain_ix {b : Expr} (h : isSlice b = false) : PlainIx b := by
  intro o i
  cases b <;> first | rfl | cases h
theorem je_idx {a b : Expr} {pos : Pos} {ea eb : E} (hs : isSlice b = false) (ha : JE fnm clm X W a (wE Γ ea)) (hb : JE fnm clm X W b (wE Γ eb)) : JE fnm clm X W (.Subscript a b pos) (wE Γ (.idx ea eb)) := by
  obtain ⟨_, ta, pa, ra⟩ := ha
  obtain ⟨_, tb, pb, rb⟩ := hb
  refine ⟨rfl, _, pe_ix ix_seq pa pb (plain_ix hs), fun S σ σD H G Q QD XD R sl h hQ hX => ?_⟩
  exact ref2 ra rb R sl h (fun v v' S' H' d d' G' st R' r1 r2 h' => idx_ok R' r1 r2 h' (hQ.step st)) hX
/-- a part of a slice -/
theorem jo_none {w : StD → HD → KD → KX → Prop} : ∃ te, PO X none te ∧ RefO X.K fnm clm W te (wPart true w) :=
  ⟨_, po_none, fun S σ σD H G Q QD XD R sl h hQ hX => hQ none S H G .refl R h⟩
theorem jo_some {e : Expr} {ee : E} (he : JE fnm clm X W e (wE Γ ee)) : ∃ te, PO X (some e) te ∧ RefO X.K fnm clm W te (wPart false (wE Γ ee)) := by
  obtain ⟨_, ta, pa, ra⟩ := he
  refine ⟨_, po_some pa, fun S σ σD H G Q QD XD R sl h hQ hX => ?_⟩
  refine ra S σ σD H G _ _ XD R sl h (fun v S1 H1 d G1 st1 R1 r1 h1 => ?_) hX
  cases d <;> try exact h1.elim
  cases dat_int r1
  exact ⟨_, rfl, hQ _ S1 H1 G1 st1 R1 h1⟩
theorem je_sl {z : Bool} {a : Expr} {lo hi : Option Expr} {pos p2 : Pos} {ea el eh : E} (ha : JE fnm clm X W a (wE Γ ea)) (hl : ∃ te, PO X lo te ∧ RefO X.K fnm clm W te (wPart (isNo el) (wE Γ el))) (hh : ∃ te, PO X hi te ∧ RefO X.K fnm clm W te (wPart (isNo eh) (wE Γ eh))) :
    JE fnm clm X W (.Subscript a (.Slice lo hi none p2) pos) (wE Γ (.sl z ea el eh)) := by
  obtain ⟨_, ta, pa, ra⟩ := ha
  obtain ⟨tl, pl, rl⟩ := hl
  obtain ⟨th, ph, rh⟩ := hh
  refine ⟨rfl, _, pe_slice (sl_str.or (sl_tupP.or sl_list)) pa pl ph, fun S σ σD H G Q QD XD R sl h hQ hX => ?_⟩
  refine ra S σ σD H G _ _ XD R sl h (fun v S1 H1 d G1 st1 R1 r1 h1 => ?_) hX
  refine rl S1 σ σD H1 G1 _ _ XD R1 (sl.step R st1) h1 (fun o1 S2 H2 G2 st2 R2 h2 => ?_) (hX.step st1)
  refine rh S2 σ σD H2 G2 _ _ XD R2 (sl.step R (st1.trans st2)) h2 (fun o2 S3 H3 G3 st3 R3 h3 => ?_) (hX.step (st1.trans st2))
  exact sl_okD R3 ((r1.step R1 st2).step R2 st3) h3 (hQ.step ((st1.trans st2).trans st3))
theorem je_call (k : COk C fnm clm Γ N sc X W) {f n : Nat} {x : Str} {e : Expr} {es : List Expr} {p pos : Pos} {ees : Es} (hf : C.fns[f]? = some (x, n)) (hn : (e :: es).length = n) (hx : nameOk x = true) (hg : Gl X x) (h : JA fnm clm X W (e :: es) (wEs Γ ees)) :
    JE fnm clm X W (.Call (.Name x p) (e :: es) [] pos) (wE Γ (.call f ees)) := by
  obtain ⟨m, hr, hk⟩ := k.fnk
  obtain ⟨ss, ta, pa, ra⟩ := h
  have n1 := (name_debug hx).1
  obtain ⟨a, fd, ps, h0, h1, h2, h3, h4, h5⟩ := (hk f (x, n) hf).ex
  refine ⟨rfl, _, pe_callS h5 hr.r hg (h2 (name_dot hx)) h3 h4 (fun σ => passAt k.tk σ) pa n1 (star_no (ss e List.mem_cons_self) _ _) (star_all (fun y hy => ss y (List.mem_cons_of_mem _ hy)) _ _), fun S σ σD H G Q QD XD R sl h hQ hX => ?_⟩
  refine ra S σ σD H G _ _ XD R sl h (fun vs S1 H1 ds G1 hl st1 R1 r1 h1 => ?_) hX
  exact ⟨hl.trans hn, S1, G1, ds, QD, XD, R1, r1, h1, hQ.step st1, hX.step st1⟩
theorem je_frz {e : Expr} {ee : E} (he : JE fnm clm X W e (wE Γ ee)) : JE fnm clm X W e (wE Γ (.frz ee)) := by
  obtain ⟨s, ta, pa, ra⟩ := he
  refine ⟨s, ta, pa, fun S σ σD H G Q QD XD R sl h hQ hX => ?_⟩
  refine ra S σ σD H G Q (fun d H1 => frzD d H1 QD) XD R sl h (fun v S1 H1 d G1 st1 R1 r1 h1 => ?_) hX
  exact frz_ok R1 r1 h1 (hQ.step st1)
theorem blt_of (k : COk C fnm clm Γ N sc X W) {x : Str} (h : bltNames.contains x = true) : X.mg x = none := k.blt x (by simpa using h)
theorem bf_names (f : Bf) : bltNames.contains (bfName f) = true ∧ nameOk (bfName f) = true ∧ bootBuiltins (bfName f) = some (bfVal f) := by
  cases f <;> exact ⟨by decide +kernel, by decide +kernel, by decide +kernel⟩
theorem je_bf (k : COk C fnm clm Γ N sc X W) {z : Bool} {f : Bf} {x : Str} {e : Expr} {es : List Expr} {p pos : Pos} {ees : Es} (hf : bfName f = x) (hg : Gl X x) (h : JA fnm clm X W (e :: es) (wEs Γ ees)) :
    JE fnm clm X W (.Call (.Name x p) (e :: es) [] pos) (wE Γ (.bf z f ees)) := by
  subst hf
  obtain ⟨ss, ta, pa, ra⟩ := h
  obtain ⟨r, h1, h2⟩ := bf_ok (fnm := fnm) (clm := clm) k.calm f
  obtain ⟨b1, b2, b3⟩ := bf_names f
  obtain ⟨n1, n2, n3⟩ := name_debug b2
  have ref : RefE X.K fnm clm W (tCB r ta) (wE Γ (.bf z f ees)) := fun S σ σD H G Q QD XD R sl h hQ hX =>
    ra S σ σD H G _ _ XD R sl h (fun vs S1 H1 ds G1 hl st1 R1 r1 h1 => h2 z vs ds S1 H1 G1 Q QD R1 r1 h1 (hQ.step st1)) hX
  refine ⟨rfl, _, ?_, ref⟩
  have s1 := star_no (ss e List.mem_cons_self) es X.env
  have s2 := star_all (fun y hy => ss y (List.mem_cons_of_mem _ hy)) pos X.env
  cases f <;> first
    | exact pe_callB h1 hg (blt_of k b1) b3 pa n3 n1 s1 s2
    | exact pe_callTy h1 hg (blt_of k b1) b3 pa n3 n1 s1 s2
def tyName : Ty → String
  | .non => "NoneType" | .bool => "bool" | .int => "int" | .str => "str" | .tuple => "tuple" | .list => "list" | .dict => "dict"
def tyStr : Ty → Str
  | .non => "NoneType" | .bool => "bool" | .int => "int" | .str => "str" | .tuple => "tuple" | .list => "list" | .dict => "dict"
theorem kit_is (a b : Ty) (h : b ≠ .non) : PySem.W.kitOne X.K (.type (tyName a)) (.type (tyName b)) = some (isTy a b) := by
  refine kit_ty ?_
  cases b <;> first | exact absurd rfl h | skip
  all_goals (cases a <;> decide +kernel)
theorem ty_of {K : PySem.W.Frag} {S : Addr → Option Bool} {H : Hp} {G : HD} {v : V} {d : D} (R : Hel K fnm clm S H G) (r : Dat K fnm S H G v d) {t : Ty} (e : tyD d G = some t) : TyX K H v (.type (tyName t)) := by
  cases d with
  | non => cases dat_non r; cases e; exact .base .non
  | bl _ => cases dat_bl r; cases e; exact .base (.bl _)
  | int _ => cases dat_int r; cases e; exact .base (.int _)
  | str _ => obtain ⟨rfl, _⟩ := dat_str r; cases e; exact .base (.str _)
  | tup ds =>
    obtain ⟨a, vs, rfl, h1, h2, h3⟩ := dat_tup r
    cases e
    rcases h1 with (h1 | ⟨o, h1⟩) | ⟨o, its, n, h1, h2, _⟩
    · exact .base (.tup h1)
    · exact .fTuple h1
    · exact .kTuple h1 h2
  | tpl ds =>
    obtain ⟨a, vs, rfl, h1, h2, h3⟩ := dat_tpl r
    cases e
    rcases h1 with (h1 | ⟨o, h1⟩) | ⟨o, its, n, h1, h2, _⟩
    · exact .base (.tup h1)
    · exact .fTuple h1
    · exact .kTuple h1 h2
  | lst ds =>
    obtain ⟨a, vs, rfl, h1, _⟩ := dat_lst r
    cases e
    rcases h1 with ⟨h1, _, _⟩ | ⟨o, h1⟩ | ⟨o, its, n, h1, h2, _⟩
    · exact .base (.lst h1)
    · exact .base (.frz h1)
    · exact .kList h1 h2
  | scr ds =>
    obtain ⟨a, vs, rfl, h1, _⟩ := dat_scr r
    cases e
    rcases h1 with ⟨h1, _, _⟩ | ⟨o, h1⟩ | ⟨o, its, n, h1, h2, _⟩
    · exact .base (.lst h1)
    · exact .base (.frz h1)
    · exact .kList h1 h2
  | ref a =>
    cases dat_ref r
    cases q : G a with
    | none => simp [tyD, q] at e
    | some c =>
      cases c with
      | lst ds => simp [tyD, q] at e; subst e; obtain ⟨vs, h1, _⟩ := R.cell a _ q; exact .base (.lst h1)
      | dct ds => simp [tyD, q] at e; subst e; obtain ⟨vs, h1, _⟩ := R.cell a _ q; exact .base (.dK h1)
      | ins _ _ => simp [tyD, q] at e
  | _ => exact nomatch (show (none : Option Ty) = some t from e)
theorem ty_names (t : Ty) (h : t ≠ .non) : bltNames.contains (tyStr t) = true ∧ nameOk (tyStr t) = true ∧ bootBuiltins (tyStr t) = some (.type (tyName t)) := by
  cases t <;> first | exact absurd rfl h | exact ⟨by decide +kernel, by decide +kernel, by decide +kernel⟩
theorem je_isi (k : COk C fnm clm Γ N sc X W) {t : Ty} {a : Expr} {x : Str} {p p2 pos : Pos} {ea : E} (ht : t ≠ .non) (hx : tyStr t = x) (hg : Gl X "isinstance") (hg2 : Gl X x) (ha : JE fnm clm X W a (wE Γ ea)) :
    JE fnm clm X W (.Call (.Name "isinstance" p) [a, .Name x p2] [] pos) (wE Γ (.isi ea [t])) := by
  subst hx
  obtain ⟨s, ta, pa, ra⟩ := ha
  obtain ⟨b1, b2, b3⟩ := ty_names t ht
  obtain ⟨n1, n2, n3⟩ := name_debug b2
  have pt : PE X (.Name (tyStr t) p2) (tC (.ty (tyName t))) := pe_bltn hg2 (blt_of k b1) b3 rfl n3 n1
  refine ⟨rfl, _, pe_callB call_isi hg (blt_of k (by decide +kernel)) (by decide +kernel) (pa_cons pa (pa_cons pt pa_nil) (star_no s _ _)) (by decide) (by decide) (star_no s _ _) rfl, fun S σ σD H G Q QD XD R sl h hQ hX => ?_⟩
  refine ra S σ σD H G _ _ XD R sl h (fun v S1 H1 d G1 st1 R1 r1 h1 => ?_) hX
  obtain ⟨u, e, h2⟩ := ok_of h1
  refine ⟨v, .ty (tyName t), _, _, isTy u t, rfl, .ty _, ty_of R1 r1 e, kit_is u t ht, (hQ.step st1).here R1 (.bl _) ?_⟩
  simpa using h2
def okBase : Expr → Bool
  | .Call (.Name _ _) [] [] _ => false
  | _ => true
theorem base_of {o : Expr} (h : okBase o = true) (m : Str) (env : Env) : attributeBase o m env (eval o env) = eval o env := by
  unfold attributeBase
  split
  · rename_i id p pos
    cases h
  · rfl
end
end DL

namespace DL
open PySem PySem.Spec PyProof.Rows L2
section
variable {C : Cfg} {fnm clm : Nat → Option Addr} {Γ : Gam} {N : List Str} {sc : Scope} {X : Cx} {W : WX}
/-! ## 9. Methods, targets, what is walked, comprehensions -/
theorem je_mt {m : Mt} (hm : mtYes m = true) {o e : Expr} {x : Str} {apos cpos : Pos} {eo : E} {ees : Es} (hx : mtName m = x) (hb : okBase o = true) (hl : (apos.endLine == cpos.line) = true)
    (ho : JE fnm clm X W o (wE Γ eo)) (h : JA fnm clm X W [e] (wEs Γ ees)) : JE fnm clm X W (.Call (.Attribute o x apos) [e] [] cpos) (wE Γ (.mt m eo ees)) := by
  subst hx
  obtain ⟨T, id, r, M⟩ := mt_okD (fnm := fnm) (clm := clm) (X := X) hm
  obtain ⟨s, to, po, ro⟩ := ho
  obtain ⟨ss, ta, pa, ra⟩ := h
  have s1 := star_no (ss e List.mem_cons_self) [] X.env
  refine ⟨rfl, _, pe_bm M.pa M.slot M.ty M.mt po pa (base_of hb _ _) (by rw [s1] <;> rfl) hl s1 rfl, fun S σ σD H G Q QD XD R sl h hQ hX => ?_⟩
  refine ro S σ σD H G _ _ XD R sl h (fun v S1 H1 d G1 st1 R1 r1 h1 => ?_) hX
  obtain ⟨h1, h2⟩ := h1
  refine ⟨M.rc v d S1 H1 G1 R1 r1 h1, ?_⟩
  refine ra S1 σ σD H1 G1 _ _ XD R1 (sl.step R st1) h2 (fun vs S2 H2 ds G2 hl st2 R2 r2 h3 => ?_) (hX.step st1)
  exact M.to v vs d ds S2 H2 G2 Q QD R2 (r1.step R1 st2) r2 h3 (hQ.step (st1.trans st2))
theorem je_mt0 {m : Mt} (hm : mtYes m = true) {o : Expr} {x : Str} {apos cpos : Pos} {eo : E} (hx : mtName m = x) (hb : okBase o = true) (hl : (apos.endLine == cpos.line) = true)
    (ho : JE fnm clm X W o (wE Γ eo)) : JE fnm clm X W (.Call (.Attribute o x apos) [] [] cpos) (wE Γ (.mt m eo .n)) := by
  subst hx
  obtain ⟨T, id, r, M⟩ := mt_okD (fnm := fnm) (clm := clm) (X := X) hm
  obtain ⟨s, to, po, ro⟩ := ho
  refine ⟨rfl, _, pe_bm0 M.pa M.slot M.ty M.mt po (base_of hb _ _) hl, fun S σ σD H G Q QD XD R sl h hQ hX => ?_⟩
  refine ro S σ σD H G _ _ XD R sl h (fun v S1 H1 d G1 st1 R1 r1 h1 => ?_) hX
  exact ⟨M.rc v d S1 H1 G1 R1 r1 h1.1, M.to v [] d [] S1 H1 G1 Q QD R1 r1 .nil h1.2 (hQ.step st1)⟩
/-! ### tests -/
def plainT : Expr → Bool
  | .UnaryOp .Not _ _ => false
  | .BoolOp .. => false
  | .IfExp .. => false
  | .Compare .. => false
  | _ => true
theorem true_of {e : Expr} (h : plainT e = true) (env : Env) (whole : Sem Value) : isTrue e env whole = (do let v ← whole; standAt e.pos; holding [v] (truthy v)) := by
  cases e <;> first | rfl | cases h | skip
  rename_i op x pos
  cases op <;> first | rfl | cases h
theorem jt_of {e : Expr} {ee : E} (hp : plainT e = true) (he : JE fnm clm X W e (wE Γ ee)) : JT fnm clm X W e (wT Γ (.of ee)) := by
  obtain ⟨s, ta, pa, ra⟩ := he
  refine ⟨_, pt_truth pa (true_of hp X.env), fun S σ σD H G Q QD XD R sl h hQ hX => ?_⟩
  refine ra S σ σD H G _ _ XD R sl h (fun v S1 H1 d G1 st1 R1 r1 h1 => ?_) hX
  obtain ⟨b, e, h2⟩ := ok_of h1
  exact ⟨b, tru_of R1 r1 e, hQ b S1 H1 G1 st1 R1 h2⟩
theorem jt_nt {e : Expr} {pos : Pos} {et : T} (he : JT fnm clm X W e (wT Γ et)) : JT fnm clm X W (.UnaryOp .Not e pos) (wT Γ (.nt et)) := by
  obtain ⟨ta, pa, ra⟩ := he
  refine ⟨_, pt_not pa, fun S σ σD H G Q QD XD R sl h hQ hX => ?_⟩
  exact ra S σ σD H G _ _ XD R sl h (fun b S1 H1 G1 st1 R1 h1 => hQ (!b) S1 H1 G1 st1 R1 h1) hX
/-- and, or of tests -/
def JTs (fnm clm : Nat → Option Addr) (X : Cx) (W : WX) (b : Bool) (es : List Expr) (t : StD → HD → (Bool → HD → Prop) → KX → Prop) : Prop := ∀ pos, ∃ te, PW X (.BoolOp (bopE b) es pos) te ∧ RefT X.K fnm clm W te t
theorem jts_one {b : Bool} {e : Expr} {et : T} (he : JT fnm clm X W e (wT Γ et)) : JTs fnm clm X W b [e] (wTs Γ b (.c et .n)) := fun pos => by
  obtain ⟨ta, pa, ra⟩ := he
  cases b with
  | true => exact ⟨_, pw_and1 pa, ra⟩
  | false => exact ⟨_, pw_or1 pa, ra⟩
theorem jts_cons {b : Bool} {e e' : Expr} {es : List Expr} {et et' : T} {ets : Ts} (he : JT fnm clm X W e (wT Γ et)) (hr : JTs fnm clm X W b (e' :: es) (wTs Γ b (.c et' ets))) : JTs fnm clm X W b (e :: e' :: es) (wTs Γ b (.c et (.c et' ets))) := fun pos => by
  obtain ⟨ta, pa, ra⟩ := he
  obtain ⟨tb, pb, rb⟩ := hr pos
  cases b with
  | true =>
    refine ⟨_, pw_and pa pb, fun S σ σD H G Q QD XD R sl h hQ hX => ?_⟩
    refine ra S σ σD H G _ _ XD R sl h (fun c S1 H1 G1 st1 R1 h1 => ?_) hX
    cases c with
    | true => exact rb S1 σ σD H1 G1 _ _ XD R1 (sl.step R st1) h1 (hQ.step st1) (hX.step st1)
    | false => exact hQ false S1 H1 G1 st1 R1 h1
  | false =>
    refine ⟨_, pw_or pa pb, fun S σ σD H G Q QD XD R sl h hQ hX => ?_⟩
    refine ra S σ σD H G _ _ XD R sl h (fun c S1 H1 G1 st1 R1 h1 => ?_) hX
    cases c with
    | false => exact rb S1 σ σD H1 G1 _ _ XD R1 (sl.step R st1) h1 (hQ.step st1) (hX.step st1)
    | true => exact hQ true S1 H1 G1 st1 R1 h1
theorem jt_bo {b : Bool} {es : List Expr} {pos : Pos} {ets : Ts} (h : JTs fnm clm X W b es (wTs Γ b ets)) : JT fnm clm X W (.BoolOp (bopE b) es pos) (wT Γ (.bo b ets)) := by
  obtain ⟨te, p, r⟩ := h pos
  exact ⟨te, p.pt, r⟩
/-! ### targets -/
mutual
def tIn : Tgt → List Nat → Bool
  | .n i, vs => vs.contains i
  | .t ts, vs => tIns ts vs
def tIns : List Tgt → List Nat → Bool
  | [], _ => true
  | t :: ts, vs => tIn t vs && tIns ts vs
end
theorem wipe_set {i : Nat} {o : Option V} : ∀ {vs : List Nat} {σ : St'}, vs.contains i = true → wipe (σ.set i o) vs = wipe σ vs
  | [], _, h => by cases h
  | v :: vs, σ, h => by
    by_cases e : vs.contains i = true
    · show (wipe (σ.set i o) vs).set v none = (wipe σ vs).set v none
      rw [wipe_set e]
    · have q : v = i := by
        simp only [List.contains_cons, Bool.or_eq_true, beq_iff_eq] at h
        rcases h with h | h
        · exact h.symm
        · exact absurd h e
      subst q
      have out : ∀ {ws : List Nat} {τ : St'}, ¬ ws.contains v = true → wipe (τ.set v o) ws = (wipe τ ws).set v o := by
        intro ws
        induction ws with
        | nil => intro τ _; rfl
        | cons w ws ih =>
          intro τ hw
          simp only [List.contains_cons, Bool.or_eq_true, beq_iff_eq, not_or] at hw
          show (wipe (τ.set v o) ws).set w none = ((wipe τ ws).set w none).set v o
          rw [ih hw.2, List.set_comm _ _ hw.1]
      show (wipe (σ.set v o) vs).set v none = (wipe σ vs).set v none
      rw [out e, List.set_set]
def RefG (K : PySem.W.Frag) (fnm clm : Nat → Option Addr) (g : TG) (t : Tgt) : Prop := ∀ S (σ : St') σD H G v d (Q : St' → Hp → Prop) σD', Hel K fnm clm S H G → SlotOk K fnm S H G σ σD → Dat K fnm S H G v d → asg t d σD = some σD' →
  (∀ σ', SlotOk K fnm S H G σ' σD' → (∀ vs, tIn t vs = true → wipe σ' vs = wipe σ vs) → Q σ' H) → g v σ H Q
def RefGs (K : PySem.W.Frag) (fnm clm : Nat → Option Addr) (g : TGs) (t : List Tgt) : Prop := ∀ S (σ : St') σD H G vs ds (Q : St' → Hp → Prop) σD', Hel K fnm clm S H G → SlotOk K fnm S H G σ σD → DatAll K fnm S H G vs ds → asgs t ds σD = some σD' →
  (∀ σ', SlotOk K fnm S H G σ' σD' → (∀ ws, tIns t ws = true → wipe σ' ws = wipe σ ws) → Q σ' H) → g vs σ H Q
def JG (fnm clm : Nat → Option Addr) (X : Cx) (tg : Expr) (t : Tgt) : Prop := ∃ g, PG X tg g ∧ RefG X.K fnm clm g t
structure JGs (fnm clm : Nat → Option Addr) (X : Cx) (tgs : List Expr) (t : List Tgt) : Prop where
  star : ∀ e ∈ tgs, isStar e = false
  len : tgs.length = t.length
  ex : ∃ g, PGs X tgs g ∧ RefGs X.K fnm clm g t
theorem jg_name {i : Nat} {x : Str} {pos : Pos} (nd : X.N.Nodup) (hi : X.N[i]? = some x) (hx : L2.Loc X.env.scope x) (hf : X.fn x = true ∨ X.env.scope.names.lookup x = some .local) : JG fnm clm X (.Name x pos) (.n i) := by
  refine ⟨_, pg_name nd hi hx hf, fun S σ σD H G v d Q σD' R sl r e h => ?_⟩
  cases e
  exact h _ (sl.set r i) fun vs hv => wipe_set hv
theorem asg_star {e : Expr} (h : isStar e = false) (es : List Expr) (env : Env) : assignEach (e :: es) env = (false, assign e env) :: assignEach es env := by
  cases e <;> first | rfl | cases h
theorem jgs_nil : JGs fnm clm X [] [] := ⟨fun _ z => (nomatch z), rfl, _, pgs_nil, fun S σ σD H G vs ds Q σD' R sl r e h => by
  cases r with
  | nil => cases e; exact ⟨rfl, h σ sl fun _ _ => rfl⟩
  | cons _ _ => cases e⟩
theorem jgs_cons {e : Expr} {es : List Expr} {t : Tgt} {ts : List Tgt} (hs : isStar e = false) (he : JG fnm clm X e t) (hr : JGs fnm clm X es ts) : JGs fnm clm X (e :: es) (t :: ts) := by
  obtain ⟨g, pg, rg⟩ := he
  obtain ⟨ss, hl, gs, pgs, rgs⟩ := hr
  refine ⟨fun x hx => ?_, by rw [List.length_cons, hl, List.length_cons], _, pgs_cons pg pgs (by rw [asg_star hs] <;> rfl), fun S σ σD H G vs ds Q σD' R sl r e h => ?_⟩
  · rcases List.mem_cons.mp hx with rfl | hx
    · exact hs
    · exact ss x hx
  · cases r with
    | nil => cases e
    | cons r rr =>
      rename_i v d vs ds
      have e' : (match asg t d σD with | some σ' => asgs ts ds σ' | none => none) = some σD' := e
      cases q : asg t d σD with
      | none => rw [q] at e'; cases e'
      | some σ1 =>
        rw [q] at e'
        refine ⟨v, vs, rfl, rg S σ σD H G v d _ σ1 R sl r q fun σ' sl' w => ?_⟩
        refine rgs S σ' σ1 H G vs ds _ σD' R sl' rr e' fun σ'' sl'' w' => h σ'' sl'' fun ws hw => ?_
        have hw2 : tIn t ws = true ∧ tIns ts ws = true := by simpa only [tIns, Bool.and_eq_true] using hw
        rw [w' ws hw2.2, w ws hw2.1]
theorem jg_tup {es : List Expr} {k : Nat} {pos : Pos} {ts : List Tgt} (hc : X.calm = true) (h : JGs fnm clm X es ts) : JG fnm clm X (.Tuple es k pos) (.t ts) := by
  obtain ⟨ss, hl, g, pg, rg⟩ := h
  have len : ∀ {es : List Expr}, (∀ e ∈ es, isStar e = false) → (assignEach es X.env).length = es.length ∧ (assignEach es X.env).findIdx? (·.1) = none := by
    intro es
    induction es with
    | nil => intro _; exact ⟨rfl, rfl⟩
    | cons e es ih =>
      intro hs
      obtain ⟨h1, h2⟩ := ih fun x hx => hs x (List.mem_cons_of_mem _ hx)
      rw [asg_star (hs e List.mem_cons_self)]
      refine ⟨by rw [List.length_cons, h1, List.length_cons], ?_⟩
      rw [List.findIdx?_cons, h2]; rfl
  obtain ⟨l1, l2⟩ := len ss
  refine ⟨_, pg_tup (n := es.length) hc pg l1 l2, fun S σ σD H G v d Q σD' R sl r e h => ?_⟩
  obtain ⟨ds, a, vs, rfl, h1, h2, h3, e⟩ : ∃ ds a vs, v = .ref a ∧ SqT X.K H a vs ∧ vs.length ≤ sizeLine ∧ DatAll X.K fnm S H G vs ds ∧ asgs ts ds σD = some σD' := by
    cases d <;> try exact nomatch (show (none : Option StD) = some σD' from e)
    · obtain ⟨a, vs, h0, h1, h2, h3⟩ := dat_tup r
      exact ⟨_, a, vs, h0, h1, h2, h3, e⟩
    · obtain ⟨a, vs, h0, h1, h2, h3⟩ := dat_tpl r
      exact ⟨_, a, vs, h0, h1, h2, h3, e⟩
  have tl : ∀ {ts : List Tgt} {ds : List D} {σ σ' : StD}, asgs ts ds σ = some σ' → ts.length = ds.length := by
    intro ts
    induction ts with
    | nil => intro ds σ σ' e; cases ds with
      | nil => rfl
      | cons _ _ => cases e
    | cons t ts ih =>
      intro ds σ σ' e
      cases ds with
      | nil => cases e
      | cons d ds =>
        have e' : (match asg t d σ with | some σ' => asgs ts ds σ' | none => none) = some σ' := e
        split at e'
        · rw [List.length_cons, List.length_cons, ih e']
        · cases e'
  refine ⟨a, vs, rfl, h1, by rw [h3.length, hl, tl e], ?_⟩
  exact rg S σ σD H G vs ds Q σD' R sl h3 e fun σ' sl' w => h σ' sl' w
end
end DL

/-! ### enumerate over a tuple -/
namespace DL.En
open PySem PySem.Spec PyProof.Rows L2
open Sem (wp)
open AutoSeq1 (wpAny_loadPart')
abbrev tIt (t : Addr) : Obj := { cls := .type "tuple_iterator", data := .fields #[.ref t, .int 0 0] }
abbrev eOb (i : Addr) : Obj := { cls := .type "enumerate", data := .fields #[.none, .bool false, .ref i, rawInt 0, .none, .none] }
theorem new_tup (t : Addr) (items : Array Value) (n : Nat) (dct : Option Addr) (sl : Array (Option Value)) :
    Meets (Builtin.«enumerate.__new__» ⟨[.type "enumerate", .ref t], []⟩) (fun _ R s => s.heap.get? t = some { cls := .type "tuple", dict := dct, data := .seq items n, slots := sl } ∧
      R (.ok (.ret (.ref (s.heap.push (tIt t)).objs.size))) { s with heap := (s.heap.push (tIt t)).push (eOb s.heap.objs.size) }) :=
  .of_wp fun prog w A R s h => by
    obtain ⟨hp, g, d, tk, os⟩ := s; obtain ⟨ht, h⟩ := h
    have sub := sub_enumerate; have T : Heap.IsTuple (Shared.heap ⟨hp, g, d, tk, os⟩) t items := ⟨_, ht, rfl, n, rfl⟩
    wp_walk using wpAny_loadPart' ht
    refine wpAny_stack_any fun _ => wpAny_pure ?_; split
    · rename_i c _ _ _ _ _; cases (c == Value.type "enumerate")
      · wp_walk using wpAny_loadPart' ht, wpAny_pyIter_tuple T; exact ⟨_, rfl, h⟩
      · wp_walk using wpAny_loadPart' ht, wpAny_pyIter_tuple T; exact ⟨_, rfl, h⟩
    · wp_walk using wpAny_loadPart' ht, wpAny_pyIter_tuple T; exact ⟨_, rfl, h⟩
theorem call_tup {prog : Program} {w : World} {A : Around} {E : Value → Shared → Prop} {s : Shared} {t : Addr} {items : Array Value} {Q : Value → Shared → Prop} (hT : s.heap.IsTuple t items)
    (k : ∀ h', IsEnum h' (s.heap.objs.size + 1) s.heap.objs.size 0 .none → h'.IsTupleIter s.heap.objs.size t 0 → h'.objs.size = s.heap.objs.size + 2 → (∀ b o, s.heap.get? b = some o → h'.get? b = some o) → Q (.ref (s.heap.objs.size + 1)) { s with heap := h' }) :
    wpAny (model prog w) A (call (.type "enumerate") [.ref t]) Q E s := by
  obtain ⟨⟨c, dct, dt, sl⟩, ht, hc, n, hd⟩ := hT
  cases (hc : c = .type "tuple"); cases (hd : dt = .seq items n)
  have sz : (s.heap.push (tIt t)).objs.size = s.heap.objs.size + 1 := Heap.size_push ..
  refine callType_new F.called_enumerate (by decide) (F.typeCall_enumerate_1 _) (F.newCall_enumerate_1 _) (fun o => F.args_object_init_2 o _) F.entry_enumerate_new (new_tup t items n dct sl) ⟨ht, ?_⟩
  have en : IsEnum ((s.heap.push (tIt t)).push (eOb s.heap.objs.size)) (s.heap.objs.size + 1) s.heap.objs.size 0 .none := by
    have q := Heap.get?_push_size (s.heap.push (tIt t)) (o := eOb s.heap.objs.size) rfl; rw [sz] at q; exact q
  show _ ∧ _; rw [sz]
  exact ⟨⟨_, en, rfl⟩, k _ en ⟨_, Heap.get?_push_of_some _ (Heap.get?_push_size _ rfl), rfl, rfl⟩ (by rw [Heap.size_push, sz]) fun b o y => Heap.get?_push_of_some _ (Heap.get?_push_of_some _ y)⟩
/-- the tuple at a, each item in a new pair -/
def ItE (K : PySem.W.Frag) (a : Addr) : It :=
  ⟨fun i H => ∃ (xs : List V) (x : V), SqT K H a xs ∧ xs[i]? = some x, fun i H v H' => ∃ T x, v = .ref T ∧ H T = none ∧ H' = upd H T (.tup [.int (i : Nat), x]) ∧ ∀ xs, SqT K H a xs → xs[i]? = some x, fun i H => ∃ xs : List V, SqT K H a xs ∧ xs.length ≤ i⟩
theorem turn {P : Program} {w : World} {K : PySem.W.Frag} {elts : List Expr} {kk : Nat} {tpos : Pos} (a e it : Addr) :
    Turn P w K (.Tuple elts kk tpos) (ItE K a) [e, it] e (fun i h => (∃ old, IsEnum h e it ((i : Nat) : Int) old) ∧ h.IsTupleIter it a i ∧ e ≠ it) where
  mem := by simp
  obj := fun i h st b hb => by
    obtain ⟨⟨old, he⟩, ⟨o, ho, hc, hd⟩, _⟩ := st
    rcases (show b = e ∨ b = it by simpa using hb) with z | z
    · rw [z]; exact ⟨_, he, fun v q => nomatch q⟩
    · rw [z]; exact ⟨o, ho, fun v q => by rw [hd] at q; cases q⟩
  keep := fun i h h' ⟨⟨old, he⟩, hi, hne⟩ k => ⟨⟨old, k e (by simp) _ he⟩, hi.at fun o q => k it (by simp) o q, hne⟩
  item := by
    intro X hP hw hK hc i pins s σ H E I hf st hg; subst hP hw hK
    obtain ⟨⟨⟨old, he⟩, hit, hne⟩, ⟨xs, x, hq, hx⟩⟩ := And.intro st hg
    obtain ⟨its, rv, p, _⟩ := I.tuple hq
    obtain ⟨u, hu, ru⟩ := rv.get hx
    have hel : e < s.heap.objs.size := Heap.lt_size he
    have hil : it < s.heap.objs.size := by obtain ⟨_, q, _⟩ := hit; exact Heap.lt_size q
    have pt : s.heap.IsTuple a its.toArray := p
    have hlt : i < its.toArray.size := by rw [List.size_toArray]; exact (List.getElem?_eq_some_iff.mp hu).1
    have dif : ∀ b : Addr, (∃ o, s.heap.get? b = some o ∧ o.cls ≠ .type "tuple") → a ≠ b := fun b ⟨o, h1, h2⟩ z => by
      obtain ⟨o', h3, h4, _⟩ := pt; rw [z, h1] at h3; cases h3; exact h2 h4
    have hae : a ≠ e := dif e ⟨_, he, by simp⟩
    have hai : a ≠ it := dif it (by obtain ⟨o, h1, h2, _⟩ := hit; exact ⟨o, h1, by rw [h2]; simp⟩)
    refine wpAny_pyNext_enum_itemD (Draws.tuple (show X.A.in1.handled = none from I.ok.hd hc) it a hai its.toArray) he ⟨hit, pt⟩ hlt hne (by simp [hne, Ne.symm hae]) fun y h' tk py ho ⟨hit', _⟩ hT hsz hk => ?_
    have ey : y = u := by
      have : its[i]? = some y := by simpa using py
      rw [hu] at this; exact (Option.some.inj this).symm
    subst ey
    refine ⟨_, rfl, wpAny_letOwnedTupleGo_enum (s := { s with heap := h', toks := tk + 1 }) ho fun h'' he' sb => ?_⟩
    have hT2 : h''.get? s.heap.objs.size = some { cls := .type "tuple", data := .seq #[.int i tk, y] } := (sb.2 _ (Nat.ne_of_gt hel)).trans hT
    have new : ObjOk X.prog X.w (upd H s.heap.objs.size (.tup [.int (i : Nat), x])) h'' s.heap.objs.size (.tup [.int (i : Nat), x]) := ⟨by show 2 ≤ sizeLine; decide, [.int i tk, y], .cons ⟨_, rfl⟩ (.cons ru .nil), ⟨_, hT2, rfl, _, rfl⟩⟩
    have I1 : Inv X pins σ (upd H s.heap.objs.size (.tup [.int (i : Nat), x])) { s with heap := h'', toks := tk + 1 } :=
      I.turnedNew (ch := [e, it]) (fun b ob hb q => (sb.2 b (fun z => hb (by simp [z]))).trans (hk b ob (fun z => hb (by simp [z])) (fun z => hb (by simp [z])) q)) hf (Nat.le_refl _) new
    refine ⟨.ref s.heap.objs.size, _, I1, rfl, ⟨_, x, rfl, I.hok.fresh (Nat.le_refl _), rfl, fun ys hy => by rw [I.tuple_inj hy hq]; exact hx⟩, ⟨⟨y, by rw [show ((i + 1 : Nat) : Int) = (i : Int) + 1 by omega]; exact he'⟩, hit'.at fun o q => (sb.2 it (Ne.symm hne)).trans q, hne⟩, fun b hb => ?_⟩
    have hb' : b < s.heap.objs.size := by
      rcases (show b = e ∨ b = it by simpa using hb) with z | z <;> (rw [z]; assumption)
    rw [upd_ne (Nat.ne_of_lt hb')]; exact (hf b hb).1
  done := by
    intro X hP hw hK hc i pins s σ H E I hf st hg; subst hP hw hK
    obtain ⟨⟨⟨old, he⟩, hit, hne⟩, ⟨xs, hq, hx⟩⟩ := And.intro st hg
    obtain ⟨its, rv, p, _⟩ := I.tuple hq
    obtain ⟨f0, f1, f2, f3, f4, f5⟩ := hf it (by simp)
    have pt : s.heap.IsTuple a its.toArray := p
    have hai : a ≠ it := fun z => by
      obtain ⟨o, h1, h2, _⟩ := hit; obtain ⟨o', h3, h4, _⟩ := pt
      rw [z, h1] at h3; cases h3; rw [h2] at h4; simp at h4
    have none' : its.toArray[i]? = none := Array.getElem?_eq_none (by rw [List.size_toArray, ← rv.length]; exact hx)
    have D : Draws X.prog X.w X.A.in1 it [it, a] i (fun _ _ => False) (fun k h => k = i ∧ h.IsTupleIter it a i ∧ h.IsTuple a its.toArray) := {
      live := fun _ _ st => let ⟨o, ho, _⟩ := st.2.1; ⟨o, ho⟩
      frame := fun _ _ _ st hk => ⟨st.1, st.2.1.at fun o q => hk it (by simp) o q, st.2.2.at fun o q => hk a (by simp) o q⟩
      item := fun k s Q E hk st _ => absurd st.1 (by omega)
      done := fun s Q E st hE => wpAny_nextOf_tuple_end (show X.A.in1.handled = none from I.ok.hd hc) st.2.1 st.2.2 none' hE }
    exact wpAny_pyNext_enum_endD D he ⟨rfl, hit, pt⟩ fun h' eb => ⟨rfl, I.turned (t' := s.toks) (fun b o hb q => eb b o hb q) f0 f1 f3 f4 f5⟩
  self := fun A i s Q E ⟨⟨_, he⟩, _⟩ h => wpAny_pyIter_enum he h
def iAny (K : PySem.W.Frag) (ta : TA) : TI := fun σ H R => ta σ H fun vs H1 => ∃ a xs, vs = [.ref a] ∧ ((SqL K H1 a xs ∧ R (Ite K a) H1) ∨ (SqT K H1 a xs ∧ R (ItE K a) H1))
theorem pi_any {X : Cx} {e : Expr} {ta : TA} {p pos tpos : Pos} {elts : List Expr} {kk : Nat} (hg : Gl X "enumerate") (hm : X.mg "enumerate" = none) (ha : PA X [e] ta) (hs : starEach [e] X.env = [(false, eval e X.env)]) :
    PI X (.Tuple elts kk tpos) (.Call (.Name "enumerate" p) [e] [] pos) (iAny X.K ta) := by
  refine ⟨fun pins s σ H R I h => ?_⟩
  refine Call_ (ld_blt I hg hm boot_enumerate (PyProof.Rows.callWith_type1 (thn (ha.run pos pins s σ H _ I h) fun us s1 ⟨vs, H1, I1, r1, ⟨a, xs, ex, q⟩⟩ => ?_) hs rfl))
  subst ex
  cases r1 with
  | cons r rr =>
    cases rr; cases r
    have fp : ∀ b, b ∈ [s1.heap.objs.size + 1, s1.heap.objs.size] → FpOk X pins H1 b := fun b hb => by
      have hle : s1.heap.objs.size ≤ b := by
        rcases (show b = s1.heap.objs.size + 1 ∨ b = s1.heap.objs.size by simpa using hb) with z | z <;> omega
      exact I1.fpOk hle (I1.hok.fresh hle)
    rcases q with ⟨hq, q⟩ | ⟨hq, q⟩
    · obtain ⟨its, rv, p', hz⟩ := I1.list hq
      refine call_enumerate_list p'.isList fun h' he hit hsz hk => wpAny_pyIter_enum he ?_
      exact ⟨s1.heap.objs.size + 1, [s1.heap.objs.size + 1, s1.heap.objs.size], _, _, H1, rfl, I1.kept (t' := s1.toks) hk, turn_enum a (s1.heap.objs.size + 1) s1.heap.objs.size, ⟨⟨.none, he⟩, hit, Nat.succ_ne_self _⟩, fp, q⟩
    · obtain ⟨its, rv, p', hz⟩ := I1.tuple hq
      refine call_tup (show s1.heap.IsTuple a its.toArray from p') fun h' he hit hsz hk => wpAny_pyIter_enum he ?_
      exact ⟨s1.heap.objs.size + 1, [s1.heap.objs.size + 1, s1.heap.objs.size], _, _, H1, rfl, I1.kept (t' := s1.toks) hk, turn a (s1.heap.objs.size + 1) s1.heap.objs.size, ⟨⟨.none, he⟩, hit, Nat.succ_ne_self _⟩, fp, q⟩
end DL.En

namespace RZ
open PySem
open PySem.Sem (wp)
section
variable {prog : Program} {w : World} {A : Around} {E : Value → Shared → Prop} {s : Shared}
abbrev IsZipB (h : Heap) (z TI TO : Addr) (f0 : Value) (b : Bool) : Prop :=
  h.get? z = some { cls := .type "zip", dict := none, data := .fields #[f0, .bool b, .bool false, .ref TI, .ref TO], slots := #[] }
theorem wpAny_alive {a : Addr} {Q : Option Obj → Shared → Prop} (h : Q (s.heap.get? a) s) : wpAny (model prog w) A (loadIfAlive a) Q E s := fun Γ p _ => by
  unfold loadIfAlive
  rw [Sem.wp_loadIfAlive]
  exact h
theorem same_refl {z : Addr} {h : Heap} : Heap.SameBut z h h := ⟨rfl, fun _ _ => rfl⟩
theorem notFree {z TI TO T : Addr} {b0 : Bool} {oT : Obj} {Q : Bool → Shared → Prop} (hz : IsZipB s.heap z TI TO (rawInt T) b0) (hT : s.heap.get? T = some oT)
    (h : ∀ h', IsZipB h' z TI TO (rawInt T) true → Heap.SameBut z s.heap h' → Q false { s with heap := h' }) : wpAny (model prog w) A (Builtin.SmallTypes.ownedTupleIsFree (.ref z)) Q E s := by
  unfold Builtin.SmallTypes.ownedTupleIsFree
  refine wpAny_bind (wpAny_field hz rfl (x := rawInt T) rfl ?_)
  show wpAny _ _ (loadIfAlive ((T : Int).toNat) >>= _) _ _ _
  refine wpAny_bind (wpAny_alive ?_)
  have e : s.heap.get? ((T : Int).toNat) = some oT := by rw [Int.toNat_natCast]; exact hT
  rw [e]
  show wpAny _ _ (field (.ref z) 1 >>= _) _ _ _
  refine wpAny_bind (wpAny_field hz rfl (x := .bool b0) rfl ?_)
  cases b0 with
  | true => exact wpAny_pure (h _ hz same_refl)
  | false =>
    show wpAny _ _ (setField (.ref z) 1 (.bool true) >>= _) _ _ _
    exact wpAny_bind (wpAny_setField_rec hz (by simp) fun h' hz' hs' => wpAny_pure (h h' hz' hs'))
theorem zipT_next_itemB {z TI TO i1 i2 l1 l2 T : Addr} {b0 : Bool} {k1 k2 : Nat} {xs ys : Array Value} {x y : Value} {oT : Obj} {Q : Value → Shared → Prop} (D : ZipApart z TI TO i1 i2 l1 l2)
    (hz : IsZipB s.heap z TI TO (rawInt T) b0) (hT : s.heap.get? T = some oT) (hTI : IsPair s.heap TI (.ref i1) (.ref i2))
    (h1 : s.heap.IsTupleIter i1 l1 k1) (h2 : s.heap.IsTupleIter i2 l2 k2) (hl1 : s.heap.IsTuple l1 xs) (hl2 : s.heap.IsTuple l2 ys) (hx : xs[k1]? = some x) (hy : ys[k2]? = some y)
    (hQ : ∀ h', IsZipB h' z TI TO (rawInt T) true → h'.IsTupleIter i1 l1 (k1 + 1) → h'.IsTupleIter i2 l2 (k2 + 1) → IsPair h' s.heap.objs.size x y → h'.objs.size = s.heap.objs.size + 1 →
      (∀ c o, c ≠ z → c ≠ i1 → c ≠ i2 → s.heap.get? c = some o → h'.get? c = some o) → Q (.ref s.heap.objs.size) { s with heap := h' }) :
    wpAny (model prog w) A (Builtin.«zip.__next__» ⟨[.ref z], []⟩) (fun fin s' => ∃ v, fin = .done (.ret v) ∧ Q v s') E s := by
  show wpAny _ _ (field (.ref z) 2 >>= _) _ _ _
  refine wpAny_bind (wpAny_field hz rfl (x := .bool false) rfl ?_)
  show wpAny _ _ (field (.ref z) 3 >>= _) _ _ _
  refine wpAny_bind (wpAny_field hz rfl (x := .ref TI) rfl ?_)
  refine wpAny_bind (wpAny_seqItems hTI rfl ?_)
  show wpAny _ _ (Builtin.SmallTypes.ownedTupleIsFree (.ref z) >>= _) _ _ _
  refine wpAny_bind (notFree hz hT fun h₁ hz₁ hs₁ => ?_)
  simp only [Bool.false_eq_true, if_false]
  refine wpAny_bind ?_
  simp only [List.forIn_toArray, List.forIn_cons, List.forIn_nil]
  refine wpAny_bind (wpAny_bind (wpAny_holding ?_))
  show wpAny _ _ (Builtin.SmallTypes.nextOf (.ref i1) >>= _) _ _ _
  refine wpAny_bind (nextOf_tuple_item (h1.extBut hs₁.extBut D.i1z) (hl1.extBut hs₁.extBut D.l1z) hx fun h₂ h1₂ hs₂ => wpAny_pure (wpAny_pure ?_))
  refine wpAny_bind (wpAny_bind (wpAny_holding ?_))
  show wpAny _ _ (Builtin.SmallTypes.nextOf (.ref i2) >>= _) _ _ _
  refine wpAny_bind (nextOf_tuple_item ((h2.extBut hs₁.extBut D.i2z).extBut hs₂.extBut D.i12.symm) ((hl2.extBut hs₁.extBut D.l2z).extBut hs₂.extBut D.l2i1) hy fun h₄ h2₄ hs₄ => wpAny_pure (wpAny_pure (wpAny_pure ?_)))
  show wpAny _ _ (newTuple [x, y] >>= _) _ _ _
  refine wpAny_bind (wpAny_newTuple ?_)
  have hsz : h₄.objs.size = s.heap.objs.size := by rw [hs₄.1, hs₂.1, hs₁.1]
  have hk : ∀ c o, c ≠ z → c ≠ i1 → c ≠ i2 → s.heap.get? c = some o → h₄.get? c = some o := fun c o c1 c3 c4 e => hs₄.extBut _ _ c4 (hs₂.extBut _ _ c3 (hs₁.extBut _ _ c1 e))
  have hz₄ : IsZipB h₄ z TI TO (rawInt T) true := hs₄.extBut _ _ D.i2z.symm (hs₂.extBut _ _ D.i1z.symm hz₁)
  have h1₄ : h₄.IsTupleIter i1 l1 (k1 + 1) := h1₂.extBut hs₄.extBut D.i12
  have q := hQ (h₄.push { cls := .type "tuple", data := .seq #[x, y] }) (Heap.get?_push_of_some _ hz₄) (h1₄.at fun o e => Heap.get?_push_of_some _ e) (h2₄.at fun o e => Heap.get?_push_of_some _ e)
    (by rw [← hsz]; exact Heap.get?_push_size _ rfl) (by rw [Heap.size_push, hsz]) fun c o c1 c2 c3 e => Heap.get?_push_of_some _ (hk c o c1 c2 c3 e)
  rw [← hsz] at q
  exact wpAny_pure ⟨_, rfl, q⟩
theorem zipT_next_endB {z TI TO i1 i2 l1 l2 T : Addr} {b0 : Bool} {k1 k2 : Nat} {xs ys : Array Value} {oT : Obj} {Q : Fin → Shared → Prop} (hh : A.handled = none) (D : ZipApart z TI TO i1 i2 l1 l2)
    (hz : IsZipB s.heap z TI TO (rawInt T) b0) (hT : s.heap.get? T = some oT) (hTI : IsPair s.heap TI (.ref i1) (.ref i2))
    (h1 : s.heap.IsTupleIter i1 l1 k1) (h2 : s.heap.IsTupleIter i2 l2 k2) (hl1 : s.heap.IsTuple l1 xs) (hl2 : s.heap.IsTuple l2 ys) (hend : xs[k1]? = none ∨ ys[k2]? = none)
    (hE : ∀ h' e, (∀ c o, c ≠ z → c ≠ i1 → c ≠ i2 → s.heap.get? c = some o → h'.get? c = some o) → (∃ o, h'.get? e = some o ∧ o.cls = .type "StopIteration") → E (.ref e) { s with heap := h' }) :
    wpAny (model prog w) A (Builtin.«zip.__next__» ⟨[.ref z], []⟩) Q E s := by
  show wpAny _ _ (field (.ref z) 2 >>= _) _ _ _
  refine wpAny_bind (wpAny_field hz rfl (x := .bool false) rfl ?_)
  show wpAny _ _ (field (.ref z) 3 >>= _) _ _ _
  refine wpAny_bind (wpAny_field hz rfl (x := .ref TI) rfl ?_)
  refine wpAny_bind (wpAny_seqItems hTI rfl ?_)
  show wpAny _ _ (Builtin.SmallTypes.ownedTupleIsFree (.ref z) >>= _) _ _ _
  refine wpAny_bind (notFree hz hT fun h₁ hz₁ hs₁ => ?_)
  simp only [Bool.false_eq_true, if_false]
  refine wpAny_bind ?_
  simp only [List.forIn_toArray, List.forIn_cons, List.forIn_nil]
  refine wpAny_bind (wpAny_bind (wpAny_holding ?_))
  show wpAny _ _ (Builtin.SmallTypes.nextOf (.ref i1) >>= _) _ _ _
  cases hx : xs[k1]? with
  | none =>
    exact wpAny_bind (nextOf_tuple_end hh (h1.extBut hs₁.extBut D.i1z) (hl1.extBut hs₁.extBut D.l1z) hx fun h₂ e hs₂ he => hE h₂ e (fun c o c1 c3 _ x => hs₂ _ _ c3 (hs₁.extBut _ _ c1 x)) he)
  | some x =>
    have hy : ys[k2]? = none := by rcases hend with h | h; rw [hx] at h; cases h; exact h
    refine wpAny_bind (nextOf_tuple_item (h1.extBut hs₁.extBut D.i1z) (hl1.extBut hs₁.extBut D.l1z) hx fun h₂ h1₂ hs₂ => wpAny_pure (wpAny_pure ?_))
    refine wpAny_bind (wpAny_bind (wpAny_holding ?_))
    show wpAny _ _ (Builtin.SmallTypes.nextOf (.ref i2) >>= _) _ _ _
    exact wpAny_bind (nextOf_tuple_end hh ((h2.extBut hs₁.extBut D.i2z).extBut hs₂.extBut D.i12.symm) ((hl2.extBut hs₁.extBut D.l2z).extBut hs₂.extBut D.l2i1) hy fun h₄ e hs₄ he =>
      hE h₄ e (fun c o c1 c3 c4 x => hs₄ _ _ c4 (hs₂.extBut _ _ c3 (hs₁.extBut _ _ c1 x))) he)
/-- a zip of two tuples on its way: fresh, or its last pair is held -/
def ZAt (h : Heap) (z TI TO i1 i2 l1 l2 : Addr) (k : Nat) : Prop :=
  ((IsZip h z TI TO .none ∧ ∃ a b, IsPair h TO a b) ∨ ∃ (T : Addr) (b0 : Bool) (oT : Obj), IsZipB h z TI TO (rawInt T) b0 ∧ h.get? T = some oT ∧ T ≠ z ∧ T ≠ i1 ∧ T ≠ i2) ∧ IsPair h TI (.ref i1) (.ref i2) ∧ h.IsTupleIter i1 l1 k ∧ h.IsTupleIter i2 l2 k
theorem zat_zip {h : Heap} {z TI TO i1 i2 l1 l2 : Addr} {k : Nat} (q : ZAt h z TI TO i1 i2 l1 l2 k) : ∃ o, h.get? z = some o ∧ o.cls = .type "zip" := by
  rcases q.1 with ⟨h1, _⟩ | ⟨T, b, oT, h1, _⟩ <;> exact ⟨_, h1, rfl⟩
theorem pyNext_zat_item {z TI TO i1 i2 l1 l2 : Addr} {k : Nat} {xs ys : Array Value} {x y : Value} {Q : Option Value → Shared → Prop} (D : ZipApart z TI TO i1 i2 l1 l2)
    (q : ZAt s.heap z TI TO i1 i2 l1 l2 k) (hl1 : s.heap.IsTuple l1 xs) (hl2 : s.heap.IsTuple l2 ys) (hx : xs[k]? = some x) (hy : ys[k]? = some y)
    (hQ : ∀ h', ZAt h' z TI TO i1 i2 l1 l2 (k + 1) → IsPair h' s.heap.objs.size x y → h'.objs.size = s.heap.objs.size + 1 →
      (∀ c o, c ≠ z → c ≠ TO → c ≠ i1 → c ≠ i2 → s.heap.get? c = some o → h'.get? c = some o) → Q (some (.ref s.heap.objs.size)) { s with heap := h' }) :
    wpAny (model prog w) A (pyNext (.ref z)) Q E s := by
  obtain ⟨o, ho, hc⟩ := zat_zip q
  have hT : s.TypeIs (.ref z) "zip" := ⟨_, ho, hc⟩
  obtain ⟨q1, hTI, h1, h2⟩ := q
  have hi1lt : i1 < s.heap.objs.size := by obtain ⟨_, e, _⟩ := h1; exact Heap.lt_size e
  have hi2lt : i2 < s.heap.objs.size := by obtain ⟨_, e, _⟩ := h2; exact Heap.lt_size e
  have hzlt : z < s.heap.objs.size := Heap.lt_size ho
  unfold pyNext
  refine wpAny_bind (wpAny_attempt (wpAny_callSpecial?_slot (name := Str.ofString "__next__") hT F.slot_zip_next (wpAny_call_entry F.slot_zip_next hT F.entry_zip_next ?_ (F.args_zip_next_1 _))))
  rcases q1 with ⟨hz, a, b, hTO⟩ | ⟨T, b0, oT, hz, hoT, n1, n2, n3⟩
  · refine zipT_next_item D hz hTI hTO h1 h2 hl1 hl2 hx hy fun h' a1 a2 a3 a4 a5 a6 a7 => wpAny_pure (hQ h' ⟨.inr ⟨_, false, _, a1, a5, ?_, ?_, ?_⟩, a7 _ _ D.TIz D.TITO D.TIi1 D.TIi2 hTI, a3, a4⟩ a5 a6 a7)
    · exact Nat.ne_of_gt hzlt
    · exact Nat.ne_of_gt hi1lt
    · exact Nat.ne_of_gt hi2lt
  · exact zipT_next_itemB D hz hoT hTI h1 h2 hl1 hl2 hx hy fun h' a1 a3 a4 a5 a6 a7 => wpAny_pure (hQ h' ⟨.inr ⟨T, true, oT, a1, a7 _ _ n1 n2 n3 hoT, n1, n2, n3⟩, a7 _ _ D.TIz D.TIi1 D.TIi2 hTI, a3, a4⟩ a5 a6 fun c o c1 _ c3 c4 e => a7 c o c1 c3 c4 e)
theorem pyNext_zat_end {z TI TO i1 i2 l1 l2 : Addr} {k : Nat} {xs ys : Array Value} {Q : Option Value → Shared → Prop} (hh : A.handled = none) (D : ZipApart z TI TO i1 i2 l1 l2)
    (q : ZAt s.heap z TI TO i1 i2 l1 l2 k) (hl1 : s.heap.IsTuple l1 xs) (hl2 : s.heap.IsTuple l2 ys) (hend : xs[k]? = none ∨ ys[k]? = none)
    (hQ : ∀ h', (∀ c o, c ≠ z → c ≠ TO → c ≠ i1 → c ≠ i2 → s.heap.get? c = some o → h'.get? c = some o) → Q none { s with heap := h' }) : wpAny (model prog w) A (pyNext (.ref z)) Q E s := by
  obtain ⟨o, ho, hc⟩ := zat_zip q
  have hT : s.TypeIs (.ref z) "zip" := ⟨_, ho, hc⟩
  obtain ⟨q1, hTI, h1, h2⟩ := q
  rcases q1 with ⟨hz, a, b, hTO⟩ | ⟨T, b0, oT, hz, hoT, n1, n2, n3⟩
  · exact pyNext_zipT_end hh D hz hTI hTO h1 h2 hl1 hl2 hend hQ
  · unfold pyNext
    refine wpAny_bind (wpAny_attempt (wpAny_callSpecial?_slot (name := Str.ofString "__next__") hT F.slot_zip_next
      (wpAny_call_entry F.slot_zip_next hT F.entry_zip_next (zipT_next_endB hh D hz hoT hTI h1 h2 hl1 hl2 hend fun h' e hk he => ?_) (F.args_zip_next_1 _))))
    obtain ⟨o, ho, hc⟩ := he
    refine wpAny_bind (wpAny_isInstance (T := "StopIteration") (b := true) ⟨o, ho, hc⟩ isSubtype_stop ?_)
    exact wpAny_pure (hQ _ fun c o c1 _ c3 c4 e => hk c o c1 c3 c4 e)
theorem ZAt.keep {h h' : Heap} {z TI TO i1 i2 l1 l2 : Addr} {k : Nat} (q : ZAt h z TI TO i1 i2 l1 l2 k) (kp : ∀ c, c = z ∨ c = TI ∨ c = TO ∨ c = i1 ∨ c = i2 → ∀ o, h.get? c = some o → h'.get? c = some o)
    (al : ∀ c o, h.get? c = some o → ∃ o', h'.get? c = some o') : ZAt h' z TI TO i1 i2 l1 l2 k := by
  obtain ⟨q1, hTI, h1, h2⟩ := q
  refine ⟨?_, kp _ (by simp) _ hTI, h1.at fun o e => kp _ (by simp) o e, h2.at fun o e => kp _ (by simp) o e⟩
  rcases q1 with ⟨hz, a, b, hTO⟩ | ⟨T, b0, oT, hz, hoT, n1, n2, n3⟩
  · exact .inl ⟨kp _ (by simp) _ hz, a, b, kp _ (by simp) _ hTO⟩
  · obtain ⟨o', e⟩ := al _ _ hoT
    exact .inr ⟨T, b0, o', kp _ (by simp) _ hz, e, n1, n2, n3⟩
structure ZAc (h : Heap) (B : Nat) (xs ys acc : Array Value) (as : List Addr) : Prop where
  acc_ : acc.toList = as.map Value.ref
  inc : as.Pairwise (· < ·)
  rng : ∀ a ∈ as, B ≤ a ∧ a < h.objs.size
  at_ : ∀ (j : Nat) (a : Addr), as[j]? = some a → ∃ x y, xs[j]? = some x ∧ ys[j]? = some y ∧ IsPair h a x y
theorem ZAc.sz {h : Heap} {B : Nat} {xs ys acc : Array Value} {as : List Addr} (a : ZAc h B xs ys acc as) : acc.size = as.length := by
  have := congrArg List.length a.acc_
  simpa using this
theorem ZAc.keep {h h' : Heap} {B : Nat} {xs ys acc : Array Value} {as : List Addr} (a : ZAc h B xs ys acc as) (k : ∀ c o, B ≤ c → h.get? c = some o → h'.get? c = some o) : ZAc h' B xs ys acc as :=
  have at' : ∀ (j : Nat) (c : Addr), as[j]? = some c → ∃ x y, xs[j]? = some x ∧ ys[j]? = some y ∧ IsPair h' c x y := fun j c e => by
    obtain ⟨x, y, h1, h2, h3⟩ := a.at_ j c e
    exact ⟨x, y, h1, h2, k _ _ (a.rng c (List.mem_of_getElem? e)).1 h3⟩
  ⟨a.acc_, a.inc, fun c hc => ⟨(a.rng c hc).1, by
    obtain ⟨j, hj, e⟩ := List.mem_iff_getElem.mp hc
    obtain ⟨x, y, _, _, h3⟩ := at' j c (by rw [← e]; exact List.getElem?_eq_getElem hj)
    exact Heap.lt_size h3⟩, at'⟩
theorem nge {B : Nat} {a b : Addr} (h : a < B) (h2 : B ≤ b) : b ≠ a := Nat.ne_of_gt (Nat.lt_of_lt_of_le h h2)
theorem zat_loop {S z TI TO i1 i2 l1 l2 : Addr} {B n : Nat} {xs ys : Array Value} {R : Result → Shared → Prop} {res : Value} (hh : A.handled = none) (D : ZipApart z TI TO i1 i2 l1 l2) (hn : n = min xs.size ys.size) (hn2 : n ≤ sizeLine)
    (hB : z < B ∧ TI < B ∧ TO < B ∧ i1 < B ∧ i2 < B ∧ S < B ∧ l1 < B ∧ l2 < B) (hS : S ≠ z ∧ S ≠ TI ∧ S ≠ TO ∧ S ≠ i1 ∧ S ≠ i2 ∧ S ≠ l1 ∧ S ≠ l2) :
    ∀ (k : Nat) (s : Shared) (acc : Array Value) (c : Nat) (as : List Addr), n - as.length = k → as.length ≤ n → B ≤ s.heap.objs.size → ZAt s.heap z TI TO i1 i2 l1 l2 as.length → s.heap.IsTuple l1 xs → s.heap.IsTuple l2 ys →
      s.heap.get? S = some { cls := .type "list", dict := none, data := .seq acc c, slots := #[] } → ZAc s.heap B xs ys acc as →
      (∀ h' acc' c' as', (∀ c o, c < B → c ≠ z → c ≠ TO → c ≠ i1 → c ≠ i2 → c ≠ S → s.heap.get? c = some o → h'.get? c = some o) → h'.get? S = some { cls := .type "list", dict := none, data := .seq acc' c', slots := #[] } → ZAc h' B xs ys acc' as' → as'.length = n → R (.ok (.ret res)) { s with heap := h' }) →
      codeAny (model prog w) A (.builtin "list.extend.loop" ⟨[.ref S, .ref z, res], []⟩) R s := by
  obtain ⟨b1, b2, b3, b4, b5, b6, b7, b8⟩ := hB
  obtain ⟨n1, n2, n3, n4, n5, n6, n7⟩ := hS
  have far : ∀ c, B ≤ c → c ≠ z ∧ c ≠ TO ∧ c ≠ i1 ∧ c ≠ i2 ∧ c ≠ S := fun c h => ⟨nge b1 h, nge b3 h, nge b4 h, nge b5 h, nge b6 h⟩
  intro k
  induction k with
  | zero =>
    intro s acc c as hk hi hB1 hst t1 t2 hS1 ha hR
    have hin : as.length = n := by omega
    refine codeAny_builtin F.entry_extend_loop ?_
    rw [Around.under_plainId F.plain_extend_loop _]
    show wpAny _ A.in1 (pyNext (.ref z) >>= _) _ _ s
    refine wpAny_bind (pyNext_zat_end hh D hst t1 t2 ?_ fun h' hk => ?_)
    · rcases Nat.le_total xs.size ys.size with q | q
      · exact .inl (Array.getElem?_eq_none (by omega))
      · exact .inr (Array.getElem?_eq_none (by omega))
    · refine wpAny_pure (hR h' acc c as (fun c o b c1 c2 c3 c4 _ e => hk c o c1 c2 c3 c4 e) (hk S _ n1 n3 n4 n5 hS1) (ha.keep fun c o hc e => ?_) hin)
      obtain ⟨f1, f2, f3, f4, _⟩ := far c hc
      exact hk c o f1 f2 f3 f4 e
  | succ k ih =>
    intro s acc c as hk hi hB1 hst t1 t2 hS1 ha hR
    have hlt : as.length < n := by omega
    obtain ⟨x, hx⟩ : ∃ x, xs[as.length]? = some x := ⟨xs[as.length]'(by omega), Array.getElem?_eq_getElem (by omega)⟩
    obtain ⟨y, hy⟩ : ∃ y, ys[as.length]? = some y := ⟨ys[as.length]'(by omega), Array.getElem?_eq_getElem (by omega)⟩
    refine codeAny_builtin F.entry_extend_loop ?_
    rw [Around.under_plainId F.plain_extend_loop _]
    show wpAny _ A.in1 (pyNext (.ref z) >>= _) _ _ s
    refine wpAny_bind (pyNext_zat_item D hst t1 t2 hx hy fun h' z' pr sz kp => ?_)
    have hS' := kp S _ n1 n3 n4 n5 hS1
    show wpAny _ A.in1 (updateSeq S (·.push (.ref s.heap.objs.size)) >>= _) _ _ _
    have oth : ∀ b o, b ≠ S → h'.get? b = some o → (h'.update S (Obj.mapSeq (·.push (Value.ref s.heap.objs.size)))).get? b = some o := fun b o hb e => (Heap.get?_update_other _ _ (Ne.symm hb)).trans e
    have all : ∀ b o, h'.get? b = some o → ∃ o', (h'.update S (Obj.mapSeq (·.push (Value.ref s.heap.objs.size)))).get? b = some o' := fun b o e => by
      by_cases q : b = S
      · subst q; exact ⟨_, Heap.get?_update_self _ hS' rfl⟩
      · exact ⟨o, oth b o q e⟩
    have hsz : (h'.update S (Obj.mapSeq (·.push (Value.ref s.heap.objs.size)))).objs.size = h'.objs.size := Heap.size_after_update ..
    have zA : ZAt (h'.update S (Obj.mapSeq (·.push (Value.ref s.heap.objs.size)))) z TI TO i1 i2 l1 l2 (as ++ [s.heap.objs.size]).length := by
      have := z'.keep (h' := h'.update S (Obj.mapSeq (·.push (Value.ref s.heap.objs.size)))) (fun c hc o e => oth c o (by rcases hc with q | q | q | q | q <;> (rw [q]; apply Ne.symm; assumption)) e) all
      simpa using this
    have t1' : (h'.update S (Obj.mapSeq (·.push (Value.ref s.heap.objs.size)))).IsTuple l1 xs := t1.at fun o e => oth _ o (Ne.symm n6) (kp _ o D.l1z D.l1TO D.l1i1 D.l1i2 e)
    have t2' : (h'.update S (Obj.mapSeq (·.push (Value.ref s.heap.objs.size)))).IsTuple l2 ys := t2.at fun o e => oth _ o (Ne.symm n7) (kp _ o D.l2z D.l2TO D.l2i1 D.l2i2 e)
    have aA : ZAc (h'.update S (Obj.mapSeq (·.push (Value.ref s.heap.objs.size)))) B xs ys (acc.push (.ref s.heap.objs.size)) (as ++ [s.heap.objs.size]) := by
      refine ⟨by rw [Array.toList_push, ha.acc_]; simp, List.pairwise_append.mpr ⟨ha.inc, by simp, fun a ha1 b hb => ?_⟩, fun a h => ?_, fun j a e => ?_⟩
      · rw [List.mem_singleton] at hb; rw [hb]; exact (ha.rng a ha1).2
      · rw [hsz, sz]
        rcases List.mem_append.mp h with h | h
        · have := ha.rng a h; exact ⟨this.1, Nat.lt_succ_of_lt this.2⟩
        · rw [List.mem_singleton] at h; rw [h]; exact ⟨hB1, Nat.lt_succ_self _⟩
      · by_cases hj : j < as.length
        · rw [List.getElem?_append_left hj] at e
          obtain ⟨x, y, q1, q2, q3⟩ := ha.at_ j a e
          obtain ⟨f1, f2, f3, f4, f5⟩ := far a (ha.rng a (List.mem_of_getElem? e)).1
          exact ⟨x, y, q1, q2, oth _ _ f5 (kp _ _ f1 f2 f3 f4 q3)⟩
        · rw [List.getElem?_append_right (by omega)] at e
          have hj2 : j = as.length := by
            have := (List.getElem?_eq_some_iff.mp e).1
            simp at this; omega
          subst hj2
          simp at e
          subst e
          exact ⟨x, y, hx, hy, oth _ _ (nge b6 hB1) pr⟩
    have asz := ha.sz
    refine wpAny_bind ?_
    refine wpAny_updateSeq hS' rfl (wpAny_pure ⟨plainId_quiet F.plain_extend_loop _, ih _ (acc.push (.ref s.heap.objs.size)) _ (as ++ [s.heap.objs.size]) (by simp; omega) (by simp; omega) (by rw [hsz, sz]; omega) zA t1' t2' (Heap.get?_update_self _ hS' rfl) aA fun h'' acc' c' as' kk hS'' ha' hl => ?_⟩) (by omega) (by show (acc.push _).size ≤ sizeLine + 1; rw [Array.size_push]; omega)
    exact hR h'' acc' c' as' (fun c o hc c1 c2 c3 c4 c5 e => kk c o hc c1 c2 c3 c4 c5 (oth c o c5 (kp c o c1 c2 c3 c4 e))) hS'' ha' hl
end
namespace F
theorem nolen_zp : typeLookup (.type "zip") "__len__" = pure none := by rw [typeLookup_type, builtinLookup_eq_fast]; kernel_rfl
theorem nohint_zp : typeLookup (.type "zip") "__length_hint__" = pure none := by rw [typeLookup_type, builtinLookup_eq_fast]; kernel_rfl
end F
section
variable {prog : Program} {w : World} {A : Around} {E : Value → Shared → Prop} {s : Shared}
theorem call_list_zip {z TI TO i1 i2 l1 l2 : Addr} {xs ys : Array Value} {Q : Value → Shared → Prop} (hh : A.handled = none) (D : ZipApart z TI TO i1 i2 l1 l2) (hz : IsZip s.heap z TI TO .none) (hTO : IsPair s.heap TO .none .none) (hTI : IsPair s.heap TI (.ref i1) (.ref i2))
    (h1 : s.heap.IsTupleIter i1 l1 0) (h2 : s.heap.IsTupleIter i2 l2 0) (t1 : s.heap.IsTuple l1 xs) (t2 : s.heap.IsTuple l2 ys) (hn2 : min xs.size ys.size ≤ sizeLine)
    (hQ : ∀ h' acc c as, (∀ c o, c ≠ z → c ≠ TO → c ≠ i1 → c ≠ i2 → s.heap.get? c = some o → h'.get? c = some o) → h'.get? s.heap.objs.size = some { cls := .type "list", dict := none, data := .seq acc c, slots := #[] } → ZAc h' (s.heap.objs.size + 1) xs ys acc as →
      as.length = min xs.size ys.size → Q (.ref s.heap.objs.size) { s with heap := h' }) :
    wpAny (model prog w) A (call (.type "list") [.ref z]) Q E s := by
  have zl : z < s.heap.objs.size := Heap.lt_size hz
  have TIl : TI < s.heap.objs.size := Heap.lt_size hTI
  have TOl : TO < s.heap.objs.size := Heap.lt_size hTO
  have i1l : i1 < s.heap.objs.size := by obtain ⟨_, e, _⟩ := h1; exact Heap.lt_size e
  have i2l : i2 < s.heap.objs.size := by obtain ⟨_, e, _⟩ := h2; exact Heap.lt_size e
  have l1l : l1 < s.heap.objs.size := by obtain ⟨_, e, _⟩ := id t1; exact Heap.lt_size e
  have l2l : l2 < s.heap.objs.size := by obtain ⟨_, e, _⟩ := id t2; exact Heap.lt_size e
  have hSz : s.heap.objs.size ≠ z := Nat.ne_of_gt zl
  refine callType_codes (Q₁ := fun obj s₁ => obj = .ref s.heap.objs.size ∧ s₁ = { s with heap := s.heap.push { cls := .type "list", data := .seq #[] } }) F.called_list (F.typeCall_list_1 _) F.entry_list_init
    (code_list_new _ ⟨rfl, rfl⟩) fun obj s₁ h₁ => ?_
  obtain ⟨rfl, rfl⟩ := h₁
  generalize hSd : s.heap.objs.size = S at *
  have hS : (s.heap.push { cls := .type "list", data := .seq #[] }).get? S = some { cls := .type "list", data := .seq #[] } := by rw [← hSd]; exact Heap.get?_push_size _ rfl
  refine ⟨⟨_, hS, rfl⟩, F.args_list_init_2 _ _, ?_⟩
  show wpAny _ A.in1.in1 (do let old ← Builtin.List.listItems (.ref S); Builtin.List.listUpdate (.ref S) (fun _ => #[]); letGo old.toList.reverse; Builtin.List.listExtendWith (.ref S) (.ref z) .none) _ _ _
  refine wpAny_bind ?_
  unfold Builtin.List.listItems
  refine wpAny_bind (wpAny_seqItems hS rfl (wpAny_pure ?_))
  show wpAny _ A.in1.in1 (updateSeq S (fun _ => #[]) >>= fun _ => letGo (#[] : Array Value).toList.reverse >>= fun _ => Builtin.List.listExtendWith (.ref S) (.ref z) .none) _ _ _
  refine wpAny_bind (wpAny_updateSeq hS rfl ?_)
  have hS₂ := Heap.get?_update_self (Obj.mapSeq (fun _ => (#[] : Array Value))) hS rfl
  refine wpAny_bind (wpAny_letGo ?_)
  have up : ∀ b o, b ≠ S → s.heap.get? b = some o → ((s.heap.push { cls := .type "list", data := .seq #[] }).update S (Obj.mapSeq (fun _ => (#[] : Array Value)))).get? b = some o :=
    fun b o hb e => (Heap.get?_update_other _ _ (Ne.symm hb)).trans (Heap.get?_push_of_some _ e)
  have zs : ((s.heap.push { cls := .type "list", data := .seq #[] }).update S (Obj.mapSeq (fun _ => (#[] : Array Value)))).objs.size = S + 1 := by rw [Heap.size_after_update, Heap.size_push, hSd]
  generalize ((s.heap.push { cls := .type "list", data := .seq #[] }).update S (Obj.mapSeq (fun _ => (#[] : Array Value)))) = g at *
  have gz := up z _ (Nat.ne_of_lt zl) hz
  have hT : ({ s with heap := g } : Shared).TypeIs (.ref z) "zip" := ⟨_, gz, rfl⟩
  unfold Builtin.List.listExtendWith
  refine wpAny_bind (wpAny_typeOf hT ?_)
  have e1 : Builtin.List.listSameRef (.ref S) (.ref z) = false := by simp [Builtin.List.listSameRef, hSz]
  have e2 : (Value.type "zip" == Value.type "list") = false := by decide
  have e3 : (Value.type "zip" == Value.type "tuple") = false := by decide
  simp only [e1, e2, e3, Bool.or_false, Bool.false_eq_true, if_false]
  refine wpAny_bind (wpAny_pyIter_zip gz ?_)
  refine wpAny_bind (wpAny_holding ?_)
  unfold Builtin.List.listLengthHint
  refine wpAny_bind (wpAny_specialOf hT F.nolen_zp ?_)
  show wpAny _ A.in1.in1 (specialOf (Value.ref z) (Str.ofString "__length_hint__") >>= _) _ _ _
  refine wpAny_bind (wpAny_specialOf hT F.nohint_zp ?_)
  refine wpAny_pure ?_
  show wpAny _ A.in1.in1 (rule "list.extend.makes-room" >>= fun _ => Builtin.List.listTouch (.ref S) >>= fun _ => again (.builtin "list.extend.loop" ⟨[.ref S, .ref z, .none], []⟩)) _ _ _
  refine wpAny_bind (wpAny_rule ?_)
  refine wpAny_bind ?_
  show wpAny _ A.in1.in1 (updateSeq S (·.push .none) >>= fun _ => updateSeq S (·.pop)) _ _ _
  refine wpAny_bind (wpAny_updateSeq hS₂ rfl ?_)
  have hS₃ := Heap.get?_update_self (Obj.mapSeq (·.push Value.none)) hS₂ rfl
  refine wpAny_updateSeq (hz := by seq_fits) hS₃ rfl ?_
  have hS₄ := Heap.get?_update_self (Obj.mapSeq (·.pop)) hS₃ rfl
  have up2 : ∀ b o, b ≠ S → s.heap.get? b = some o → ((g.update S (Obj.mapSeq (·.push Value.none))).update S (Obj.mapSeq (·.pop))).get? b = some o :=
    fun b o hb e => (Heap.get?_update_other _ _ (Ne.symm hb)).trans ((Heap.get?_update_other _ _ (Ne.symm hb)).trans (up b o hb e))
  have zs2 : ((g.update S (Obj.mapSeq (·.push Value.none))).update S (Obj.mapSeq (·.pop))).objs.size = S + 1 := by rw [Heap.size_after_update, Heap.size_after_update, zs]
  generalize ((g.update S (Obj.mapSeq (·.push Value.none))).update S (Obj.mapSeq (·.pop))) = g2 at *
  refine wpAny_pure ⟨plainId_quiet F.plain_extend_loop _, zat_loop (A := A.in1) (xs := xs) (ys := ys) (S := S) (B := S + 1) (show A.in1.handled = none from hh) D rfl hn2 ⟨Nat.lt_succ_of_lt zl, Nat.lt_succ_of_lt TIl, Nat.lt_succ_of_lt TOl, Nat.lt_succ_of_lt i1l, Nat.lt_succ_of_lt i2l, Nat.lt_succ_self _, Nat.lt_succ_of_lt l1l, Nat.lt_succ_of_lt l2l⟩
    ⟨nge zl (Nat.le_refl _), nge TIl (Nat.le_refl _), nge TOl (Nat.le_refl _), nge i1l (Nat.le_refl _), nge i2l (Nat.le_refl _), nge l1l (Nat.le_refl _), nge l2l (Nat.le_refl _)⟩ _ { s with heap := g2 } #[] _ [] rfl (Nat.zero_le _) (by show S + 1 ≤ g2.objs.size; omega) ⟨.inl ⟨up2 _ _ (Nat.ne_of_lt zl) hz, _, _, up2 _ _ (Nat.ne_of_lt TOl) hTO⟩, up2 _ _ (Nat.ne_of_lt TIl) hTI, h1.at fun o e => up2 _ o (Nat.ne_of_lt i1l) e, h2.at fun o e => up2 _ o (Nat.ne_of_lt i2l) e⟩
    (t1.at fun o e => up2 _ o (Nat.ne_of_lt l1l) e) (t2.at fun o e => up2 _ o (Nat.ne_of_lt l2l) e) hS₄ ⟨rfl, .nil, fun a h => (nomatch h), fun j a e => by simp at e⟩ fun h' acc' c' as' kk hS' ha hl => ?_⟩
  refine ⟨rfl, hQ h' acc' c' as' (fun c o c1 c2 c3 c4 e => ?_) hS' ha hl⟩
  have hlt : c < S := by have := Heap.lt_size e; rw [hSd] at this; exact this
  exact kk c o (Nat.lt_succ_of_lt hlt) c1 c2 c3 c4 (Nat.ne_of_lt hlt) (up2 c o (Nat.ne_of_lt hlt) e)
end
end RZ

/-! zip of a list and a tuple -/
namespace RZ
open PySem PySem.Spec PyProof.Rows L2
open PySem.Sem (wp)
/-- what is drawn from: at i, the items xs -/
structure Dr (prog : Program) (w : World) (it l : Addr) (xs : Array Value) (P : Heap → Nat → Prop) : Prop where
  item : ∀ (A : Around) (E Q : Value → Shared → Prop) (s : Shared) (i : Nat) (x : Value), P s.heap i → xs[i]? = some x → (∀ h', P h' (i + 1) → Heap.SameBut it s.heap h' → Q x { s with heap := h' }) → wpAny (model prog w) A (Builtin.SmallTypes.nextOf (.ref it)) Q E s
  done : ∀ (A : Around) (E Q : Value → Shared → Prop) (s : Shared) (i : Nat), A.handled = none → P s.heap i → xs[i]? = none → (∀ h' e, Heap.ExtBut it s.heap h' → (∃ o, h'.get? e = some o ∧ o.cls = .type "StopIteration") → E (.ref e) { s with heap := h' }) → wpAny (model prog w) A (Builtin.SmallTypes.nextOf (.ref it)) Q E s
  keep : ∀ (h h' : Heap) (i : Nat), P h i → (∀ c, c = it ∨ c = l → ∀ o, h.get? c = some o → h'.get? c = some o) → P h' i
  lt : ∀ (h : Heap) (i : Nat), P h i → it < h.objs.size ∧ ∃ o, h.get? it = some o ∧ ∀ v, o.data ≠ .cell v
def PT (it l : Addr) (xs : Array Value) (h : Heap) (i : Nat) : Prop := h.IsTupleIter it l i ∧ h.IsTuple l xs
def PL (it l : Addr) (xs : Array Value) (h : Heap) (i : Nat) : Prop := h.IsListIter it l i ∧ h.IsList l xs
section
variable {prog : Program} {w : World}
theorem dr_T {it l : Addr} {xs : Array Value} (n : l ≠ it) : Dr prog w it l xs (PT it l xs) where
  item := fun A E Q s i x p hx k => nextOf_tuple_item p.1 p.2 hx fun h' a b => k h' ⟨a, p.2.extBut b.extBut n⟩ b
  done := fun A E Q s i hh p hx k => nextOf_tuple_end hh p.1 p.2 hx k
  keep := fun h h' i p k => ⟨p.1.at fun o e => k _ (.inl rfl) o e, p.2.at fun o e => k _ (.inr rfl) o e⟩
  lt := fun h i p => by obtain ⟨o, e, _, d⟩ := p.1; exact ⟨Heap.lt_size e, o, e, fun v q => by rw [d] at q; cases q⟩
theorem dr_L {it l : Addr} {xs : Array Value} (n : l ≠ it) : Dr prog w it l xs (PL it l xs) where
  item := fun A E Q s i x p hx k => wpAny_nextOf_list_item p.1 p.2 hx fun h' a b => k h' ⟨a, p.2.extBut b.extBut n⟩ b
  done := fun A E Q s i hh p hx k => wpAny_nextOf_list_end hh p.1 p.2 hx k
  keep := fun h h' i p k => ⟨p.1.at fun o e => k _ (.inl rfl) o e, p.2.at fun o e => k _ (.inr rfl) o e⟩
  lt := fun h i p => by obtain ⟨o, e, _, d⟩ := p.1; exact ⟨Heap.lt_size e, o, e, fun v q => by rw [d] at q; cases q⟩
end
section
variable {prog : Program} {w : World} {A : Around} {E : Value → Shared → Prop} {s : Shared} {z TI TO i1 i2 l1 l2 : Addr} {k1 k2 : Nat} {xs ys : Array Value} {P1 P2 : Heap → Nat → Prop}
theorem Dr.sb {it l c : Addr} {xs : Array Value} {P : Heap → Nat → Prop} {h h' : Heap} {i : Nat} (d : Dr prog w it l xs P) (p : P h i) (b : Heap.SameBut c h h') (n1 : it ≠ c) (n2 : l ≠ c) : P h' i :=
  d.keep h h' i p fun a ha o e => b.extBut a o (by rcases ha with q | q <;> rw [q] <;> assumption) e
theorem zipM_item {x y a b : Value} {Q : Value → Shared → Prop} (d1 : Dr prog w i1 l1 xs P1) (d2 : Dr prog w i2 l2 ys P2) (D : ZipApart z TI TO i1 i2 l1 l2)
    (hz : IsZip s.heap z TI TO .none) (hTI : IsPair s.heap TI (.ref i1) (.ref i2)) (hTO : IsPair s.heap TO a b) (p1 : P1 s.heap k1) (p2 : P2 s.heap k2) (hx : xs[k1]? = some x) (hy : ys[k2]? = some y)
    (hQ : ∀ h', IsZip h' z TI TO (rawInt s.heap.objs.size) → IsPair h' TO x y → P1 h' (k1 + 1) → P2 h' (k2 + 1) → IsPair h' s.heap.objs.size x y →
      (∀ c o, c ≠ z → c ≠ TO → c ≠ i1 → c ≠ i2 → s.heap.get? c = some o → h'.get? c = some o) → Q (.ref s.heap.objs.size) { s with heap := h' }) :
    wpAny (model prog w) A (Builtin.«zip.__next__» ⟨[.ref z], []⟩) (fun fin s' => ∃ v, fin = .done (.ret v) ∧ Q v s') E s := by
  show wpAny _ _ (field (.ref z) 2 >>= _) _ _ _
  refine wpAny_bind (wpAny_field hz rfl (x := .bool false) rfl ?_)
  show wpAny _ _ (field (.ref z) 3 >>= _) _ _ _
  refine wpAny_bind (wpAny_field hz rfl (x := .ref TI) rfl (wpAny_bind (wpAny_seqItems hTI rfl ?_)))
  show wpAny _ _ (Builtin.SmallTypes.ownedTupleIsFree (.ref z) >>= _) _ _ _
  refine wpAny_bind ?_
  unfold Builtin.SmallTypes.ownedTupleIsFree
  refine wpAny_bind (wpAny_field hz rfl (x := .none) rfl (wpAny_pure ?_))
  simp only [if_true]
  refine wpAny_bind (wpAny_rule (wpAny_bind (wpAny_field hz rfl (x := .ref TO) rfl (wpAny_bind (wpAny_setField_rec hz (by simp) fun g1 z1 s1 => ?_)))))
  have z1 : IsZip g1 z TI TO .ellipsis := z1
  refine wpAny_bind ?_
  simp only [List.zipIdx_cons, List.zipIdx_nil, List.forIn_cons, List.forIn_nil]
  refine wpAny_bind (wpAny_bind (wpAny_onRaise ?_))
  show wpAny _ _ (Builtin.SmallTypes.nextOf (.ref i1) >>= _) _ _ _
  refine wpAny_bind (d1.item _ _ _ _ _ _ (d1.sb p1 s1 D.i1z D.l1z) hx fun g2 q2 s2 => wpAny_pure ?_)
  have t2 : IsPair g2 TO a b := s2.extBut _ _ D.TOi1 (s1.extBut _ _ D.TOz hTO)
  refine wpAny_bind (wpAny_seqItems t2 rfl (wpAny_bind (wpAny_updateSeq_pair t2 fun g3 t3 s3 => ?_)))
  have t3 : IsPair g3 TO x b := t3
  refine wpAny_bind (wpAny_letGo (wpAny_pure (wpAny_bind (wpAny_bind (wpAny_onRaise ?_)))))
  show wpAny _ _ (Builtin.SmallTypes.nextOf (.ref i2) >>= _) _ _ _
  refine wpAny_bind (d2.item _ _ _ _ _ _ (d2.sb (d2.sb (d2.sb p2 s1 D.i2z D.l2z) s2 D.i12.symm D.l2i1) s3 D.TOi2.symm D.l2TO) hy fun g4 q4 s4 => wpAny_pure ?_)
  have t4 : IsPair g4 TO x b := s4.extBut _ _ D.TOi2 t3
  refine wpAny_bind (wpAny_seqItems t4 rfl (wpAny_bind (wpAny_updateSeq_pair t4 fun g5 t5 s5 => ?_)))
  have t5 : IsPair g5 TO x y := t5
  refine wpAny_bind (wpAny_letGo (wpAny_pure (wpAny_pure ?_)))
  refine wpAny_bind (wpAny_seqItems t5 rfl (wpAny_bind (wpAny_newTuple ?_)))
  have sz : g5.objs.size = s.heap.objs.size := by rw [s5.1, s4.1, s3.1, s2.1, s1.1]
  have z5 : IsZip g5 z TI TO .ellipsis := s5.extBut _ _ D.TOz.symm (s4.extBut _ _ D.i2z.symm (s3.extBut _ _ D.TOz.symm (s2.extBut _ _ D.i1z.symm z1)))
  have k5 : ∀ c o, c ≠ z → c ≠ TO → c ≠ i1 → c ≠ i2 → s.heap.get? c = some o → g5.get? c = some o := fun c o c1 c2 c3 c4 e =>
    s5.extBut _ _ c2 (s4.extBut _ _ c4 (s3.extBut _ _ c2 (s2.extBut _ _ c3 (s1.extBut _ _ c1 e))))
  have r1 : P1 g5 (k1 + 1) := d1.sb (d1.sb (d1.sb q2 s3 D.TOi1.symm D.l1TO) s4 D.i12 D.l1i2) s5 D.TOi1.symm D.l1TO
  have r2 : P2 g5 (k2 + 1) := d2.sb q4 s5 D.TOi2.symm D.l2TO
  have zl : z < g5.objs.size := Heap.lt_size z5
  show wpAny _ _ (Builtin.SmallTypes.ownedTupleHandOut (.ref z) (.ref g5.objs.size) >>= _) _ _ _
  refine wpAny_bind ?_
  unfold Builtin.SmallTypes.ownedTupleHandOut
  have z6 : IsZip (g5.push { cls := .type "tuple", data := .seq #[x, y] }) z TI TO .ellipsis := Heap.get?_push_of_some _ z5
  refine wpAny_bind (wpAny_setField_rec z6 (by simp) fun g7 z7 s7 => ?_)
  have z7 : IsZip g7 z TI TO (rawInt g5.objs.size) := z7
  refine wpAny_setField_rec z7 (by simp) fun g8 z8 s8 => ?_
  have z8 : IsZip g8 z TI TO (rawInt g5.objs.size) := z8
  have up : ∀ c o, c ≠ z → g5.get? c = some o → g8.get? c = some o := fun c o c1 e => s8.extBut _ _ c1 (s7.extBut _ _ c1 (Heap.get?_push_of_some _ e))
  have T8 : IsPair g8 g5.objs.size x y := s8.extBut _ _ (Nat.ne_of_gt zl) (s7.extBut _ _ (Nat.ne_of_gt zl) (Heap.get?_push_size _ rfl))
  rw [sz] at z8 T8
  refine wpAny_pure ⟨_, rfl, ?_⟩
  show Q (.ref g5.objs.size) _
  rw [sz]
  exact hQ g8 z8 (up _ _ D.TOz t5) (d1.keep _ _ _ r1 fun c hc o e => up c o (by rcases hc with q | q <;> rw [q]; exact D.i1z; exact D.l1z) e) (d2.keep _ _ _ r2 fun c hc o e => up c o (by rcases hc with q | q <;> rw [q]; exact D.i2z; exact D.l2z) e) T8
    fun c o c1 c2 c3 c4 e => up c o c1 (k5 c o c1 c2 c3 c4 e)
theorem zipM_end {a b : Value} {Q : Fin → Shared → Prop} (d1 : Dr prog w i1 l1 xs P1) (d2 : Dr prog w i2 l2 ys P2) (hh : A.handled = none) (D : ZipApart z TI TO i1 i2 l1 l2)
    (hz : IsZip s.heap z TI TO .none) (hTI : IsPair s.heap TI (.ref i1) (.ref i2)) (hTO : IsPair s.heap TO a b) (p1 : P1 s.heap k1) (p2 : P2 s.heap k2) (hend : xs[k1]? = none ∨ ys[k2]? = none)
    (hE : ∀ h' e, (∀ c o, c ≠ z → c ≠ TO → c ≠ i1 → c ≠ i2 → s.heap.get? c = some o → h'.get? c = some o) → (∃ o, h'.get? e = some o ∧ o.cls = .type "StopIteration") → E (.ref e) { s with heap := h' }) :
    wpAny (model prog w) A (Builtin.«zip.__next__» ⟨[.ref z], []⟩) Q E s := by
  show wpAny _ _ (field (.ref z) 2 >>= _) _ _ _
  refine wpAny_bind (wpAny_field hz rfl (x := .bool false) rfl ?_)
  show wpAny _ _ (field (.ref z) 3 >>= _) _ _ _
  refine wpAny_bind (wpAny_field hz rfl (x := .ref TI) rfl (wpAny_bind (wpAny_seqItems hTI rfl ?_)))
  show wpAny _ _ (Builtin.SmallTypes.ownedTupleIsFree (.ref z) >>= _) _ _ _
  refine wpAny_bind ?_
  unfold Builtin.SmallTypes.ownedTupleIsFree
  refine wpAny_bind (wpAny_field hz rfl (x := .none) rfl (wpAny_pure ?_))
  simp only [if_true]
  refine wpAny_bind (wpAny_rule (wpAny_bind (wpAny_field hz rfl (x := .ref TO) rfl (wpAny_bind (wpAny_setField_rec hz (by simp) fun g1 z1 s1 => ?_)))))
  have z1 : IsZip g1 z TI TO .ellipsis := z1
  refine wpAny_bind ?_
  simp only [List.zipIdx_cons, List.zipIdx_nil, List.forIn_cons, List.forIn_nil]
  refine wpAny_bind (wpAny_bind (wpAny_onRaise ?_))
  show wpAny _ _ (Builtin.SmallTypes.nextOf (.ref i1) >>= _) _ _ _
  have fin : ∀ (g : Heap) (e : Addr), IsZip g z TI TO .ellipsis → (∃ o, g.get? e = some o ∧ o.cls = .type "StopIteration") → (∀ c o, c ≠ z → c ≠ TO → c ≠ i1 → c ≠ i2 → s.heap.get? c = some o → g.get? c = some o) →
      wpAny (model prog w) A (setField (.ref z) 0 .none) (fun _ s' => E (.ref e) s') E { s with heap := g } := fun g e hg he hk => by
    obtain ⟨oe, hoe, hce⟩ := he
    have ne : e ≠ z := fun q => by subst q; rw [hg] at hoe; cases hoe; simp at hce
    exact wpAny_setField_rec hg (by simp) fun g' _ sb => hE g' e (fun c o c1 c2 c3 c4 x => sb.extBut _ _ c1 (hk c o c1 c2 c3 c4 x)) ⟨oe, sb.extBut _ _ ne hoe, hce⟩
  cases hx : xs[k1]? with
  | none => exact wpAny_bind (d1.done _ _ _ _ _ hh (d1.sb p1 s1 D.i1z D.l1z) hx fun g2 e s2 he => fin g2 e (s2 _ _ D.i1z.symm z1) he fun c o c1 _ c3 _ x => s2 _ _ c3 (s1.extBut _ _ c1 x))
  | some x =>
    have hy : ys[k2]? = none := by rcases hend with h | h; rw [hx] at h; cases h; exact h
    refine wpAny_bind (d1.item _ _ _ _ _ _ (d1.sb p1 s1 D.i1z D.l1z) hx fun g2 q2 s2 => wpAny_pure ?_)
    have t2 : IsPair g2 TO a b := s2.extBut _ _ D.TOi1 (s1.extBut _ _ D.TOz hTO)
    refine wpAny_bind (wpAny_seqItems t2 rfl (wpAny_bind (wpAny_updateSeq_pair t2 fun g3 t3 s3 => ?_)))
    refine wpAny_bind (wpAny_letGo (wpAny_pure (wpAny_bind (wpAny_bind (wpAny_onRaise ?_)))))
    show wpAny _ _ (Builtin.SmallTypes.nextOf (.ref i2) >>= _) _ _ _
    exact wpAny_bind (d2.done _ _ _ _ _ hh (d2.sb (d2.sb (d2.sb p2 s1 D.i2z D.l2z) s2 D.i12.symm D.l2i1) s3 D.TOi2.symm D.l2TO) hy fun g4 e s4 he =>
      fin g4 e (s4 _ _ D.i2z.symm (s3.extBut _ _ D.TOz.symm (s2.extBut _ _ D.i1z.symm z1))) he fun c o c1 c2 c3 c4 x => s4 _ _ c4 (s3.extBut _ _ c2 (s2.extBut _ _ c3 (s1.extBut _ _ c1 x))))
theorem pyNext_zipM_item {x y a b : Value} {Q : Option Value → Shared → Prop} (d1 : Dr prog w i1 l1 xs P1) (d2 : Dr prog w i2 l2 ys P2) (D : ZipApart z TI TO i1 i2 l1 l2)
    (hz : IsZip s.heap z TI TO .none) (hTI : IsPair s.heap TI (.ref i1) (.ref i2)) (hTO : IsPair s.heap TO a b) (p1 : P1 s.heap k1) (p2 : P2 s.heap k2) (hx : xs[k1]? = some x) (hy : ys[k2]? = some y)
    (hQ : ∀ h', IsZip h' z TI TO (rawInt s.heap.objs.size) → IsPair h' TO x y → P1 h' (k1 + 1) → P2 h' (k2 + 1) → IsPair h' s.heap.objs.size x y →
      (∀ c o, c ≠ z → c ≠ TO → c ≠ i1 → c ≠ i2 → s.heap.get? c = some o → h'.get? c = some o) → Q (some (.ref s.heap.objs.size)) { s with heap := h' }) :
    wpAny (model prog w) A (pyNext (.ref z)) Q E s := by
  have hT : s.TypeIs (.ref z) "zip" := ⟨_, hz, rfl⟩
  unfold pyNext
  exact wpAny_bind (wpAny_attempt (wpAny_callSpecial?_slot (name := Str.ofString "__next__") hT F.slot_zip_next (wpAny_call_entry F.slot_zip_next hT F.entry_zip_next (zipM_item d1 d2 D hz hTI hTO p1 p2 hx hy fun h' a1 a2 a3 a4 a5 a6 => wpAny_pure (hQ h' a1 a2 a3 a4 a5 a6)) (F.args_zip_next_1 _))))
theorem pyNext_zipM_end {a b : Value} {Q : Option Value → Shared → Prop} (d1 : Dr prog w i1 l1 xs P1) (d2 : Dr prog w i2 l2 ys P2) (hh : A.handled = none) (D : ZipApart z TI TO i1 i2 l1 l2)
    (hz : IsZip s.heap z TI TO .none) (hTI : IsPair s.heap TI (.ref i1) (.ref i2)) (hTO : IsPair s.heap TO a b) (p1 : P1 s.heap k1) (p2 : P2 s.heap k2) (hend : xs[k1]? = none ∨ ys[k2]? = none)
    (hQ : ∀ h', (∀ c o, c ≠ z → c ≠ TO → c ≠ i1 → c ≠ i2 → s.heap.get? c = some o → h'.get? c = some o) → Q none { s with heap := h' }) : wpAny (model prog w) A (pyNext (.ref z)) Q E s := by
  have hT : s.TypeIs (.ref z) "zip" := ⟨_, hz, rfl⟩
  unfold pyNext
  refine wpAny_bind (wpAny_attempt (wpAny_callSpecial?_slot (name := Str.ofString "__next__") hT F.slot_zip_next (wpAny_call_entry F.slot_zip_next hT F.entry_zip_next (zipM_end d1 d2 hh D hz hTI hTO p1 p2 hend fun h' e hk he => ?_) (F.args_zip_next_1 _))))
  obtain ⟨o, ho, hc⟩ := he
  exact wpAny_bind (wpAny_isInstance (T := "StopIteration") (b := true) ⟨o, ho, hc⟩ isSubtype_stop (wpAny_pure (hQ _ hk)))
end
abbrev iob (T : String) (l : Addr) : Obj := { cls := .type T, data := .fields #[.ref l, .int 0 0] }
abbrev mH2 (T U : String) (h : Heap) (l1 l2 : Addr) : Heap := (h.push (iob T l1)).push (iob U l2)
abbrev mH3 (T U : String) (h : Heap) (l1 l2 : Addr) : Heap := (mH2 T U h l1 l2).push { cls := .type "tuple", data := .seq #[.ref h.objs.size, .ref (h.push (iob T l1)).objs.size] }
abbrev mH4 (T U : String) (h : Heap) (l1 l2 : Addr) : Heap := (mH3 T U h l1 l2).push { cls := .type "tuple", data := .seq #[.none, .none] }
abbrev mH5 (T U : String) (h : Heap) (l1 l2 : Addr) : Heap := (mH4 T U h l1 l2).push { cls := .type "zip", data := .fields #[.none, .bool false, .bool false, .ref (mH2 T U h l1 l2).objs.size, .ref (mH3 T U h l1 l2).objs.size] }
theorem new_LT (l1 l2 : Addr) (xs ys : Array Value) :
    Meets (Builtin.«zip.__new__» ⟨[.type "zip", .ref l1, .ref l2], []⟩) (fun _ R s => s.heap.IsList l1 xs ∧ s.heap.IsTuple l2 ys ∧ R (.ok (.ret (.ref (mH4 "list_iterator" "tuple_iterator" s.heap l1 l2).objs.size))) { s with heap := mH5 "list_iterator" "tuple_iterator" s.heap l1 l2 }) :=
  .of_wp fun prog w A R s h => by
    obtain ⟨hp, g, d, tk, os⟩ := s; obtain ⟨a1, a2, h⟩ := h
    have sub := sub_zip
    have b1 : Heap.IsList (Shared.heap ⟨hp, g, d, tk, os⟩) l1 xs := a1
    have b2 : Heap.IsTuple (Shared.heap ⟨hp.push (iob "list_iterator" l1), g, d, tk, os⟩) l2 ys := Heap.IsTuple.push a2 _
    wp_walk using wpAny_pyIter_list b1, wpAny_pyIter_tuple b2
    exact ⟨_, rfl, h⟩
theorem new_TL (l1 l2 : Addr) (xs ys : Array Value) :
    Meets (Builtin.«zip.__new__» ⟨[.type "zip", .ref l1, .ref l2], []⟩) (fun _ R s => s.heap.IsTuple l1 xs ∧ s.heap.IsList l2 ys ∧ R (.ok (.ret (.ref (mH4 "tuple_iterator" "list_iterator" s.heap l1 l2).objs.size))) { s with heap := mH5 "tuple_iterator" "list_iterator" s.heap l1 l2 }) :=
  .of_wp fun prog w A R s h => by
    obtain ⟨hp, g, d, tk, os⟩ := s; obtain ⟨a1, a2, h⟩ := h
    have sub := sub_zip
    have b1 : Heap.IsTuple (Shared.heap ⟨hp, g, d, tk, os⟩) l1 xs := a1
    have b2 : Heap.IsList (Shared.heap ⟨hp.push (iob "tuple_iterator" l1), g, d, tk, os⟩) l2 ys := Heap.IsList.push a2 _
    wp_walk using wpAny_pyIter_tuple b1, wpAny_pyIter_list b2
    exact ⟨_, rfl, h⟩
theorem m_sizes (T U : String) (h : Heap) (l1 l2 : Addr) : IsZip (mH5 T U h l1 l2) (h.objs.size + 4) (h.objs.size + 2) (h.objs.size + 3) .none ∧ IsPair (mH5 T U h l1 l2) (h.objs.size + 2) (.ref h.objs.size) (.ref (h.objs.size + 1)) ∧ IsPair (mH5 T U h l1 l2) (h.objs.size + 3) .none .none ∧
    (mH5 T U h l1 l2).get? h.objs.size = some (iob T l1) ∧ (mH5 T U h l1 l2).get? (h.objs.size + 1) = some (iob U l2) ∧ (∀ c o, h.get? c = some o → (mH5 T U h l1 l2).get? c = some o) ∧ (mH4 T U h l1 l2).objs.size = h.objs.size + 4 := by
  have z1 : (h.push (iob T l1)).objs.size = h.objs.size + 1 := Heap.size_push ..
  have z2 : (mH2 T U h l1 l2).objs.size = h.objs.size + 2 := by rw [Heap.size_push, z1]
  have z3 : (mH3 T U h l1 l2).objs.size = h.objs.size + 3 := by rw [Heap.size_push, z2]
  have z4 : (mH4 T U h l1 l2).objs.size = h.objs.size + 4 := by rw [Heap.size_push, z3]
  have g5 : (mH5 T U h l1 l2).get? (mH4 T U h l1 l2).objs.size = some _ := Heap.get?_push_size _ rfl
  have g4 : (mH5 T U h l1 l2).get? (mH3 T U h l1 l2).objs.size = some _ := Heap.get?_push_of_some _ (Heap.get?_push_size _ rfl)
  have g3 : (mH5 T U h l1 l2).get? (mH2 T U h l1 l2).objs.size = some _ := Heap.get?_push_of_some _ (Heap.get?_push_of_some _ (Heap.get?_push_size _ rfl))
  have g2 : (mH5 T U h l1 l2).get? (h.push (iob T l1)).objs.size = some _ := Heap.get?_push_of_some _ (Heap.get?_push_of_some _ (Heap.get?_push_of_some _ (Heap.get?_push_size _ rfl)))
  have g1 : (mH5 T U h l1 l2).get? h.objs.size = some _ := Heap.get?_push_of_some _ (Heap.get?_push_of_some _ (Heap.get?_push_of_some _ (Heap.get?_push_of_some _ (Heap.get?_push_size _ rfl))))
  rw [z2, z3, z4] at g5
  rw [z1, z2] at g3
  rw [z3] at g4
  rw [z1] at g2
  exact ⟨g5, g3, g4, g1, g2, fun c o x => Heap.get?_push_of_some _ (Heap.get?_push_of_some _ (Heap.get?_push_of_some _ (Heap.get?_push_of_some _ (Heap.get?_push_of_some _ x)))), z4⟩
section
variable {prog : Program} {w : World} {A : Around} {E : Value → Shared → Prop} {s : Shared}
theorem call_LT {l1 l2 : Addr} {xs ys : Array Value} {Q : Value → Shared → Prop} (a1 : s.heap.IsList l1 xs) (a2 : s.heap.IsTuple l2 ys)
    (h : ∀ h', IsZip h' (s.heap.objs.size + 4) (s.heap.objs.size + 2) (s.heap.objs.size + 3) .none → IsPair h' (s.heap.objs.size + 2) (.ref s.heap.objs.size) (.ref (s.heap.objs.size + 1)) → IsPair h' (s.heap.objs.size + 3) .none .none →
      h'.IsListIter s.heap.objs.size l1 0 → h'.IsTupleIter (s.heap.objs.size + 1) l2 0 → (∀ c o, s.heap.get? c = some o → h'.get? c = some o) → Q (.ref (s.heap.objs.size + 4)) { s with heap := h' }) :
    wpAny (model prog w) A (call (.type "zip") [.ref l1, .ref l2]) Q E s := by
  refine callType_new F.called_zip (by decide) (F.typeCall_zip_2 _ _) (F.newCall_zip_2 _ _) (fun obj => F.args_object_init_3 obj _ _) F.entry_zip_new (new_LT l1 l2 xs ys) ⟨a1, a2, ?_⟩
  obtain ⟨q1, q2, q3, q4, q5, q6, q7⟩ := m_sizes "list_iterator" "tuple_iterator" s.heap l1 l2
  show _ ∧ _
  rw [q7]
  exact ⟨⟨_, q1, rfl⟩, h _ q1 q2 q3 ⟨_, q4, rfl, rfl⟩ ⟨_, q5, rfl, rfl⟩ q6⟩
theorem call_TL {l1 l2 : Addr} {xs ys : Array Value} {Q : Value → Shared → Prop} (a1 : s.heap.IsTuple l1 xs) (a2 : s.heap.IsList l2 ys)
    (h : ∀ h', IsZip h' (s.heap.objs.size + 4) (s.heap.objs.size + 2) (s.heap.objs.size + 3) .none → IsPair h' (s.heap.objs.size + 2) (.ref s.heap.objs.size) (.ref (s.heap.objs.size + 1)) → IsPair h' (s.heap.objs.size + 3) .none .none →
      h'.IsTupleIter s.heap.objs.size l1 0 → h'.IsListIter (s.heap.objs.size + 1) l2 0 → (∀ c o, s.heap.get? c = some o → h'.get? c = some o) → Q (.ref (s.heap.objs.size + 4)) { s with heap := h' }) :
    wpAny (model prog w) A (call (.type "zip") [.ref l1, .ref l2]) Q E s := by
  refine callType_new F.called_zip (by decide) (F.typeCall_zip_2 _ _) (F.newCall_zip_2 _ _) (fun obj => F.args_object_init_3 obj _ _) F.entry_zip_new (new_TL l1 l2 xs ys) ⟨a1, a2, ?_⟩
  obtain ⟨q1, q2, q3, q4, q5, q6, q7⟩ := m_sizes "tuple_iterator" "list_iterator" s.heap l1 l2
  show _ ∧ _
  rw [q7]
  exact ⟨⟨_, q1, rfl⟩, h _ q1 q2 q3 ⟨_, q4, rfl, rfl⟩ ⟨_, q5, rfl, rfl⟩ q6⟩
end
/-! the loop's side -/
/-- a sequence: a list (true) or a tuple -/
def SqV (K : PySem.W.Frag) (H : Hp) (b : Bool) (a : Addr) (xs : List V) : Prop := match b with | true => SqL K H a xs | false => SqT K H a xs
def PV (b : Bool) (it l : Addr) (xs : Array Value) : Heap → Nat → Prop := match b with | true => PL it l xs | false => PT it l xs
def ItV (b : Bool) (it l : Addr) (h : Heap) (i : Nat) : Prop := match b with | true => h.IsListIter it l i | false => h.IsTupleIter it l i
theorem dr_V {prog : Program} {w : World} {b : Bool} {it l : Addr} {xs : Array Value} (n : l ≠ it) : Dr prog w it l xs (PV b it l xs) := by
  cases b
  · exact dr_T n
  · exact dr_L n
def IsV (b : Bool) (h : Heap) (l : Addr) (xs : Array Value) : Prop := match b with | true => h.IsList l xs | false => h.IsTuple l xs
theorem pv_of {b : Bool} {it l : Addr} {xs : Array Value} {h : Heap} {i : Nat} (a : ItV b it l h i) (c : IsV b h l xs) : PV b it l xs h i := by cases b <;> exact ⟨a, c⟩
theorem pv_it {b : Bool} {it l : Addr} {xs : Array Value} {h : Heap} {i : Nat} (p : PV b it l xs h i) : ItV b it l h i := by cases b <;> exact p.1
theorem ItV.at {b : Bool} {it l : Addr} {h h' : Heap} {i : Nat} (a : ItV b it l h i) (k : ∀ o, h.get? it = some o → h'.get? it = some o) : ItV b it l h' i := by
  cases b
  · exact Heap.IsTupleIter.at (show h.IsTupleIter it l i from a) k
  · exact Heap.IsListIter.at (show h.IsListIter it l i from a) k
theorem ItV.ob {b : Bool} {it l : Addr} {h : Heap} {i : Nat} (a : ItV b it l h i) : ∃ o, h.get? it = some o ∧ ∀ v, o.data ≠ .cell v := by
  cases b
  · obtain ⟨o, e, _, d⟩ := (show h.IsTupleIter it l i from a); exact ⟨o, e, fun v q => by rw [d] at q; cases q⟩
  · obtain ⟨o, e, _, d⟩ := (show h.IsListIter it l i from a); exact ⟨o, e, fun v q => by rw [d] at q; cases q⟩
theorem sqV_at {X : Cx} {pins : List (Addr × Obj)} {σ : L2.St} {H : Hp} {s : Shared} (I : Inv X pins σ H s) {b : Bool} {a : Addr} {xs : List V} (h : SqV X.K H b a xs) : ∃ its : List Value, Vals xs its ∧ IsV b s.heap a its.toArray := by
  cases b
  · obtain ⟨its, rv, p, _⟩ := I.tuple (show SqT X.K H a xs from h); exact ⟨its, rv, p⟩
  · obtain ⟨its, rv, p, _⟩ := I.list (show SqL X.K H a xs from h); exact ⟨its, rv, p.isList⟩
theorem sqV_inj {X : Cx} {pins : List (Addr × Obj)} {σ : L2.St} {H : Hp} {s : Shared} (I : Inv X pins σ H s) {b : Bool} {a : Addr} {xs ys : List V} (h : SqV X.K H b a xs) (h' : SqV X.K H b a ys) : xs = ys := by
  cases b
  · exact I.tuple_inj (show SqT X.K H a xs from h) h'
  · exact I.list_inj (show SqL X.K H a xs from h) h'
/-- the sequences at a and b as they stand at each turn, the items in new pairs -/
def ItzM (K : PySem.W.Frag) (b c : Bool) (a a' : Addr) : It :=
  ⟨fun i H => ∃ (xs ys : List V) (x y : V), SqV K H b a xs ∧ SqV K H c a' ys ∧ xs[i]? = some x ∧ ys[i]? = some y,
    fun i H v H' => ∃ T x y, v = .ref T ∧ H T = none ∧ H' = upd H T (.tup [x, y]) ∧ (∀ xs, SqV K H b a xs → xs[i]? = some x) ∧ ∀ ys, SqV K H c a' ys → ys[i]? = some y,
    fun i H => ∃ xs ys : List V, SqV K H b a xs ∧ SqV K H c a' ys ∧ (xs.length ≤ i ∨ ys.length ≤ i)⟩
theorem five {c z TI TO i1 i2 : Addr} : c ∈ [z, TI, TO, i1, i2] ↔ c = z ∨ c = TI ∨ c = TO ∨ c = i1 ∨ c = i2 := by simp
theorem turn_zipM {P : Program} {w : World} {K : PySem.W.Frag} {elts : List Expr} {kk : Nat} {tpos : Pos} {b c : Bool} {l1 l2 z TI TO i1 i2 : Addr} (D : ZipApart z TI TO i1 i2 l1 l2) :
    Turn P w K (.Tuple elts kk tpos) (ItzM K b c l1 l2) [z, TI, TO, i1, i2] z (fun i h => IsZip h z TI TO .none ∧ IsPair h TI (.ref i1) (.ref i2) ∧ (∃ x y, IsPair h TO x y) ∧ ItV b i1 l1 h i ∧ ItV c i2 l2 h i) where
  mem := by simp
  obj := fun i h st d hd => by
    obtain ⟨hz, hTI, ⟨x, y, hTO⟩, t1, t2⟩ := st
    rcases five.mp hd with q | q | q | q | q
    · rw [q]; exact ⟨_, hz, fun v q => nomatch q⟩
    · rw [q]; exact ⟨_, hTI, fun v q => nomatch q⟩
    · rw [q]; exact ⟨_, hTO, fun v q => nomatch q⟩
    · rw [q]; exact t1.ob
    · rw [q]; exact t2.ob
  keep := fun i h h' st k => by
    obtain ⟨hz, hTI, ⟨x, y, hTO⟩, t1, t2⟩ := st
    exact ⟨k z (by simp) _ hz, k TI (by simp) _ hTI, ⟨x, y, k TO (by simp) _ hTO⟩, t1.at fun o q => k i1 (by simp) o q, t2.at fun o q => k i2 (by simp) o q⟩
  item := by
    intro X hP hw hK hc i pins s σ H E I hf st hg
    subst hP hw hK
    obtain ⟨hz, hTI, ⟨x0, y0, hTO⟩, t1, t2⟩ := st
    obtain ⟨xs, ys, x, y, hqx, hqy, hx, hy⟩ := hg
    obtain ⟨its, rv, p⟩ := sqV_at I hqx
    obtain ⟨its2, rv2, p2⟩ := sqV_at I hqy
    obtain ⟨u, hu, ru⟩ := rv.get hx
    obtain ⟨u2, hu2, ru2⟩ := rv2.get hy
    have zl : z < s.heap.objs.size := Heap.lt_size hz
    have small : ∀ d, d ∈ [z, TI, TO, i1, i2] → d < s.heap.objs.size := fun d hd => by
      rcases five.mp hd with q | q | q | q | q
      · rw [q]; exact zl
      · rw [q]; exact Heap.lt_size hTI
      · rw [q]; exact Heap.lt_size hTO
      · rw [q]; obtain ⟨_, e, _⟩ := t1.ob; exact Heap.lt_size e
      · rw [q]; obtain ⟨_, e, _⟩ := t2.ob; exact Heap.lt_size e
    refine pyNext_zipM_item (dr_V D.l1i1) (dr_V D.l2i2) D hz hTI hTO (pv_of t1 p) (pv_of t2 p2) (x := u) (y := u2) (by simpa using hu) (by simpa using hu2) fun h' z' TO' r1 r2 hT hk => ?_
    refine ⟨_, rfl, wpAny_letOwnedTupleGo_zip (s := { s with heap := h' }) z' fun h'' z'' sb => ?_⟩
    have hT2 : h''.get? s.heap.objs.size = some { cls := .type "tuple", data := .seq #[u, u2] } := (sb.2 _ (Nat.ne_of_gt zl)).trans hT
    have new : ObjOk X.prog X.w (upd H s.heap.objs.size (.tup [x, y])) h'' s.heap.objs.size (.tup [x, y]) := ⟨by show 2 ≤ sizeLine; decide, [u, u2], .cons ru (.cons ru2 .nil), ⟨_, hT2, rfl, _, rfl⟩⟩
    have I1 : Inv X pins σ (upd H s.heap.objs.size (.tup [x, y])) { s with heap := h'' } :=
      I.turnedNew (t' := s.toks) (ch := [z, TI, TO, i1, i2]) (fun d o hb q => (sb.2 d fun q' => hb (five.mpr (.inl q'))).trans (hk d o (fun q' => hb (five.mpr (.inl q'))) (fun q' => hb (by simp [q'])) (fun q' => hb (by simp [q'])) (fun q' => hb (by simp [q'])) q)) hf (Nat.le_refl _) new
    refine ⟨.ref s.heap.objs.size, _, I1, rfl, ⟨_, x, y, rfl, I.hok.fresh (Nat.le_refl _), rfl, fun l hl => by rw [sqV_inj I hl hqx]; exact hx, fun l hl => by rw [sqV_inj I hl hqy]; exact hy⟩, ⟨z'', ?_, ⟨u, u2, ?_⟩, ?_, ?_⟩, fun d hd => ?_⟩
    · exact (sb.2 _ D.TIz).trans (hk _ _ D.TIz D.TITO D.TIi1 D.TIi2 hTI)
    · exact (sb.2 _ D.TOz).trans TO'
    · exact (pv_it r1).at fun o q => (sb.2 _ D.i1z).trans q
    · exact (pv_it r2).at fun o q => (sb.2 _ D.i2z).trans q
    · rw [upd_ne (Nat.ne_of_lt (small d hd))]
      exact (hf d hd).1
  done := by
    intro X hP hw hK hc i pins s σ H E I hf st hg
    subst hP hw hK
    obtain ⟨hz, hTI, ⟨x0, y0, hTO⟩, t1, t2⟩ := st
    obtain ⟨xs, ys, hqx, hqy, hend⟩ := hg
    obtain ⟨its, rv, p⟩ := sqV_at I hqx
    obtain ⟨its2, rv2, p2⟩ := sqV_at I hqy
    have e1 := rv.length
    have e2 := rv2.length
    have he : its.toArray[i]? = none ∨ its2.toArray[i]? = none := by
      rcases hend with q | q
      · exact .inl (by simp; omega)
      · exact .inr (by simp; omega)
    exact pyNext_zipM_end (dr_V D.l1i1) (dr_V D.l2i2) (I.ok.hd hc) D hz hTI hTO (pv_of t1 p) (pv_of t2 p2) he fun h' hk => ⟨rfl, I.turnedL (t' := s.toks) (ch := [z, TI, TO, i1, i2]) (fun d o hb q =>
      hk d o (fun q' => hb (five.mpr (.inl q'))) (fun q' => hb (by simp [q'])) (fun q' => hb (by simp [q'])) (fun q' => hb (by simp [q'])) q) hf⟩
  self := fun A i s Q E st h => wpAny_pyIter_zip st.1 h
def iZip4 (K : PySem.W.Frag) (ta : TA) : TI := fun σ H R => ta σ H fun vs H1 => ∃ a b xs ys, vs = [.ref a, .ref b] ∧ ((SqL K H1 a xs ∧ SqL K H1 b ys ∧ R (Itz K a b) H1) ∨ (SqT K H1 a xs ∧ SqT K H1 b ys ∧ R (ItzT K a b) H1) ∨
  (SqL K H1 a xs ∧ SqT K H1 b ys ∧ R (ItzM K true false a b) H1) ∨ (SqT K H1 a xs ∧ SqL K H1 b ys ∧ R (ItzM K false true a b) H1))
theorem pi_zip4 {X : Cx} {e e2 : Expr} {ta : TA} {p pos tpos : Pos} {elts : List Expr} {kk : Nat} (hg : Gl X "zip") (hm : X.mg "zip" = none) (ha : PA X [e, e2] ta)
    (hs : starEach [e, e2] X.env = (false, eval e X.env) :: starEach [e2] X.env := by rfl) (hpl : (backTo pos (starEach [e2] X.env)).any (·.1) = false := by rfl) :
    PI X (.Tuple elts kk tpos) (.Call (.Name "zip" p) [e, e2] [] pos) (iZip4 X.K ta) := by
  refine ⟨fun pins s σ H R I h => ?_⟩
  refine Call_ (ld_blt I hg hm PyProof.Rows.boot_zip (PyProof.Rows.callWith_type1 (thn (ha.run pos pins s σ H _ I h) fun us s1 ⟨vs, H1, I1, r1, q1⟩ => ?_) hs hpl))
  obtain ⟨a, b, xs, ys, ex, q1⟩ := q1
  subst ex
  cases r1 with
  | cons r rr =>
    cases rr with
    | cons r' rr =>
      cases rr
      cases r
      cases r'
      have fr : ∀ d, d ∈ [s1.heap.objs.size + 4, s1.heap.objs.size + 2, s1.heap.objs.size + 3, s1.heap.objs.size, s1.heap.objs.size + 1] → FpOk X pins H1 d := fun d hd => by
        have hle : s1.heap.objs.size ≤ d := by
          rcases five.mp hd with q | q | q | q | q <;> rw [q]
          · exact Nat.le_add_right _ _
          · exact Nat.le_add_right _ _
          · exact Nat.le_add_right _ _
          · exact Nat.le_refl _
          · exact Nat.le_add_right _ _
        exact I1.fpOk hle (I1.hok.fresh hle)
      rcases q1 with ⟨hqx, hqy, q⟩ | ⟨hqx, hqy, q⟩ | ⟨hqx, hqy, q⟩ | ⟨hqx, hqy, q⟩
      · obtain ⟨its, rv, p1, _⟩ := I1.list hqx
        obtain ⟨its2, rv2, p2, _⟩ := I1.list hqy
        refine call_zip_2 p1.isList p2.isList fun h' hz hTI hTO h1 h2 _ hk => wpAny_pyIter_zip hz ?_
        exact ⟨s1.heap.objs.size + 4, [s1.heap.objs.size + 4, s1.heap.objs.size + 2, s1.heap.objs.size + 3, s1.heap.objs.size, s1.heap.objs.size + 1], _, _, H1, rfl, I1.kept (t' := s1.toks) hk, turn_zip (PySem.W.ktu_apart s1.heap.objs.size a b p1.lt p2.lt), ⟨hz, hTI, ⟨_, _, hTO⟩, h1, h2⟩, fr, q⟩
      · obtain ⟨its, rv, p1, _⟩ := I1.tuple hqx
        obtain ⟨its2, rv2, p2, _⟩ := I1.tuple hqy
        obtain ⟨o1, ho1, _⟩ := id p1
        obtain ⟨o2, ho2, _⟩ := id p2
        refine call_zipT (show s1.heap.IsTuple a its.toArray from p1) (show s1.heap.IsTuple b its2.toArray from p2) fun h' hz hTI hTO h1 h2 _ hk => wpAny_pyIter_zip hz ?_
        exact ⟨s1.heap.objs.size + 4, [s1.heap.objs.size + 4, s1.heap.objs.size + 2, s1.heap.objs.size + 3, s1.heap.objs.size, s1.heap.objs.size + 1], _, _, H1, rfl, I1.kept (t' := s1.toks) hk, turn_zipT (PySem.W.ktu_apart s1.heap.objs.size a b (Heap.lt_size ho1) (Heap.lt_size ho2)), ⟨hz, hTI, ⟨_, _, hTO⟩, h1, h2⟩, fr, q⟩
      · obtain ⟨its, rv, p1, _⟩ := I1.list hqx
        obtain ⟨its2, rv2, p2, _⟩ := I1.tuple hqy
        obtain ⟨o2, ho2, _⟩ := id p2
        refine call_LT p1.isList (show s1.heap.IsTuple b its2.toArray from p2) fun h' hz hTI hTO h1 h2 hk => wpAny_pyIter_zip hz ?_
        have I2 : Inv X pins σ H1 { s1 with heap := h' } := I1.kept (t' := s1.toks) hk
        exact ⟨s1.heap.objs.size + 4, [s1.heap.objs.size + 4, s1.heap.objs.size + 2, s1.heap.objs.size + 3, s1.heap.objs.size, s1.heap.objs.size + 1], _, _, H1, rfl, I2, turn_zipM (b := true) (c := false) (PySem.W.ktu_apart s1.heap.objs.size a b p1.lt (Heap.lt_size ho2)), ⟨hz, hTI, ⟨_, _, hTO⟩, h1, h2⟩, fr, q⟩
      · obtain ⟨its, rv, p1, _⟩ := I1.tuple hqx
        obtain ⟨its2, rv2, p2, _⟩ := I1.list hqy
        obtain ⟨o1, ho1, _⟩ := id p1
        refine call_TL (show s1.heap.IsTuple a its.toArray from p1) p2.isList fun h' hz hTI hTO h1 h2 hk => wpAny_pyIter_zip hz ?_
        have I2 : Inv X pins σ H1 { s1 with heap := h' } := I1.kept (t' := s1.toks) hk
        exact ⟨s1.heap.objs.size + 4, [s1.heap.objs.size + 4, s1.heap.objs.size + 2, s1.heap.objs.size + 3, s1.heap.objs.size, s1.heap.objs.size + 1], _, _, H1, rfl, I2, turn_zipM (b := false) (c := true) (PySem.W.ktu_apart s1.heap.objs.size a b (Heap.lt_size ho1) p2.lt), ⟨hz, hTI, ⟨_, _, hTO⟩, h1, h2⟩, fr, q⟩
end RZ

namespace DL
open PySem PySem.Spec PyProof.Rows L2
/-! ### what is walked -/
section
variable {K : PySem.W.Frag} {fnm clm : Nat → Option Addr} {S : Addr → Option Bool} {H : Hp} {G : HD}
theorem it_list {a : Addr} {vs : List V} {ds : List D} (R : Hel K fnm clm S H G) (h : LAt K S H G a vs) (z : vs.length ≤ sizeLine) (r : DatAll K fnm S H G vs ds) : ItOk K fnm clm (Itl K a) S H G ds := by
  refine ⟨by rw [← r.length]; exact z, fun S' H' G' st R' i d e => ?_, fun S' H' G' st R' => ?_⟩
  · have h' := (h.keep (Keep.of R st)).sq
    obtain ⟨v, e1, e2⟩ := (r.step R st).get e
    refine ⟨⟨vs, v, h', e1⟩, fun x H'' y => ?_⟩
    obtain ⟨rfl, y⟩ := y
    have := y vs h'
    rw [e1] at this; cases this
    exact ⟨.refl, R', e2⟩
  · have h' := (h.keep (Keep.of R st)).sq
    exact ⟨vs, h', by rw [r.length]; exact Nat.le_refl _⟩
theorem it_tup {a : Addr} {vs : List V} {ds : List D} (R : Hel K fnm clm S H G) (h : SqT K H a vs) (z : vs.length ≤ sizeLine) (r : DatAll K fnm S H G vs ds) : ItOk K fnm clm (Itt K a) S H G ds := by
  refine ⟨by rw [← r.length]; exact z, fun S' H' G' st R' i d e => ?_, fun S' H' G' st R' => ?_⟩
  · have h' := (Keep.of R st).sqT h
    obtain ⟨v, e1, e2⟩ := (r.step R st).get e
    refine ⟨⟨vs, v, h', e1⟩, fun x H'' y => ?_⟩
    obtain ⟨rfl, y⟩ := y
    have := y vs h'
    rw [e1] at this; cases this
    exact ⟨.refl, R', e2⟩
  · exact ⟨vs, (Keep.of R st).sqT h, by rw [r.length]; exact Nat.le_refl _⟩
theorem it_str {s : List Nat} (hs : PyData.strOk (mkStr s) = true) (z : s.length ≤ sizeLine) : ItOk K fnm clm (Its (mkStr s)) S H G (s.map fun c => .str [c]) := by
  refine ⟨by rw [List.length_map]; exact z, fun S' H' G' st R' i d e => ?_, fun S' H' G' st R' => ?_⟩
  · rw [List.getElem?_map] at e
    cases q : s[i]? with
    | none => rw [q] at e; cases e
    | some c =>
      rw [q] at e; cases e
      have hi : i < s.length := (List.getElem?_eq_some_iff.mp q).1
      refine ⟨by show i < (mkStr s).cps.size; simpa [mkStr] using hi, fun x H'' y => ?_⟩
      obtain ⟨rfl, c', e1, rfl⟩ := y
      have : c = c' := by simp [mkStr] at e1; rw [q] at e1; exact Option.some.inj e1
      subst this
      refine ⟨.refl, R', .str [c] ?_ (by rw [lim_eq]; show 1 ≤ lim; decide)⟩
      rw [strOk_iff] at hs ⊢
      intro w hw
      rw [List.mem_singleton] at hw
      subst hw
      exact hs w (List.mem_of_getElem? q)
  · show (mkStr s).cps.size ≤ _
    simp [mkStr]
theorem rngF_len (c : Int) : ∀ (n : Nat) (lo : Int), (rngF c n lo).length = n
  | 0, _ => rfl
  | n + 1, lo => by show (rngF c n (lo + c)).length + 1 = _; rw [rngF_len c n]
theorem rngF_get (c : Int) : ∀ {n : Nat} {lo : Int} {i : Nat} {d : D}, (rngF c n lo)[i]? = some d → i < n ∧ d = .int (lo + i * c)
  | 0, _, _, _, e => by cases e
  | n + 1, lo, 0, d, e => by
    have e : some (D.int lo) = some d := e
    cases e
    exact ⟨Nat.succ_pos _, by simp⟩
  | n + 1, lo, i + 1, d, e => by
    obtain ⟨h1, h2⟩ := rngF_get c (n := n) (lo := lo + c) (i := i) (d := d) (by simpa [rngF] using e)
    refine ⟨by omega, ?_⟩
    rw [h2]
    have : lo + c + (i : Int) * c = lo + ((i + 1 : Nat) : Int) * c := by rw [Int.natCast_add, Int.add_mul]; omega
    rw [this]
theorem it_rng {lo : Int} {n : Nat} (z : n ≤ lim) : ItOk K fnm clm (Itr lo n) S H G (rngL (lo, n, 1)) := by
  refine ⟨by unfold rngL; rw [rngF_len, lim_eq]; exact z, fun S' H' G' st R' i d e => ?_, fun S' H' G' st R' => ?_⟩
  · obtain ⟨h1, rfl⟩ := rngF_get _ e
    refine ⟨h1, fun x H'' y => ?_⟩
    obtain ⟨rfl, rfl⟩ := y
    refine ⟨.refl, R', ?_⟩
    show Dat K fnm S' _ G' _ (.int (lo + i * 1))
    rw [Int.mul_one]; exact .int _
  · show n ≤ _
    unfold rngL; rw [rngF_len]; exact Nat.le_refl _
theorem it_rngC {lo : Int} {n : Nat} (z : n ≤ lim) : ItOk K fnm clm (Itc lo (-1) n) S H G (rngL (lo, n, -1)) := by
  refine ⟨by unfold rngL; rw [rngF_len, lim_eq]; exact z, fun S' H' G' st R' i d e => ?_, fun S' H' G' st R' => ?_⟩
  · obtain ⟨h1, rfl⟩ := rngF_get _ e
    refine ⟨h1, fun x H'' y => ?_⟩
    obtain ⟨rfl, rfl⟩ := y
    exact ⟨.refl, R', .int _⟩
  · show n ≤ _
    unfold rngL; rw [rngF_len]; exact Nat.le_refl _
theorem pair_new {v w : V} {d e : D} {T : Addr} (R : Hel K fnm clm S H G) (h : H T = none) (r1 : Dat K fnm S H G v d) (r2 : Dat K fnm S H G w e) :
    Step S H G S (upd H T (.tup [v, w])) G ∧ Hel K fnm clm S (upd H T (.tup [v, w])) G ∧ Dat K fnm S (upd H T (.tup [v, w])) G (.ref T) (.tpl [d, e]) :=
  ⟨.newU h, R.newU h, .tpl (SqT.of upd_same) (by rw [lim_eq]; show 2 ≤ lim; decide) (.cons (r1.step R (.newU h)) (.cons (r2.step R (.newU h)) .nil))⟩
theorem enuF_len : ∀ (ds : List D) (k : Nat), (enuF k ds).length = ds.length
  | [], _ => rfl
  | d :: ds, k => by show (enuF (k + 1) ds).length + 1 = _; rw [enuF_len ds]; rfl
theorem enuF_get : ∀ {ds : List D} {k i : Nat} {d : D}, (enuF k ds)[i]? = some d → ∃ x, ds[i]? = some x ∧ d = .tpl [.int ((k + i : Nat) : Int), x]
  | [], _, _, _, e => by cases e
  | x :: ds, k, 0, d, e => by
    have e : some (D.tpl [.int (k : Nat), x]) = some d := e
    cases e
    exact ⟨x, rfl, rfl⟩
  | x :: ds, k, i + 1, d, e => by
    obtain ⟨y, h1, h2⟩ := enuF_get (ds := ds) (k := k + 1) (i := i) (d := d) (by simpa [enuF] using e)
    refine ⟨y, by simpa using h1, ?_⟩
    rw [h2, Nat.add_assoc, Nat.add_comm 1 i]
theorem zip2_len : ∀ (xs ys : List D), (zip2L xs ys).length = min xs.length ys.length
  | [], _ => by simp [zip2L]
  | _ :: _, [] => by simp [zip2L]
  | x :: xs, y :: ys => by
    show (zip2L xs ys).length + 1 = _
    rw [zip2_len xs ys, List.length_cons, List.length_cons]; omega
theorem zip2_get : ∀ {xs ys : List D} {i : Nat} {d : D}, (zip2L xs ys)[i]? = some d → ∃ x y, xs[i]? = some x ∧ ys[i]? = some y ∧ d = .tpl [x, y]
  | [], _, _, _, e => by simp [zip2L] at e
  | _ :: _, [], _, _, e => by simp [zip2L] at e
  | x :: xs, y :: ys, 0, d, e => by
    have e : some (D.tpl [x, y]) = some d := e
    cases e
    exact ⟨x, y, rfl, rfl, rfl⟩
  | x :: xs, y :: ys, i + 1, d, e => by
    obtain ⟨a, b, h1, h2, h3⟩ := zip2_get (xs := xs) (ys := ys) (i := i) (d := d) (by simpa [zip2L] using e)
    exact ⟨a, b, by simpa using h1, by simpa using h2, h3⟩
theorem it_enu {a : Addr} {vs : List V} {ds : List D} (R : Hel K fnm clm S H G) (h : LAt K S H G a vs) (z : vs.length ≤ sizeLine) (r : DatAll K fnm S H G vs ds) : ItOk K fnm clm (Ite K a) S H G (enuL ds) := by
  refine ⟨by unfold enuL; rw [enuF_len, ← r.length]; exact z, fun S' H' G' st R' i d e => ?_, fun S' H' G' st R' => ?_⟩
  · have h' := (h.keep (Keep.of R st)).sq
    obtain ⟨x, e0, rfl⟩ := enuF_get e
    obtain ⟨v, e1, e2⟩ := (r.step R st).get e0
    refine ⟨⟨vs, v, h', e1⟩, fun y H'' q => ?_⟩
    obtain ⟨T, w, rfl, hT, rfl, q⟩ := q
    have := q vs h'
    rw [e1] at this; cases this
    rw [Nat.zero_add]
    exact pair_new R' hT (.int _) e2
  · have h' := (h.keep (Keep.of R st)).sq
    exact ⟨vs, h', by unfold enuL; rw [enuF_len, r.length]; exact Nat.le_refl _⟩
theorem it_enuT {a : Addr} {vs : List V} {ds : List D} (R : Hel K fnm clm S H G) (h : SqT K H a vs) (z : vs.length ≤ sizeLine) (r : DatAll K fnm S H G vs ds) : ItOk K fnm clm (En.ItE K a) S H G (enuL ds) := by
  refine ⟨by unfold enuL; rw [enuF_len, ← r.length]; exact z, fun S' H' G' st R' i d e => ?_, fun S' H' G' st R' => ?_⟩
  · have h' := (Keep.of R st).sqT h
    obtain ⟨x, e0, rfl⟩ := enuF_get e
    obtain ⟨v, e1, e2⟩ := (r.step R st).get e0
    refine ⟨⟨vs, v, h', e1⟩, fun y H'' q => ?_⟩
    obtain ⟨T, w, rfl, hT, rfl, q⟩ := q
    have := q vs h'
    rw [e1] at this; cases this
    rw [Nat.zero_add]
    exact pair_new R' hT (.int _) e2
  · exact ⟨vs, (Keep.of R st).sqT h, by unfold enuL; rw [enuF_len, r.length]; exact Nat.le_refl _⟩
theorem it_zip {a b : Addr} {vs ws : List V} {ds es : List D} (R : Hel K fnm clm S H G) (h : LAt K S H G a vs) (z : vs.length ≤ sizeLine) (r : DatAll K fnm S H G vs ds)
    (h2 : LAt K S H G b ws) (r2 : DatAll K fnm S H G ws es) : ItOk K fnm clm (Itz K a b) S H G (zip2L ds es) := by
  refine ⟨by rw [zip2_len, ← r.length]; exact Nat.le_trans (Nat.min_le_left _ _) z, fun S' H' G' st R' i d e => ?_, fun S' H' G' st R' => ?_⟩
  · have h' := (h.keep (Keep.of R st)).sq
    have h2' := (h2.keep (Keep.of R st)).sq
    obtain ⟨x, y, e0, e0', rfl⟩ := zip2_get e
    obtain ⟨v, e1, e2⟩ := (r.step R st).get e0
    obtain ⟨w, e3, e4⟩ := (r2.step R st).get e0'
    refine ⟨⟨vs, ws, v, w, h', h2', e1, e3⟩, fun y H'' q => ?_⟩
    obtain ⟨T, v', w', rfl, hT, rfl, q, q'⟩ := q
    have := q vs h'
    rw [e1] at this; cases this
    have := q' ws h2'
    rw [e3] at this; cases this
    exact pair_new R' hT e2 e4
  · have h' := (h.keep (Keep.of R st)).sq
    have h2' := (h2.keep (Keep.of R st)).sq
    refine ⟨vs, ws, h', h2', ?_⟩
    rw [zip2_len, r.length, r2.length]; omega
theorem it_zipT {a b : Addr} {vs ws : List V} {ds es : List D} (R : Hel K fnm clm S H G) (h : SqT K H a vs) (z : vs.length ≤ sizeLine) (r : DatAll K fnm S H G vs ds) (h2 : SqT K H b ws) (r2 : DatAll K fnm S H G ws es) :
    ItOk K fnm clm (RZ.ItzT K a b) S H G (zip2L ds es) := by
  refine ⟨by rw [zip2_len, ← r.length]; exact Nat.le_trans (Nat.min_le_left _ _) z, fun S' H' G' st R' i d e => ?_, fun S' H' G' st R' => ?_⟩
  · have h' := (Keep.of R st).sqT h
    have h2' := (Keep.of R st).sqT h2
    obtain ⟨x, y, e0, e0', rfl⟩ := zip2_get e
    obtain ⟨v, e1, e2⟩ := (r.step R st).get e0
    obtain ⟨w, e3, e4⟩ := (r2.step R st).get e0'
    refine ⟨⟨vs, ws, v, w, h', h2', e1, e3⟩, fun y H'' q => ?_⟩
    obtain ⟨T, v', w', rfl, hT, rfl, q, q'⟩ := q
    have := q vs h'
    rw [e1] at this; cases this
    have := q' ws h2'
    rw [e3] at this; cases this
    exact pair_new R' hT e2 e4
  · refine ⟨vs, ws, (Keep.of R st).sqT h, (Keep.of R st).sqT h2, ?_⟩
    rw [zip2_len, r.length, r2.length]; omega
theorem it_zipM {b c : Bool} {a a' : Addr} {vs ws : List V} {ds es : List D} (R : Hel K fnm clm S H G) (h : ∀ S' H' G', Step S H G S' H' G' → RZ.SqV K H' b a vs) (z : vs.length ≤ sizeLine) (r : DatAll K fnm S H G vs ds) (h2 : ∀ S' H' G', Step S H G S' H' G' → RZ.SqV K H' c a' ws) (r2 : DatAll K fnm S H G ws es) :
    ItOk K fnm clm (RZ.ItzM K b c a a') S H G (zip2L ds es) := by
  refine ⟨by rw [zip2_len, ← r.length]; exact Nat.le_trans (Nat.min_le_left _ _) z, fun S' H' G' st R' i d e => ?_, fun S' H' G' st R' => ⟨vs, ws, h _ _ _ st, h2 _ _ _ st, by rw [zip2_len, r.length, r2.length]; omega⟩⟩
  obtain ⟨x, y, e0, e0', rfl⟩ := zip2_get e
  obtain ⟨v, e1, e2⟩ := (r.step R st).get e0
  obtain ⟨w, e3, e4⟩ := (r2.step R st).get e0'
  refine ⟨⟨vs, ws, v, w, h _ _ _ st, h2 _ _ _ st, e1, e3⟩, fun y H'' q => ?_⟩
  obtain ⟨T, v', w', rfl, hT, rfl, q, q'⟩ := q
  have := q vs (h _ _ _ st)
  rw [e1] at this; cases this
  have := q' ws (h2 _ _ _ st)
  rw [e3] at this; cases this
  exact pair_new R' hT e2 e4
theorem rev_get {ds : List D} {i : Nat} {d : D} (e : ds.reverse[i]? = some d) : i < ds.length ∧ ds[ds.length - 1 - i]? = some d := by
  have hi : i < ds.length := by
    have := (List.getElem?_eq_some_iff.mp e).1
    simpa using this
  rw [List.getElem?_reverse hi] at e
  exact ⟨hi, e⟩
theorem it_rev {a : Addr} {vs : List V} {ds : List D} (R : Hel K fnm clm S H G) (h : LAt K S H G a vs) (z : vs.length ≤ sizeLine) (r : DatAll K fnm S H G vs ds) : ItOk K fnm clm (Itv K a vs.length) S H G ds.reverse := by
  refine ⟨by rw [List.length_reverse, ← r.length]; exact z, fun S' H' G' st R' i d e => ?_, fun S' H' G' st R' => ?_⟩
  · have h' := (h.keep (Keep.of R st)).sq
    obtain ⟨hi, e0⟩ := rev_get e
    obtain ⟨v, e1, e2⟩ := (r.step R st).get e0
    rw [← r.length] at e1 hi
    refine ⟨⟨hi, vs, v, h', e1⟩, fun x H'' y => ?_⟩
    obtain ⟨rfl, y⟩ := y
    have := y vs h'
    rw [e1] at this; cases this
    exact ⟨.refl, R', e2⟩
  · show vs.length ≤ _
    rw [List.length_reverse, r.length]; exact Nat.le_refl _
theorem it_revT {a : Addr} {vs : List V} {ds : List D} (R : Hel K fnm clm S H G) (h : SqT K H a vs) (z : vs.length ≤ sizeLine) (r : DatAll K fnm S H G vs ds) : ItOk K fnm clm (RT.ItvT K a vs.length) S H G ds.reverse := by
  refine ⟨by rw [List.length_reverse, ← r.length]; exact z, fun S' H' G' st R' i d e => ?_, fun S' H' G' st R' => ?_⟩
  · have h' := (Keep.of R st).sqT h
    obtain ⟨hi, e0⟩ := rev_get e
    obtain ⟨v, e1, e2⟩ := (r.step R st).get e0
    rw [← r.length] at e1 hi
    refine ⟨⟨hi, vs, v, h', e1⟩, fun x H'' y => ?_⟩
    obtain ⟨rfl, y⟩ := y
    have := y vs h'
    rw [e1] at this; cases this
    exact ⟨.refl, R', e2⟩
  · show vs.length ≤ _
    rw [List.length_reverse, r.length]; exact Nat.le_refl _
end
end DL

namespace DL
open PySem PySem.Spec PyProof.Rows L2
section
variable {C : Cfg} {fnm clm : Nat → Option Addr} {Γ : Gam} {N : List Str} {sc : Scope} {X : Cx} {W : WX}
/-- over a list, a tuple, a text -/
def iAny (K : PySem.W.Frag) (tl : TE) : TI := fun σ H R => tl σ H fun x H1 => (∃ a, x = .ref a ∧ (∃ xs, SqL K H1 a xs) ∧ R (Itl K a) H1) ∨ (∃ a, x = .ref a ∧ (∃ xs, SqT K H1 a xs) ∧ R (Itt K a) H1) ∨ ∃ z, x = .str z ∧ R (Its z) H1
theorem pi_any {tg l : Expr} {tl : TE} (hl : PE X l tl) : PI X tg l (iAny X.K tl) := by
  refine ⟨fun pins s σ H R I h => ?_⟩
  refine thn (hl.run pins s σ H _ I h) fun v s1 ⟨x, H1, I1, r1, q1⟩ => ?_
  rcases q1 with ⟨a, e, ⟨xs, hq⟩, q⟩ | ⟨a, e, ⟨xs, hq⟩, q⟩ | ⟨z, e, q⟩
  · subst e
    cases r1
    obtain ⟨its, rv, p, hz⟩ := I1.list hq
    refine wpAny_pyIter_list p.isList ?_
    refine ⟨s1.heap.objs.size, [s1.heap.objs.size], _, _, H1, rfl, I1.kept (t' := s1.toks) fun b o e => Heap.get?_push_of_some _ e, turn_list a _, ⟨_, Heap.get?_push_size _ rfl, rfl, rfl⟩, fun b hb => ?_, q⟩
    have e : b = s1.heap.objs.size := by simpa using hb
    subst e
    exact I1.fpOk (Nat.le_refl _) (I1.hok.fresh (Nat.le_refl _))
  · subst e
    cases r1
    obtain ⟨its, rv, p, hz⟩ := I1.tuple hq
    refine wpAny_pyIter_tuple (show s1.heap.IsTuple a its.toArray from p) ?_
    refine ⟨s1.heap.objs.size, [s1.heap.objs.size], _, _, H1, rfl, I1.kept (t' := s1.toks) fun b o e => Heap.get?_push_of_some _ e, turn_tuple a _, ⟨_, Heap.get?_push_size _ rfl, rfl, rfl⟩, fun b hb => ?_, q⟩
    have e : b = s1.heap.objs.size := by simpa using hb
    subst e
    exact I1.fpOk (Nat.le_refl _) (I1.hok.fresh (Nat.le_refl _))
  · subst e
    obtain ⟨t, rfl⟩ := r1
    cases ha : z.cps.all (· < 128)
    · exact wpAny_pyIter_wide ha (pi_one (tk := s1.toks) I1 _ (turn_str _ z t "str_iterator" (.inr rfl)) ⟨_, Heap.get?_push_size _ rfl, rfl, rfl⟩ q)
    · exact wpAny_pyIter_ascii ha (pi_one (tk := s1.toks) I1 _ (turn_str _ z t "str_ascii_iterator" (.inl rfl)) ⟨_, Heap.get?_push_size _ rfl, rfl, rfl⟩ q)
theorem ji_of {tg e : Expr} {ee : E} (he : JE fnm clm X W e (wE Γ ee)) : JI fnm clm X W tg e (wI Γ (.of ee)) := by
  obtain ⟨s, ta, pa, ra⟩ := he
  refine ⟨_, pi_any pa, fun S σ σD H G Rr QD XD R sl h hR hX => ?_⟩
  refine ra S σ σD H G _ _ XD R sl h (fun v S1 H1 d G1 st1 R1 r1 h1 => ?_) hX
  cases d <;> try exact h1.elim
  · obtain ⟨rfl, k, z⟩ := dat_str r1
    exact .inr (.inr ⟨_, rfl, hR _ S1 H1 G1 _ st1 R1 (it_str k z) h1⟩)
  · obtain ⟨a, vs, rfl, h2, z, r⟩ := dat_tup r1
    exact .inr (.inl ⟨a, rfl, ⟨vs, h2⟩, hR _ S1 H1 G1 _ st1 R1 (it_tup R1 h2 z r) h1⟩)
  · obtain ⟨a, vs, rfl, h2, z, r⟩ := dat_tpl r1
    exact .inr (.inl ⟨a, rfl, ⟨vs, h2⟩, hR _ S1 H1 G1 _ st1 R1 (it_tup R1 h2 z r) h1⟩)
  · obtain ⟨a, vs, rfl, h2, z, r⟩ := dat_lst r1
    exact .inl ⟨a, rfl, ⟨vs, h2.sq⟩, hR _ S1 H1 G1 _ st1 R1 (it_list R1 h2 z r) h1⟩
  · obtain ⟨a, vs, rfl, h2, z, r⟩ := dat_scr r1
    exact .inl ⟨a, rfl, ⟨vs, h2.sq⟩, hR _ S1 H1 G1 _ st1 R1 (it_list R1 h2 z r) h1⟩
theorem star_cons {es : List Expr} (h : ∀ e ∈ es, isStar e = false) (env : Env) : starEach es env = es.map fun e => (false, eval e env) := by
  induction es with
  | nil => rfl
  | cons e es ih => rw [star_no (h e List.mem_cons_self), ih fun x hx => h x (List.mem_cons_of_mem _ hx)]; rfl
theorem ji_rng (k : COk C fnm clm Γ N sc X W) {tg : Expr} {es : List Expr} {p pos : Pos} {ees : Es} (hl : 1 ≤ es.length ∧ es.length ≤ 3) (hg : Gl X "range") (h : JA fnm clm X W es (wEs Γ ees)) :
    JI fnm clm X W tg (.Call (.Name "range" p) es [] pos) (wI Γ (.rng ees)) := by
  obtain ⟨ss, ta, pa, ra⟩ := h
  have hm := blt_of k (x := "range") (by decide +kernel)
  have sc := star_cons ss X.env
  match es, hl, ss, pa, ra, sc with
  | [a], _, ss, pa, ra, sc =>
    refine ⟨_, pi_range1 hg hm pa sc, fun S σ σD H G Rr QD XD R sl h hR hX => ?_⟩
    refine ra S σ σD H G _ _ XD R sl h (fun vs S1 H1 ds G1 hn st1 R1 r1 h1 => ?_) hX
    obtain ⟨r, e, z, h2⟩ := ok_of h1
    cases r1 with
    | nil => cases hn
    | cons r1 rr =>
      cases rr with
      | cons _ _ => cases hn
      | nil =>
        rename_i v d
        cases d <;> try exact nomatch (show (none : Option (Int × Nat × Int)) = some r from e)
        rename_i j
        cases dat_int r1
        have e : (if -4611686018427387904 ≤ j ∧ j < 4611686018427387904 then some ((0 : Int), j.toNat, (1 : Int)) else none) = some r := e
        split at e
        · rename_i b
          cases e
          exact ⟨j, rfl, b.1, b.2, hR _ S1 H1 G1 _ st1 R1 (it_rng z) h2⟩
        · cases e
  | [a, b], _, ss, pa, ra, sc =>
    refine ⟨_, pi_range2 hg hm pa sc (star_cons (fun e he => ss e (List.mem_cons_of_mem _ he)) X.env), fun S σ σD H G Rr QD XD R sl h hR hX => ?_⟩
    refine ra S σ σD H G _ _ XD R sl h (fun vs S1 H1 ds G1 hn st1 R1 r1 h1 => ?_) hX
    obtain ⟨r, e, z, h2⟩ := ok_of h1
    match vs, ds, r1, hn, e with
    | [v, w], [.int i, .int j], r1, hn, e =>
      obtain ⟨v', w', e3, q1, q2⟩ := two_of r1
      cases e3
      cases dat_int q1; cases dat_int q2
      have e : (if (-4611686018427387904 ≤ i ∧ i < 4611686018427387904) ∧ (-4611686018427387904 ≤ j ∧ j < 4611686018427387904) then some (i, (j - i).toNat, (1 : Int)) else none) = some r := e
      split at e
      · rename_i b
        cases e
        exact ⟨i, j, rfl, ⟨b.1.1, b.1.2, b.2.1, b.2.2⟩, hR _ S1 H1 G1 _ st1 R1 (it_rng z) h2⟩
      · cases e
  | [a, b, c], _, ss, pa, ra, sc =>
    refine ⟨_, pi_range3 hg hm pa (star_no (ss a (by simp)) _ _) (star_all (fun e he => ss e (List.mem_cons_of_mem _ he)) _ _), fun S σ σD H G Rr QD XD R sl h hR hX => ?_⟩
    refine ra S σ σD H G _ _ XD R sl h (fun vs S1 H1 ds G1 hn st1 R1 r1 h1 => ?_) hX
    obtain ⟨r, e, z, h2⟩ := ok_of h1
    match vs, ds, r1, hn, e with
    | [v, w, u], [.int i, .int j, .int c], r1, hn, e =>
      cases r1 with
      | cons q1 rr =>
        obtain ⟨v', w', e3, q2, q3⟩ := two_of rr
        cases e3
        cases dat_int q1; cases dat_int q2; cases dat_int q3
        have e : (if ((-4611686018427387904 ≤ i ∧ i < 4611686018427387904) ∧ (-4611686018427387904 ≤ j ∧ j < 4611686018427387904)) ∧ c = -1 then some (i, (i - j).toNat, (-1 : Int)) else none) = some r := e
        split at e
        · rename_i b
          cases e
          obtain ⟨⟨⟨b1, b2⟩, b3, b4⟩, rfl⟩ := b
          exact ⟨i, j, -1, _, rfl, .neg b1 b2 b3 b4, hR _ S1 H1 G1 _ st1 R1 (it_rngC z) h2⟩
        · cases e
theorem ji_enu (k : COk C fnm clm Γ N sc X W) {elts : List Expr} {kk : Nat} {tpos p pos : Pos} {e : Expr} {ee : E} (hg : Gl X "enumerate") (he : JE fnm clm X W e (wE Γ ee)) :
    JI fnm clm X W (.Tuple elts kk tpos) (.Call (.Name "enumerate" p) [e] [] pos) (wI Γ (.enu ee)) := by
  obtain ⟨ss, ta, pa, ra⟩ := ja_cons he (ja_nil (Γ := Γ))
  refine ⟨_, En.pi_any hg (blt_of k (by decide +kernel)) pa (star_cons ss X.env), fun S σ σD H G Rr QD XD R sl h hR hX => ?_⟩
  have h : wE Γ ee σD G (fun d H1 => ok (fixD d) fun ds => QD (enuL ds) H1) XD := h
  refine ra S σ σD H G _ (fun ds H1 => match ds with | [d] => ok (fixD d) fun ds => QD (enuL ds) H1 | _ => False) XD R sl h (fun vs S1 H1 ds G1 hn st1 R1 r1 h1 => ?_) hX
  match ds, r1, h1 with
  | [d], r1, h1 =>
    obtain ⟨v, rfl, q⟩ := one_of r1
    obtain ⟨zs, e3, h2⟩ := ok_of (show ok (fixD d) fun ds => QD (enuL ds) G1 from h1)
    cases d <;> try exact nomatch (show (none : Option (List D)) = some zs from e3)
    · cases e3
      obtain ⟨a, vs, rfl, k1, z1, d1⟩ := dat_tup q
      exact ⟨a, vs, rfl, .inr ⟨k1, hR _ S1 H1 G1 _ st1 R1 (it_enuT R1 k1 z1 d1) h2⟩⟩
    · cases e3
      obtain ⟨a, vs, rfl, k1, z1, d1⟩ := dat_lst q
      exact ⟨a, vs, rfl, .inl ⟨k1.sq, hR _ S1 H1 G1 _ st1 R1 (it_enu R1 k1 z1 d1) h2⟩⟩
    · cases e3
      obtain ⟨a, vs, rfl, k1, z1, d1⟩ := dat_scr q
      exact ⟨a, vs, rfl, .inl ⟨k1.sq, hR _ S1 H1 G1 _ st1 R1 (it_enu R1 k1 z1 d1) h2⟩⟩
theorem ji_zip (k : COk C fnm clm Γ N sc X W) {elts : List Expr} {kk : Nat} {tpos p pos : Pos} {e e2 : Expr} {ees : Es} (hg : Gl X "zip") (h : JA fnm clm X W [e, e2] (wEs Γ ees)) :
    JI fnm clm X W (.Tuple elts kk tpos) (.Call (.Name "zip" p) [e, e2] [] pos) (wI Γ (.zip ees)) := by
  obtain ⟨ss, ta, pa, ra⟩ := h
  refine ⟨_, RZ.pi_zip4 hg (blt_of k (by decide +kernel)) pa (star_no (ss e List.mem_cons_self) _ _) (star_all (fun y hy => ss y (List.mem_cons_of_mem _ hy)) _ _), fun S σ σD H G Rr QD XD R sl h hR hX => ?_⟩
  refine ra S σ σD H G _ _ XD R sl h (fun vs S1 H1 ds G1 hn st1 R1 r1 h1 => ?_) hX
  obtain ⟨zs, e3, h2⟩ := ok_of h1
  match ds, r1, e3 with
  | [.lst xs, .lst ys], r1, e3 =>
    cases e3
    obtain ⟨v, w, rfl, q1, q2⟩ := two_of r1
    obtain ⟨a, vs, rfl, k1, z1, d1⟩ := dat_lst q1
    obtain ⟨b, ws, rfl, k2, z2, d2⟩ := dat_lst q2
    exact ⟨a, b, vs, ws, rfl, .inl ⟨k1.sq, k2.sq, hR _ S1 H1 G1 _ st1 R1 (it_zip R1 k1 z1 d1 k2 d2) h2⟩⟩
  | [.lst xs, .scr ys], r1, e3 =>
    cases e3
    obtain ⟨v, w, rfl, q1, q2⟩ := two_of r1
    obtain ⟨a, vs, rfl, k1, z1, d1⟩ := dat_lst q1
    obtain ⟨b, ws, rfl, k2, z2, d2⟩ := dat_scr q2
    exact ⟨a, b, vs, ws, rfl, .inl ⟨k1.sq, k2.sq, hR _ S1 H1 G1 _ st1 R1 (it_zip R1 k1 z1 d1 k2 d2) h2⟩⟩
  | [.scr xs, .lst ys], r1, e3 =>
    cases e3
    obtain ⟨v, w, rfl, q1, q2⟩ := two_of r1
    obtain ⟨a, vs, rfl, k1, z1, d1⟩ := dat_scr q1
    obtain ⟨b, ws, rfl, k2, z2, d2⟩ := dat_lst q2
    exact ⟨a, b, vs, ws, rfl, .inl ⟨k1.sq, k2.sq, hR _ S1 H1 G1 _ st1 R1 (it_zip R1 k1 z1 d1 k2 d2) h2⟩⟩
  | [.scr xs, .scr ys], r1, e3 =>
    cases e3
    obtain ⟨v, w, rfl, q1, q2⟩ := two_of r1
    obtain ⟨a, vs, rfl, k1, z1, d1⟩ := dat_scr q1
    obtain ⟨b, ws, rfl, k2, z2, d2⟩ := dat_scr q2
    exact ⟨a, b, vs, ws, rfl, .inl ⟨k1.sq, k2.sq, hR _ S1 H1 G1 _ st1 R1 (it_zip R1 k1 z1 d1 k2 d2) h2⟩⟩
  | [.tup xs, .tup ys], r1, e3 =>
    cases e3
    obtain ⟨v, w, rfl, q1, q2⟩ := two_of r1
    obtain ⟨a, vs, rfl, k1, z1, d1⟩ := dat_tup q1
    obtain ⟨b, ws, rfl, k2, z2, d2⟩ := dat_tup q2
    exact ⟨a, b, vs, ws, rfl, .inr (.inl ⟨k1, k2, hR _ S1 H1 G1 _ st1 R1 (it_zipT R1 k1 z1 d1 k2 d2) h2⟩)⟩
  | [.lst xs, .tup ys], r1, e3 =>
    cases e3
    obtain ⟨v, w, rfl, q1, q2⟩ := two_of r1
    obtain ⟨a, vs, rfl, k1, z1, d1⟩ := dat_lst q1
    obtain ⟨b, ws, rfl, k2, z2, d2⟩ := dat_tup q2
    exact ⟨a, b, vs, ws, rfl, .inr (.inr (.inl ⟨k1.sq, k2, hR _ S1 H1 G1 _ st1 R1 (it_zipM (b := true) (c := false) R1 (fun S' H' G' st => (k1.keep (Keep.of R1 st)).sq) z1 d1 (fun S' H' G' st => (Keep.of R1 st).sqT k2) d2) h2⟩))⟩
  | [.tup xs, .lst ys], r1, e3 =>
    cases e3
    obtain ⟨v, w, rfl, q1, q2⟩ := two_of r1
    obtain ⟨a, vs, rfl, k1, z1, d1⟩ := dat_tup q1
    obtain ⟨b, ws, rfl, k2, z2, d2⟩ := dat_lst q2
    exact ⟨a, b, vs, ws, rfl, .inr (.inr (.inr ⟨k1, k2.sq, hR _ S1 H1 G1 _ st1 R1 (it_zipM (b := false) (c := true) R1 (fun S' H' G' st => (Keep.of R1 st).sqT k1) z1 d1 (fun S' H' G' st => (k2.keep (Keep.of R1 st)).sq) d2) h2⟩))⟩
theorem ji_rev (k : COk C fnm clm Γ N sc X W) {tg e : Expr} {p pos : Pos} {ee : E} (hg : Gl X "reversed") (he : JE fnm clm X W e (wE Γ ee)) :
    JI fnm clm X W tg (.Call (.Name "reversed" p) [e] [] pos) (wI Γ (.rev ee)) := by
  obtain ⟨s, ta, pa, ra⟩ := he
  refine ⟨_, RT.pi_revA hg (blt_of k (by decide +kernel)) pa (star_no s _ _), fun S σ σD H G Rr QD XD R sl h hR hX => ?_⟩
  refine ra S σ σD H G _ _ XD R sl h (fun v S1 H1 d G1 st1 R1 r1 h1 => ?_) hX
  obtain ⟨zs, e3, h2⟩ := ok_of h1
  cases d <;> try exact nomatch (show (none : Option (List D)) = some zs from e3)
  · cases e3
    obtain ⟨a, vs, rfl, k1, z1, d1⟩ := dat_tup r1
    exact ⟨a, vs, rfl, .inr ⟨k1, hR _ S1 H1 G1 _ st1 R1 (it_revT R1 k1 z1 d1) h2⟩⟩
  · cases e3
    obtain ⟨a, vs, rfl, k1, z1, d1⟩ := dat_lst r1
    exact ⟨a, vs, rfl, .inl ⟨k1.sq, hR _ S1 H1 G1 _ st1 R1 (it_rev R1 k1 z1 d1) h2⟩⟩
  · cases e3
    obtain ⟨a, vs, rfl, k1, z1, d1⟩ := dat_scr r1
    exact ⟨a, vs, rfl, .inl ⟨k1.sq, hR _ S1 H1 G1 _ st1 R1 (it_rev R1 k1 z1 d1) h2⟩⟩
/-! ### tuple(range(..)), list(range(..)) -/
theorem rgF_eq : ∀ (n : Nat) (lo : Int), rngF 1 n lo = (List.range n).map fun (i : Nat) => D.int (lo + i)
  | 0, _ => rfl
  | n + 1, lo => by
    rw [List.range_succ_eq_map, List.map_cons, List.map_map]
    show D.int lo :: rngF 1 n (lo + 1) = _
    rw [rgF_eq n (lo + 1)]
    congr 1
    · congr 1; omega
    · apply List.map_congr_left
      intro i _
      show D.int (lo + 1 + i) = D.int (lo + ((i + 1 : Nat) : Int))
      congr 1; omega
theorem rgV_dat {K : PySem.W.Frag} {fnm : Nat → Option Addr} {S : Addr → Option Bool} {H : Hp} {G : HD} (i j : Int) : DatAll K fnm S H G (rgV i j) (rngL (i, (j - i).toNat, 1)) := by
  unfold rgV rngL
  rw [rgF_eq]
  have : ∀ l : List Nat, DatAll K fnm S H G (l.map fun (k : Nat) => V.int (i + k)) (l.map fun (k : Nat) => D.int (i + k)) := by
    intro l
    induction l with
    | nil => exact .nil
    | cons a l ih => exact .cons (.int _) ih
  exact this _
/-- the object that such a call makes -/
def rgO (i j : Int) (H : Hp) (Q : VK) : Bool → Prop
  | true => NewP H (rgV i j) Q
  | false => ∀ q, H q = none → Q (.ref q) (upd H q (.lst (rgV i j)))
theorem rg_fin {z t : Bool} {i j : Int} {S : Addr → Option Bool} {H : Hp} {G : HD} {Q : VK} {QD : KD} (R : Hel X.K fnm clm S H G) (h : rgD z t i j G QD) (hQ : PostE X.K fnm clm S H G QD Q) :
    RgOk i j ∧ rgO i j H Q t := by
  obtain ⟨⟨⟨a1, a2⟩, a3, a4⟩, a5, h⟩ := h
  have e : (2 : Int) ^ 62 = 4611686018427387904 := by decide
  have hlim : lim = 16777216 := rfl
  refine ⟨⟨by rw [e]; exact a1, by rw [e]; exact a2, by rw [e]; exact a3, by rw [e]; exact a4, by show (j - i).toNat ≤ 16777216; omega⟩, ?_⟩
  have hz : (rgV i j).length ≤ sizeLine := by rw [rgV_length, lim_eq]; exact a5
  cases t with
  | true => exact new_tup R hz (rgV_dat i j) h hQ
  | false => exact new_list R hz (rgV_dat i j) h hQ
theorem je_rg1 (k : COk C fnm clm Γ N sc X W) {z t : Bool} {f : Str} {a : Expr} {p p2 pos pos2 : Pos} {ea : E} (hf : (match t with | true => "tuple" | false => "list") = f) (hg : Gl X f) (hr : Gl X "range") (ha : JE fnm clm X W a (wE Γ ea)) :
    JE fnm clm X W (.Call (.Name f p) [.Call (.Name "range" p2) [a] [] pos2] [] pos) (wE Γ (.rg1 z t ea)) := by
  obtain ⟨s, ta, pa, ra⟩ := ha
  have pr : PRg X (.Call (.Name "range" p2) [a] [] pos2) (tRg1 ta) := prg_1 hr (blt_of k (by decide +kernel)) pa (star_no s [] _)
  have main : ∀ S (σ : St') σD H G Q QD XD, Hel X.K fnm clm S H G → SlotOk X.K fnm S H G σ σD → wE Γ (.rg1 z t ea) σD G QD XD → PostE X.K fnm clm S H G QD Q → PostX X.K fnm clm W σ S H G XD →
      tRg1 ta σ H fun i j H1 => RgOk i j ∧ rgO i j H1 Q t := fun S σ σD H G Q QD XD R sl h hQ hX => by
    refine ra S σ σD H G _ _ XD R sl h (fun v S1 H1 d G1 st1 R1 r1 h1 => ?_) hX
    cases d <;> try exact h1.elim
    cases dat_int r1
    exact ⟨_, rfl, rg_fin R1 h1 (hQ.step st1)⟩
  cases t with
  | true => subst hf; exact ⟨rfl, _, pe_tupRgP k.calm hg (blt_of k (by decide +kernel)) pr rfl, main⟩
  | false => subst hf; exact ⟨rfl, _, pe_listRg k.calm hg (blt_of k (by decide +kernel)) pr, main⟩
theorem je_rg2 (k : COk C fnm clm Γ N sc X W) {z t : Bool} {f : Str} {a b : Expr} {p p2 pos pos2 : Pos} {ea eb : E} (hf : (match t with | true => "tuple" | false => "list") = f) (hg : Gl X f) (hr : Gl X "range") (ha : JE fnm clm X W a (wE Γ ea)) (hb : JE fnm clm X W b (wE Γ eb)) :
    JE fnm clm X W (.Call (.Name f p) [.Call (.Name "range" p2) [a, b] [] pos2] [] pos) (wE Γ (.rg2 z t ea eb)) := by
  obtain ⟨s, ta, pa, ra⟩ := ha
  obtain ⟨s2, tb, pb, rb⟩ := hb
  have pr : PRg X (.Call (.Name "range" p2) [a, b] [] pos2) (tRg2 ta tb) := prg_2 hr (blt_of k (by decide +kernel)) pa pb (star_no s [b] _) (star_no s2 [] _) (star_all (es := [b]) (fun e he => by rw [List.mem_singleton] at he; rw [he]; exact s2) _ _)
  have main : ∀ S (σ : St') σD H G Q QD XD, Hel X.K fnm clm S H G → SlotOk X.K fnm S H G σ σD → wE Γ (.rg2 z t ea eb) σD G QD XD → PostE X.K fnm clm S H G QD Q → PostX X.K fnm clm W σ S H G XD →
      tRg2 ta tb σ H fun i j H1 => RgOk i j ∧ rgO i j H1 Q t := fun S σ σD H G Q QD XD R sl h hQ hX => by
    refine ref2 ra rb R sl h (fun v v' S' H' d d' G' st R' r1 r2 h' => ?_) hX
    cases d <;> cases d' <;> try exact h'.elim
    cases dat_int r1; cases dat_int r2
    exact ⟨_, _, rfl, rfl, rg_fin R' h' (hQ.step st)⟩
  cases t with
  | true => subst hf; exact ⟨rfl, _, pe_tupRgP k.calm hg (blt_of k (by decide +kernel)) pr rfl, main⟩
  | false => subst hf; exact ⟨rfl, _, pe_listRg k.calm hg (blt_of k (by decide +kernel)) pr, main⟩
/-! ### comprehensions -/
def canE (K : PySem.W.Frag) (fnm clm : Nat → Option Addr) (W : WX) (t : StD → HD → KD → KX → Prop) : TE := fun σ H Q => ∃ S σD G QD XD, Hel K fnm clm S H G ∧ SlotOk K fnm S H G σ σD ∧ t σD G QD XD ∧ PostE K fnm clm S H G QD Q ∧ PostX K fnm clm W σ S H G XD
def canT (K : PySem.W.Frag) (fnm clm : Nat → Option Addr) (W : WX) (t : StD → HD → (Bool → HD → Prop) → KX → Prop) : TT := fun σ H Q => ∃ S σD G QD XD, Hel K fnm clm S H G ∧ SlotOk K fnm S H G σ σD ∧ t σD G QD XD ∧ PostT K fnm clm S H G QD Q ∧ PostX K fnm clm W σ S H G XD
def canG (K : PySem.W.Frag) (fnm clm : Nat → Option Addr) (t : Tgt) : TG := fun v σ H Q => ∃ S σD G d σD', Hel K fnm clm S H G ∧ SlotOk K fnm S H G σ σD ∧ Dat K fnm S H G v d ∧ asg t d σD = some σD' ∧ ∀ σ', SlotOk K fnm S H G σ' σD' → (∀ vs, tIn t vs = true → wipe σ' vs = wipe σ vs) → Q σ' H
theorem JE.can {e : Expr} {t : StD → HD → KD → KX → Prop} (h : JE fnm clm X W e t) : PE X e (canE X.K fnm clm W t) := by
  obtain ⟨_, te, pe, re⟩ := h
  exact ⟨fun pins s σ H Q I ⟨S, σD, G, QD, XD, R, sl, h, hQ, hX⟩ => pe.run pins s σ H Q I (re S σ σD H G Q QD XD R sl h hQ hX)⟩
theorem JT.can {e : Expr} {t : StD → HD → (Bool → HD → Prop) → KX → Prop} (h : JT fnm clm X W e t) : PT X e (canT X.K fnm clm W t) := by
  obtain ⟨te, pe, re⟩ := h
  exact ⟨fun pins s σ H Q I ⟨S, σD, G, QD, XD, R, sl, h, hQ, hX⟩ => pe.run pins s σ H Q I (re S σ σD H G Q QD XD R sl h hQ hX)⟩
theorem JG.can {e : Expr} {t : Tgt} (h : JG fnm clm X e t) : PG X e (canG X.K fnm clm t) := by
  obtain ⟨g, pg, rg⟩ := h
  exact ⟨fun pins s σ H v u Q I r ⟨S, σD, G, d, σD', R, sl, rd, e, h⟩ => pg.run pins s σ H v u Q I r (rg S σ σD H G v d Q σD' R sl rd e h)⟩
abbrev W0 : WX := fun _ _ _ _ => False
theorem COk.blk (k : COk C fnm clm Γ N sc X W) (s : Shared) (H : Hp) (scope : Scope) (cl : List (Str × Addr)) (D : Addr) (fp : List Addr) : COk C fnm clm Γ N (relS scope sc) (X.blk s H scope (compEnvC scope cl D X.env) fp) W0 := by
  refine ⟨k.hN, k.nd, ?_, k.calm, takes0, PassesOwn.never, k.fnk, k.blt, k.gls, k.cls, k.grd, k.exm, k.ocs, k.isx⟩
  show relS scope X.env.scope = _
  rw [k.hsc]
theorem wipe_slots {K : PySem.W.Frag} {S : Addr → Option Bool} {H : Hp} {G : HD} {σ : St'} {σD : StD} (h : SlotOk K fnm S H G σ σD) : ∀ vs : List Nat, SlotOk K fnm S H G (wipe σ vs) (wipeD σD vs)
  | [] => h
  | v :: vs => (wipe_slots h vs).wipe1 v
end
end DL

namespace DL
open PySem PySem.Spec PyProof.Rows L2
section
variable {C : Cfg} {fnm clm : Nat → Option Addr} {Γ : Gam} {N : List Str} {sc : Scope} {X : Cx} {W : WX}
theorem wipe_idem {i : Nat} : ∀ {vs : List Nat} {σ : St'}, wipe (wipe σ vs) vs = wipe σ vs := by
  have out : ∀ {vs : List Nat} {σ : St'} (w : Nat), (wipe (σ.set w none) vs).set w none = (wipe σ vs).set w none := by
    intro vs
    induction vs with
    | nil => intro σ w; show (σ.set w none).set w none = _; rw [List.set_set]; rfl
    | cons v vs ih =>
      intro σ w
      show ((wipe (σ.set w none) vs).set v none).set w none = ((wipe σ vs).set v none).set w none
      by_cases e : v = w
      · subst e; rw [ih]
      · rw [List.set_comm _ _ e, ih w, List.set_comm _ _ (fun z => e z.symm)]
  intro vs
  induction vs with
  | nil => intro σ; rfl
  | cons v vs ih =>
    intro σ
    show (wipe ((wipe σ vs).set v none) vs).set v none = (wipe σ vs).set v none
    rw [out, ih]
abbrev lcStep (Γ : Gam) (g : Tgt) (c : T) (e : E) (σw : StD) : D → HD → (Option D → HD → Prop) → Prop := fun x H2 K => ok (asg g x σw) fun σ' =>
  wT Γ c σ' H2 (fun k H3 => match k with | true => wE Γ e σ' H3 (fun d H4 => K (some d) H4) (fun _ _ => False) | false => K none H3) (fun _ _ => False)
/-- the invariant of a comprehension -/
structure LcInv (K : PySem.W.Frag) (fnm clm : Nat → Option Addr) (S1 : Addr → Option Bool) (H1 : Hp) (G1 : HD) (D : Addr) (items : List DL.D) (P : List DL.D → List DL.D → HD → Prop) (i : Nat) (H : Hp) (S' : Addr → Option Bool) (G' : HD) (acc : List V) (accD : List DL.D) : Prop where
  at_ : H D = some (.lst acc)
  len : acc.length ≤ i
  res : S' D = some false
  st : Step S1 H1 G1 S' H G'
  R : Hel K fnm clm S' H G'
  dat : DatAll K fnm S' H G' acc accD
  go : P (items.drop i) accD G'
theorem lc_ref {z : Bool} {wi : TI} {it : I} {g : Tgt} {c : T} {e : E} {vs : List Nat} (ri : RefI X.K fnm clm W wi (wI Γ it)) (hin : tIn g vs = true) :
    RefE X.K fnm clm W (tLc wi (canG X.K fnm clm g) (canT X.K fnm clm W0 (wT Γ c)) (canE X.K fnm clm W0 (wE Γ e)) vs)
      (fun σ H Q X => wI Γ it σ H (fun items H1 => lcD (lcStep Γ g c e (wipeD σ vs)) (fun acc H2 => newL z acc H2 Q) items [] H1) X) := by
  intro S σ σD H G Q QD XD R sl h hQ hX
  refine ri S σ σD H G _ _ XD R sl h (fun J S1 H1 G1 items st1 R1 itk h1 => ?_) hX
  intro D hD
  have hD0 : H D = none := st1.there D hD
  have fr := R1.free hD
  let P : List DL.D → List DL.D → HD → Prop := fun xs acc H => lcD (lcStep Γ g c e (wipeD σD vs)) (fun acc H2 => newL z acc H2 QD) xs acc H
  refine ⟨fun i m H => m = items.length - i ∧ i ≤ items.length ∧ ∃ S' G' acc accD, LcInv X.K fnm clm S1 H1 G1 D items P i H S' G' acc accD,
    ⟨items.length, by omega, Nat.zero_le _, _, G1, [], [], upd_same, Nat.zero_le _, ?_, .reserve R1 hD, R1.reserve hD, .nil, h1⟩, ?_⟩
  · unfold resS; rw [if_pos rfl]
  · rintro i m H' ⟨rfl, hi, S', G', acc, accD, I⟩
    by_cases hlt : i < items.length
    · obtain ⟨x, hx⟩ : ∃ x, items[i]? = some x := ⟨items[i], List.getElem?_eq_getElem hlt⟩
      have hdrop : items.drop i = x :: items.drop (i + 1) := by
        rw [List.drop_eq_getElem_cons hlt]
        have : items[i] = x := by rw [List.getElem?_eq_getElem hlt] at hx; exact Option.some.inj hx
        rw [this]
      have hgo : ok (asg g x (wipeD σD vs)) fun σ' => wT Γ c σ' G' (fun k H3 => match k with
          | true => wE Γ e σ' H3 (fun d H4 => P (items.drop (i + 1)) (accD ++ [d]) H4) (fun _ _ => False)
          | false => P (items.drop (i + 1)) accD H3) (fun _ _ => False) := by
        have := I.go
        rw [hdrop] at this
        exact this
      obtain ⟨σD', ea, h2⟩ := ok_of hgo
      obtain ⟨go1, go2⟩ := itk.go S' H' G' I.st I.R i x hx
      refine .inr ⟨go1, fun H'' => ∃ S'' G'' acc' accD', LcInv X.K fnm clm S1 H1 G1 D items P (i + 1) H'' S'' G'' acc' accD', fun H'' w => ⟨items.length - (i + 1), by omega, rfl, hlt, w⟩, fun v H'' y => ?_⟩
      obtain ⟨st2, R2, rv⟩ := go2 v H'' y
      have stS : Step S H G S' H'' G' := (st1.trans I.st).trans st2
      refine ⟨S', wipeD σD vs, G', x, σD', R2, wipe_slots (sl.step R stS) vs, rv, ea, fun σ' sl' wp => ⟨?_, ?_⟩⟩
      · rw [wp vs hin, wipe_idem (i := 0)]
      · have hres : G' D = none := (R2.res D I.res).1
        have hat : H'' D = some (.lst acc) := st2.stay D _ I.at_ hres (by rw [I.res]; simp)
        refine ⟨S', σD', G', _, fun _ _ => False, R2, sl', h2, fun b S3 H3 G3 st3 R3 h3 => ?_, fun _ _ _ _ _ _ _ _ hf => hf⟩
        have hat3 : H3 D = some (.lst acc) := st3.stay D _ hat hres (by rw [I.res]; simp)
        have hres3 : S3 D = some false := st3.strm D _ I.res
        cases b with
        | true =>
          refine ⟨S3, σD', G3, _, fun _ _ => False, R3, sl'.step R2 st3, h3, fun w S4 H4 d G4 st4 R4 r4 h4 => ?_, fun _ _ _ _ _ _ _ _ hf => hf⟩
          have hat4 : H4 D = some (.lst acc) := st4.stay D _ hat3 (R3.res D hres3).1 (by rw [hres3]; simp)
          have hres4 : S4 D = some false := st4.strm D _ hres3
          have ka := Keep.change (o := .lst (acc ++ [w])) (G := G4) hat4 hres4
          refine ⟨acc, hat4, Nat.lt_of_le_of_lt I.len (Nat.lt_of_lt_of_le hlt itk.len), S4, G4, acc ++ [w], accD ++ [d], upd_same, ?_, hres4, ?_, R4.change hat4 hres4, ?_, h4⟩
          · rw [List.length_append]; have := I.len; simp; omega
          · exact (((I.st.trans st2).trans st3).trans st4).change hD
          · exact (((((I.dat.step I.R st2).step R2 st3).step R3 st4)).keep ka).append (.cons (r4.keep ka) .nil)
        | false =>
          exact ⟨S3, G3, acc, accD, hat3, Nat.le_succ_of_le I.len, hres3, (I.st.trans st2).trans st3, R3, (I.dat.step I.R st2).step R2 st3, h3⟩
    · have ei : i = items.length := by omega
      subst ei
      have hgo : newL z accD G' QD := by
        have := I.go
        rw [List.drop_length] at this
        exact this
      refine .inl ⟨itk.stop S' H' G' I.st I.R, ?_⟩
      have hz : acc.length ≤ sizeLine := Nat.le_trans I.len itk.len
      have sS : S D = none := (R.free hD0).2
      have gD : G' D = none := (I.R.res D I.res).1
      cases z with
      | true =>
        obtain ⟨k1, k2⟩ := I.R.letOut I.res
        exact hQ _ _ H' _ G' ((st1.trans I.st).letOut sS) k2 (.lst I.at_ gD (by unfold unS; rw [if_pos rfl]) hz (I.dat.keep k1)) hgo
      | false =>
        exact hQ _ _ H' _ _ ((st1.trans I.st).track sS hD0) (I.R.track I.at_ I.res hz I.dat) (.ref D) (hgo D gD)
theorem je_lc (k : COk C fnm clm Γ N sc X W) {z : Bool} {elt tg iter : Expr} {ifs : List Expr} {scope : Scope} {own : List (Str × Nat)} {pos : Pos} {e : E} {g : Tgt} {it : I} {c : T}
    (hok : BlkOk N sc scope own) (hset : ∀ elts kk p, iter ≠ .Set elts kk p) (hin : tIn g (own.map (·.2)) = true) (hi : JI fnm clm X W tg iter (wI Γ it))
    (hg : ∀ X', COk C fnm clm Γ N (relS scope sc) X' W0 → (X'.fn = fun x => scope.names.lookup x == some .cell) → X'.K = X.K → JG fnm clm X' tg g)
    (ht : ∀ X', COk C fnm clm Γ N (relS scope sc) X' W0 → X'.K = X.K → (ifs = [] ∧ c = .yes) ∨ ∃ cd, ifs = [cd] ∧ JT fnm clm X' W0 cd (wT Γ c))
    (he : ∀ X', COk C fnm clm Γ N (relS scope sc) X' W0 → X'.K = X.K → JE fnm clm X' W0 elt (wE Γ e)) :
    JE fnm clm X W (.ListComp elt [⟨tg, iter, ifs, 0⟩] scope pos) (wE Γ (.lc z e g it c own)) := by
  obtain ⟨wi, pi, ri⟩ := hi
  refine ⟨rfl, _, pe_lc (g := canG X.K fnm clm g) (tt := canT X.K fnm clm W0 (wT Γ c)) (te := canE X.K fnm clm W0 (wE Γ e)) k.calm (by rw [k.hN]; exact k.nd) pi (by rw [k.hN, k.hsc]; exact hok) (fun s H C' cl fp => (hg _ (k.blk s H scope cl C' fp) rfl rfl).can)
    (fun s H C' cl fp => ?_) (fun s H C' cl fp => (he _ (k.blk s H scope cl C' fp) rfl).can) ?_, lc_ref ri hin⟩
  · rcases ht _ (k.blk s H scope cl C' fp) rfl with ⟨rfl, rfl⟩ | ⟨cd, rfl, h⟩
    · refine ⟨fun pins s σ H Q I ⟨S, σD, G, QD, XD, R, sl, h, hQ, hX⟩ => pts_nil.run pins s σ H Q I (hQ true S H G .refl R h)⟩
    · exact pts_one h.can
  · intro x
    cases iter <;> first | rfl | exact absurd rfl (hset _ _ _)
end
end DL

namespace DL
open PySem PySem.Spec PyProof.Rows L2
/-! ### len({k: v for ..}) -/
section
variable {K : PySem.W.Frag} {fnm clm : Nat → Option Addr} {S : Addr → Option Bool} {H : Hp} {G : HD}
theorem Keep.changeD {p : Addr} {o : HO} {kvs : List (Key × V)} (h : H p = some (.dK kvs)) (s : S p = some false) : Keep S H G S (upd H p o) G := by
  refine ⟨fun a u e g s' => ⟨by rw [upd_ne (fun z => by rw [z, s] at s'; cases s')]; exact e, g, s'⟩, fun a ws e => ?_, fun a u w e => ?_, fun _ h => h⟩
  · rw [upd_ne (fun z => by rw [z, h] at e; cases e)]; exact e
  · rw [upd_ne (fun z => by rw [z, h] at e; cases e)]; exact e
theorem Hel.changeD (R : Hel K fnm clm S H G) {p : Addr} {o : HO} {kvs : List (Key × V)} (h : H p = some (.dK kvs)) (s : S p = some false) : Hel K fnm clm S (upd H p o) G := by
  have k : Keep S H G S (upd H p o) G := Keep.changeD h s
  refine ⟨fun a c e => (R.cell a c e).keep k (upd_ne fun z => by rw [z, (R.res p s).1] at e; cases e), fun a e => ?_, fun a e => ?_⟩
  · obtain ⟨g, q, ns, x, k', m, h1, h2, h3, h4, h5⟩ := R.rnd a e
    have n1 : a ≠ p := fun z => by rw [z, s] at e; cases e
    have n2 : q ≠ p := fun z => by rw [z, h] at h2; cases h2
    exact ⟨g, q, ns, x, k', m, by rw [upd_ne n1]; exact h1, by rw [upd_ne n2]; exact h2, h3, h4, h5⟩
  · obtain ⟨g, q⟩ := R.res a e
    refine ⟨g, ?_⟩
    by_cases z : a = p
    · subst z; rw [upd_same]; simp
    · rw [upd_ne z]; exact q
theorem key_dat {v : V} {d : D} {k : Key} (r : Dat K fnm S H G v d) (e : keyD d = some k) : v = kV k := by
  cases r <;> simp only [keyD] at e <;> first | cases e | skip
  all_goals rfl
end
theorem keys_putK (k : Key) (z : V) (kvs : List (Key × V)) : (putK kvs k z).map (·.1) = insK (kvs.map (·.1)) k := by
  unfold putK insK
  rw [List.any_map]
  show List.map _ (if (kvs.any fun kv => decide (kv.1 = k)) = true then _ else _) = if (kvs.any fun kv => decide (kv.1 = k)) = true then _ else _
  by_cases h : (kvs.any fun kv => decide (kv.1 = k)) = true
  · rw [if_pos h, if_pos h, List.map_map]
    apply List.map_congr_left
    intro p _
    show (if p.1 = k then (p.1, z) else p).1 = p.1
    split <;> rfl
  · rw [if_neg h, if_neg h, List.map_append]; rfl
section
variable {C : Cfg} {fnm clm : Nat → Option Addr} {Γ : Gam} {N : List Str} {sc : Scope} {X : Cx} {W : WX}
abbrev dcStep (Γ : Gam) (g : Tgt) (c : T) (e v : E) (σw : StD) : D → HD → (Option Key → HD → Prop) → Prop := fun x H2 K => ok (asg g x σw) fun σ' =>
  wT Γ c σ' H2 (fun k H3 => match k with | true => wE Γ e σ' H3 (fun d H4 => wE Γ v σ' H4 (fun _ H5 => ok (keyD d) fun k => K (some k) H5) (fun _ _ => False)) (fun _ _ => False) | false => K none H3) (fun _ _ => False)
structure DcInv (K : PySem.W.Frag) (fnm clm : Nat → Option Addr) (S1 : Addr → Option Bool) (H1 : Hp) (G1 : HD) (D : Addr) (items : List DL.D) (P : List DL.D → List Key → HD → Prop) (i : Nat) (H : Hp) (S' : Addr → Option Bool) (G' : HD) (acc : List (Key × V)) : Prop where
  at_ : H D = some (.dK acc)
  len : acc.length ≤ i
  res : S' D = some false
  st : Step S1 H1 G1 S' H G'
  R : Hel K fnm clm S' H G'
  go : P (items.drop i) (acc.map (·.1)) G'
theorem dc_ref {wi : TI} {it : I} {g : Tgt} {c : T} {e v : E} {vs : List Nat} (ri : RefI X.K fnm clm W wi (wI Γ it)) (hin : tIn g vs = true) :
    RefE X.K fnm clm W (fun σ H Q => tDc wi (canG X.K fnm clm g) (canT X.K fnm clm W0 (wT Γ c)) (canE X.K fnm clm W0 (wE Γ e)) (canE X.K fnm clm W0 (wE Γ v)) vs σ H fun x H1 => ∃ a kvs, [x] = [V.ref a] ∧ H1 a = some (.dK kvs) ∧ Q (.int kvs.length) H1)
      (fun σ H Q X => wI Γ it σ H (fun items H1 => dcD (dcStep Γ g c e v (wipeD σ vs)) (fun acc H2 => Q (.int (acc.length : Nat)) H2) items [] H1) X) := by
  intro S σ σD H G Q QD XD R sl h hQ hX
  refine ri S σ σD H G _ _ XD R sl h (fun J S1 H1 G1 items st1 R1 itk h1 => ?_) hX
  intro D hD
  have hD0 : H D = none := st1.there D hD
  let P : List DL.D → List Key → HD → Prop := fun xs acc H => dcD (dcStep Γ g c e v (wipeD σD vs)) (fun acc H2 => QD (.int (acc.length : Nat)) H2) xs acc H
  refine ⟨fun i m H => m = items.length - i ∧ i ≤ items.length ∧ ∃ S' G' acc, DcInv X.K fnm clm S1 H1 G1 D items P i H S' G' acc,
    ⟨items.length, by omega, Nat.zero_le _, _, G1, [], upd_same, Nat.zero_le _, ?_, .reserve R1 hD, R1.reserve hD, h1⟩, ?_⟩
  · unfold resS; rw [if_pos rfl]
  · rintro i m H' ⟨rfl, hi, S', G', acc, I⟩
    by_cases hlt : i < items.length
    · obtain ⟨x, hx⟩ : ∃ x, items[i]? = some x := ⟨items[i], List.getElem?_eq_getElem hlt⟩
      have hdrop : items.drop i = x :: items.drop (i + 1) := by
        rw [List.drop_eq_getElem_cons hlt]
        have : items[i] = x := by rw [List.getElem?_eq_getElem hlt] at hx; exact Option.some.inj hx
        rw [this]
      have hgo : ok (asg g x (wipeD σD vs)) fun σ' => wT Γ c σ' G' (fun k H3 => match k with
          | true => wE Γ e σ' H3 (fun d H4 => wE Γ v σ' H4 (fun _ H5 => ok (keyD d) fun k => P (items.drop (i + 1)) (insK (acc.map (·.1)) k) H5) (fun _ _ => False)) (fun _ _ => False)
          | false => P (items.drop (i + 1)) (acc.map (·.1)) H3) (fun _ _ => False) := by
        have := I.go
        rw [hdrop] at this
        exact this
      obtain ⟨σD', ea, h2⟩ := ok_of hgo
      obtain ⟨go1, go2⟩ := itk.go S' H' G' I.st I.R i x hx
      refine .inr ⟨go1, fun H'' => ∃ S'' G'' acc', DcInv X.K fnm clm S1 H1 G1 D items P (i + 1) H'' S'' G'' acc', fun H'' w => ⟨items.length - (i + 1), by omega, rfl, hlt, w⟩, fun u H'' y => ?_⟩
      obtain ⟨st2, R2, rv⟩ := go2 u H'' y
      have stS : Step S H G S' H'' G' := (st1.trans I.st).trans st2
      refine ⟨S', wipeD σD vs, G', x, σD', R2, wipe_slots (sl.step R stS) vs, rv, ea, fun σ' sl' wp => ⟨?_, ?_⟩⟩
      · rw [wp vs hin, wipe_idem (i := 0)]
      · have hres : G' D = none := (R2.res D I.res).1
        have hat : H'' D = some (.dK acc) := st2.stay D _ I.at_ hres (by rw [I.res]; simp)
        refine ⟨S', σD', G', _, fun _ _ => False, R2, sl', h2, fun b S3 H3 G3 st3 R3 h3 => ?_, fun _ _ _ _ _ _ _ _ hf => hf⟩
        have hat3 : H3 D = some (.dK acc) := st3.stay D _ hat hres (by rw [I.res]; simp)
        have hres3 : S3 D = some false := st3.strm D _ I.res
        cases b with
        | true =>
          refine ⟨S3, σD', G3, _, fun _ _ => False, R3, sl'.step R2 st3, h3, fun w S4 H4 d G4 st4 R4 r4 h4 => ?_, fun _ _ _ _ _ _ _ _ hf => hf⟩
          have hat4 : H4 D = some (.dK acc) := st4.stay D _ hat3 (R3.res D hres3).1 (by rw [hres3]; simp)
          have hres4 : S4 D = some false := st4.strm D _ hres3
          refine ⟨S4, σD', G4, _, fun _ _ => False, R4, (sl'.step R2 st3).step R3 st4, h4, fun w2 S5 H5 d2 G5 st5 R5 r5 h5 => ?_, fun _ _ _ _ _ _ _ _ hf => hf⟩
          have hat5 : H5 D = some (.dK acc) := st5.stay D _ hat4 (R4.res D hres4).1 (by rw [hres4]; simp)
          have hres5 : S5 D = some false := st5.strm D _ hres4
          obtain ⟨k, ek, h6⟩ := ok_of h5
          refine ⟨acc, k, key_dat r4 ek, hat5, Nat.lt_of_le_of_lt I.len (Nat.lt_of_lt_of_le hlt itk.len), S5, G5, putK acc k w2, upd_same, ?_, hres5, ?_, R5.changeD hat5 hres5, ?_⟩
          · have := length_putK acc k w2; have := I.len; omega
          · exact ((((I.st.trans st2).trans st3).trans st4).trans st5).change hD
          · rw [keys_putK]; exact h6
        | false =>
          exact ⟨S3, G3, acc, hat3, Nat.le_succ_of_le I.len, hres3, (I.st.trans st2).trans st3, R3, h3⟩
    · have ei : i = items.length := by omega
      subst ei
      have hgo : QD (.int ((acc.map (·.1)).length : Nat)) G' := by
        have := I.go
        rw [List.drop_length] at this
        exact this
      rw [List.length_map] at hgo
      refine .inl ⟨itk.stop S' H' G' I.st I.R, ?_⟩
      have sS : S D = none := (R.free hD0).2
      obtain ⟨k1, k2⟩ := I.R.letOut I.res
      exact ⟨D, acc, rfl, I.at_, hQ _ _ H' _ G' ((st1.trans I.st).letOut sS) k2 (.int _) hgo⟩
theorem je_dlen (k : COk C fnm clm Γ N sc X W) {kx vx tg iter : Expr} {ifs : List Expr} {scope : Scope} {own : List (Str × Nat)} {p pos cpos : Pos} {e v : E} {g : Tgt} {it : I} {c : T}
    (hgl : Gl X "len") (hok : BlkOk N sc scope own) (hset : ∀ elts kk p, iter ≠ .Set elts kk p) (hin : tIn g (own.map (·.2)) = true) (hi : JI fnm clm X W tg iter (wI Γ it))
    (hg : ∀ X', COk C fnm clm Γ N (relS scope sc) X' W0 → (X'.fn = fun x => scope.names.lookup x == some .cell) → X'.K = X.K → JG fnm clm X' tg g)
    (ht : ∀ X', COk C fnm clm Γ N (relS scope sc) X' W0 → X'.K = X.K → (ifs = [] ∧ c = .yes) ∨ ∃ cd, ifs = [cd] ∧ JT fnm clm X' W0 cd (wT Γ c))
    (he : ∀ X', COk C fnm clm Γ N (relS scope sc) X' W0 → X'.K = X.K → JE fnm clm X' W0 kx (wE Γ e))
    (hv : ∀ X', COk C fnm clm Γ N (relS scope sc) X' W0 → X'.K = X.K → JE fnm clm X' W0 vx (wE Γ v)) :
    JE fnm clm X W (.Call (.Name "len" p) [.DictComp kx vx [⟨tg, iter, ifs, 0⟩] scope pos] [] cpos) (wE Γ (.dlen e v g it c own)) := by
  obtain ⟨wi, pi, ri⟩ := hi
  have pe := pe_dc (ifs := ifs) (pos := pos) (g := canG X.K fnm clm g) (tt := canT X.K fnm clm W0 (wT Γ c)) (tk := canE X.K fnm clm W0 (wE Γ e)) (tv := canE X.K fnm clm W0 (wE Γ v)) k.calm (by rw [k.hN]; exact k.nd) pi (by rw [k.hN, k.hsc]; exact hok) (fun s H C' cl fp => (hg _ (k.blk s H scope cl C' fp) rfl rfl).can)
    (fun s H C' cl fp => by
      rcases ht _ (k.blk s H scope cl C' fp) rfl with ⟨rfl, rfl⟩ | ⟨cd, rfl, h⟩
      · exact ⟨fun pins s σ H Q I ⟨S, σD, G, QD, XD, R, sl, h, hQ, hX⟩ => pts_nil.run pins s σ H Q I (hQ true S H G .refl R h)⟩
      · exact pts_one h.can) (fun s H C' cl fp => (he _ (k.blk s H scope cl C' fp) rfl).can) (fun s H C' cl fp => (hv _ (k.blk s H scope cl C' fp) rfl).can)
    (by intro x; cases iter <;> first | rfl | exact absurd rfl (hset _ _ _))
  obtain ⟨b1, b2, b3⟩ := bf_names .len
  obtain ⟨n1, n2, n3⟩ := name_debug b2
  have pa := pa_cons pe pa_nil (star_no rfl [] X.env)
  have pc := pe_callB (pos := cpos) (p := p) (call_lenD (X := X)) hgl (blt_of k b1) b3 pa n3 n1 (star_no rfl [] X.env) rfl
  refine ⟨rfl, _, pc, fun S σ σD H G Q QD XD R sl h hQ hX => ?_⟩
  exact dc_ref (W := W) ri hin S σ σD H G Q QD XD R sl h hQ hX
end
end DL

namespace DL
open PySem PySem.Spec PyProof.Rows L2
/-! ### repr(x), where no repr runs -/
section
variable {X : Cx}
theorem call_rep (hg : X.A.guards = some []) (hu : X.A.units + 70 < cLine) : CallR X (.builtin "repr") (fun xs H Q => ∃ v d, xs = [v] ∧ Dp X.K H v d ∧ d.canLay0 = true ∧ d.showable = true ∧ d.depth ≤ 64 ∧ d.shown.length ≤ sizeLine ∧ Q (.str d.shown) H) := by
  intro pins s σ H xs us Q I r ⟨v, d, ex, hd, hc, hs, hp, hz, q⟩
  subst ex
  obtain ⟨u, eu, rx⟩ := vals1 r
  subst eu
  obtain ⟨as, rd⟩ := Dp.reads I d v u hd rx
  have big : ∀ {a : Addr}, Reads s.heap (.ref a) d as → wpAny (model X.prog X.w) X.A (call (.builtin "repr") [.ref a]) (EP X pins σ Q) X.xe s := fun {a} rd =>
    repr_of_reads' rd hs (PyData.noDict_hsm (PyData.hasDict_of_canLay d hc)) hg (by omega) (fun _ _ e => e) (fun h' u tk hk => ⟨.str _, H, I.kept hk, ⟨u, rfl⟩, q⟩) hz
  cases rd with
  | none => exact PySem.P.repr_of_none ⟨.str _, H, I.tok _, ⟨_, rfl⟩, by simpa only [PyData.shown] using q⟩
  | bool b => exact PySem.P.repr_of_bool ⟨.str _, H, I.tok _, ⟨_, rfl⟩, by simpa only [PyData.shown] using q⟩
  | int i t => exact PySem.P.repr_of_int (by simpa [PyData.showable] using hs) ⟨.str _, H, I.tok _, ⟨_, rfl⟩, by simpa only [PyData.shown] using q⟩
  | str x t => exact PySem.P.repr_of_str ⟨.str _, H, I.tok _, ⟨_, rfl⟩, by simpa only [PyData.shown] using q⟩ (by simpa only [PyData.shown] using hz)
  | list h1 h2 h3 h4 => exact big (.list h1 h2 h3 h4)
  | tuple h1 h2 h3 h4 => exact big (.tuple h1 h2 h3 h4)
  | dict h1 h2 h3 h4 h5 => exact big (.dict h1 h2 h3 h4 h5)
end
section
variable {C : Cfg} {fnm clm : Nat → Option Addr} {Γ : Gam} {N : List Str} {sc : Scope} {X : Cx} {W : WX}
theorem je_rep (k : COk C fnm clm Γ N sc X W) {e : Expr} {p pos : Pos} {ee : E} (hr : C.rp = true) (hg : Gl X "repr") (h : JE fnm clm X W e (wE Γ ee)) : JE fnm clm X W (.Call (.Name "repr" p) [e] [] pos) (wE Γ (.rep ee)) := by
  obtain ⟨ss, ta, pa, ra⟩ := h
  obtain ⟨m, hroom, _⟩ := k.fnk
  have hu : X.A.units + 70 < cLine := by have := hroom.r.un; omega
  refine ⟨rfl, _, pe_callB (call_rep (k.grd hr) hu) hg (blt_of k (by decide +kernel)) (by decide +kernel) (pa_cons pa pa_nil (star_no ss _ _)) (by decide) (by decide) (star_no ss _ _) rfl, fun S σ σD H G Q QD XD R sl h hQ hX => ?_⟩
  refine ra S σ σD H G _ _ XD R sl h (fun v S1 H1 d G1 st1 R1 r1 h1 => ?_) hX
  obtain ⟨p, e1, h2⟩ := ok_of h1
  obtain ⟨⟨a1, a2, a3, a4⟩, q⟩ := h2
  obtain ⟨k1, k2⟩ := dpT_of R1 r1 e1
  have em := mkStr_of p.shown
  have r2 : Dat X.K fnm S1 H1 G1 (.str (mkStr p.shown.cps.toList)) (.str p.shown.cps.toList) := .str _ (by rw [em]; exact a4) (by rw [lim_eq]; exact a3)
  rw [em] at r2
  exact ⟨v, p, rfl, k1, k2, a1, a2, by rw [lim_eq]; exact a3, (hQ.step st1).here R1 r2 q⟩
end
end DL

namespace DL
open PySem PySem.Spec PyProof.Rows L2
/-! ### dict(a tuple of pairs)[k] -/
section
variable {X : Cx}
theorem SqP.plain {pins : List (Addr × Obj)} {σ : L2.St} {H : Hp} {s : Shared} (I : Inv X pins σ H s) {a : Addr} {xs : List V} (h : SqP X.K H a xs) : ∃ its : List Value, Vals xs its ∧ PlainSeq "tuple" s.heap a its.toArray := by
  rcases h with ⟨ob, e, hd⟩ | ⟨ob, arr, m, e1, e2, e3, e4, _, e6⟩
  · obtain ⟨got, _, its, rv, o', e', hc, n, hdat⟩ := I.hok a _ e
    rw [got] at e'
    cases e'
    exact ⟨its, rv, ob, n, got, hc, hd, hdat⟩
  · exact ⟨arr.toList, e6, ob, m, I.kIn a ob e1, e2, e3, by rw [e4, Array.toArray_toList]⟩
theorem pairs2 {pins : List (Addr × Obj)} {σ : L2.St} {H : Hp} {s : Shared} (I : Inv X pins σ H s) : ∀ {ps : List Addr} {kvs : List (Key × V)}, Paired (fun p kv => SqT X.K H p [kV kv.1, kv.2]) ps kvs →
    ∃ (vps : List (Value × Value)) (prs : List (Key × Value)), KV kvs prs ∧ vps.length = ps.length ∧ prs.length = ps.length ∧
      ∀ (j : Nat) (u v : Value), vps[j]? = some (u, v) → ∃ (b : Addr) (k : Key), ps[j]? = some b ∧ IsTup s.heap b #[u, v] ∧ prs[j]? = some (k, v) ∧ keyIs k u = true := by
  intro ps kvs h
  induction h with
  | nil => exact ⟨[], [], .nil, rfl, rfl, fun j u v e => by simp at e⟩
  | cons h t ih =>
    rename_i p kv ps kvs
    obtain ⟨vps, prs, r, l1, l2, each⟩ := ih
    obtain ⟨its, rv, ht, _⟩ := I.tuple h
    obtain ⟨u, y, e, ru, ry⟩ := vals2 rv
    subst e
    refine ⟨(u, y) :: vps, (kv.1, y) :: prs, .cons ⟨rfl, ry⟩ r, by simp [l1], by simp [l2], fun j a b e => ?_⟩
    cases j with
    | zero =>
      obtain ⟨rfl, rfl⟩ := Prod.mk.inj (Option.some.inj e)
      exact ⟨p, kv.1, rfl, ht, rfl, kV_is (P := X.prog) (w := X.w) ru⟩
    | succ j => exact each j a b (by simpa using e)
/-- dict(t), t a tuple of pairs -/
theorem call_dictT (hcalm : X.calm = true) : CallR X (.type "dict") (fun xs H Q => ∃ (a : Addr) (ps : List Addr) (kvs : List (Key × V)), xs = [.ref a] ∧ SqP X.K H a (ps.map V.ref) ∧ Paired (fun p kv => SqT X.K H p [kV kv.1, kv.2]) ps kvs ∧ ps.length ≤ sizeLine ∧
    ∀ p, H p = none → Q (.ref p) (upd H p (.dK (mergeK [] kvs)))) := by
  rintro pins s σ H xs us Q I r ⟨a, ps, kvs, ex, hq, hp, hz, go⟩
  subst ex
  obtain ⟨u, eu, rx⟩ := vals1 r
  subst eu
  obtain rfl : u = .ref a := rx
  obtain ⟨its, rv, pl⟩ := hq.plain I
  have e1 := refs_at rv
  subst e1
  obtain ⟨vps, prs, rel, l1, l2, each⟩ := pairs2 I hp
  have items : PairItems s.heap (ps.map Value.ref).toArray (fun j => ps.getD j 0) vps := by
    refine ⟨by simp [l1], fun j k v e => ?_⟩
    obtain ⟨b, kk, h1, h2, _⟩ := each j k v e
    have hj : ps.getD j 0 = b := by rw [List.getD_eq_getElem?_getD, h1]; rfl
    simp only [hj]
    exact ⟨by simp [h1], .inl h2⟩
  refine PySem.call_dict_pairs (knd := mixKind X.prog X.w) (kvs := prs) (PairArg.tuple (prog := X.prog) (w := X.w) a (ps.map Value.ref).toArray (fun j => ps.getD j 0) vps) (I.ok.hd hcalm) ⟨pl, items⟩ ⟨by rw [l2, l1], fun j k v e => ?_⟩ (by rw [l1]; exact hz) fun h' tk hd' keep => ?_
  · obtain ⟨b, kk, _, _, h3, h4⟩ := each j k v e
    exact ⟨kk, h3, h4⟩
  · have notSys : (s.heap.objs.size == sysModules) = false := beq_eq_false_iff_ne.mpr (Nat.ne_of_gt I.big)
    have short : (mergeK [] kvs).length ≤ sizeLine := by
      have q1 := length_mergeK kvs []
      have q2 := rel.length
      simp at q1
      omega
    refine ⟨.ref s.heap.objs.size, upd H s.heap.objs.size (.dK (mergeK [] kvs)), I.laid (t' := tk) (fun b o e => keep b o (by simp) e) (Nat.le_refl _) ?_, rfl, go _ (I.hok.fresh (Nat.le_refl _))⟩
    exact ⟨short, notSys, merged [] prs, KV.merge rel .nil, hd'⟩
end
theorem merge_new : ∀ (more acc : List (Key × V)), ((acc ++ more).map Prod.fst).Nodup → mergeK acc more = acc ++ more
  | [], acc, _ => by rw [List.append_nil]; rfl
  | kv :: more, acc, h => by
    have hk : (acc.any fun x => decide (x.1 = kv.1)) = false := by
      rw [List.any_eq_false]
      intro x hx hq
      rw [List.map_append, List.map_cons] at h
      have hd := (List.nodup_append.mp h).2.2 x.1 (List.mem_map_of_mem hx) kv.1 List.mem_cons_self
      exact hd (of_decide_eq_true hq)
    show mergeK (putK acc kv.1 kv.2) more = _
    have e : putK acc kv.1 kv.2 = acc ++ [kv] := by
      unfold putK
      rw [hk]
      rfl
    rw [e, merge_new more (acc ++ [kv]) (by rw [List.append_assoc]; exact h), List.append_assoc]
    rfl
theorem find_new {α : Type} : ∀ {kvs : List (Key × α)} {j : Nat} {k : Key} {w : α}, (kvs.map Prod.fst).Nodup → kvs[j]? = some (k, w) → (kvs.find? fun kv => decide (kv.1 = k)) = some (k, w)
  | [], j, k, w, _, e => by simp at e
  | kv :: kvs, 0, k, w, _, e => by
    obtain rfl := Option.some.inj e
    rw [List.find?_cons_of_pos (by simp)]
  | kv :: kvs, j + 1, k, w, h, e => by
    rw [List.map_cons, List.nodup_cons] at h
    have e : kvs[j]? = some (k, w) := by simpa using e
    have hne : kv.1 ≠ k := fun z => h.1 (by rw [z]; exact List.mem_map.mpr ⟨(k, w), List.mem_of_getElem? e, rfl⟩)
    rw [List.find?_cons_of_neg (by simpa using hne)]
    exact find_new h.2 e
section
variable {K : PySem.W.Frag} {fnm clm : Nat → Option Addr} {S : Addr → Option Bool} {H : Hp} {G : HD}
theorem prs_of : ∀ {vs : List V} {ds : List D} {ps : List (List Nat × D)}, DatAll K fnm S H G vs ds → prsD ds = some ps →
    ∃ (as : List Addr) (kvs : List (Key × V)), vs = as.map V.ref ∧ Paired (fun p kv => SqT K H p [kV kv.1, kv.2]) as kvs ∧ kvs.map Prod.fst = ps.map (fun p => (Sum.inr (mkStr p.1) : Key)) ∧
      ∀ (j : Nat) (p : List Nat × D), ps[j]? = some p → ∃ w, kvs[j]? = some (Sum.inr (mkStr p.1), w) ∧ Dat K fnm S H G w p.2
  | _, [], ps, .nil, e => by
    cases e
    exact ⟨[], [], rfl, .nil, rfl, fun j p e => by simp at e⟩
  | _, d :: ds, ps, .cons (v := v) (vs := vs) r t, e => by
    have hd : ∃ s x qs, d = .tup [.str s, x] ∧ prsD ds = some qs ∧ ps = (s, x) :: qs := by
      unfold prsD at e
      split at e
      · rename_i h; cases h
      · rename_i s x ds' h
        obtain ⟨rfl, rfl⟩ := List.cons.inj h
        cases q : prsD ds with
        | none => rw [q] at e; cases e
        | some qs => rw [q] at e; exact ⟨s, x, qs, rfl, rfl, (Option.some.inj e).symm⟩
      · cases e
    obtain ⟨s, x, qs, rfl, e2, rfl⟩ := hd
    obtain ⟨as, kvs, h1, h2, h3, h4⟩ := prs_of t e2
    obtain ⟨a, us, rfl, hq, _, ru⟩ := dat_tup r
    obtain ⟨v1, v2, rfl, r1, r2⟩ : ∃ v1 v2, us = [v1, v2] ∧ Dat K fnm S H G v1 (.str s) ∧ Dat K fnm S H G v2 x := by
      cases ru with
      | cons r1 t1 =>
        cases t1 with
        | cons r2 t2 => cases t2; exact ⟨_, _, rfl, r1, r2⟩
    obtain ⟨rfl, _, _⟩ := dat_str r1
    refine ⟨a :: as, (Sum.inr (mkStr s), v2) :: kvs, by rw [h1]; rfl, .cons hq h2, by simp [h3], fun j p e => ?_⟩
    cases j with
    | zero =>
      obtain rfl := Option.some.inj e
      exact ⟨v2, rfl, r2⟩
    | succ j => exact h4 j p (by simpa using e)
end
section
variable {C : Cfg} {fnm clm : Nat → Option Addr} {Γ : Gam} {N : List Str} {sc : Scope} {X : Cx} {W : WX}
theorem noSl {b : Expr} (h : isSlice b = false) : NoSl b := by
  unfold NoSl
  cases b <;> first | trivial | (intros; rfl) | cases h
theorem je_dix (k : COk C fnm clm Γ N sc X W) {a b : Expr} {p p2 pos : Pos} {ea eb : E} (hg : Gl X "dict") (hs : isSlice b = false) (ha : JE fnm clm X W a (wE Γ ea)) (hb : JE fnm clm X W b (wE Γ eb)) :
    JE fnm clm X W (.Subscript (.Call (.Name "dict" p) [a] [] p2) b pos) (wE Γ (.dix ea eb)) := by
  obtain ⟨ss, ta, pa, ra⟩ := ha
  obtain ⟨_, tb, pb, rb⟩ := hb
  have hu : X.A.units + 1 < cLine := by have := k.hu; omega
  have pd : PE X (.Call (.Name "dict" p) [a] [] p2) _ := pe_callTy (call_dictT k.calm) hg (blt_of k (by decide +kernel)) (by decide +kernel) (pa_cons pa pa_nil (star_no ss _ _)) (by decide) (by decide) (star_no ss _ _) rfl
  refine ⟨rfl, _, pe_dget hu pd pb (noSl hs), fun S σ σD H G Q QD XD R sl h hQ hX => ?_⟩
  refine ra S σ σD H G _ _ XD R sl h (fun v S1 H1 d G1 st1 R1 r1 h1 => ?_) hX
  obtain ⟨ps, e1, h2⟩ := ok_of h1
  obtain ⟨ds, rfl, e2, nd⟩ : ∃ ds, d = .tup ds ∧ prsD ds = some ps ∧ (ps.map Prod.fst).Nodup := by
    unfold drsD at e1
    split at e1
    · rename_i ds
      split at e1
      · rename_i qs q
        split at e1
        · rename_i n
          cases e1
          exact ⟨ds, rfl, q, n⟩
        · cases e1
      · cases e1
    · cases e1
  obtain ⟨a', vs, rfl, hq, hz, rd⟩ := dat_tupP r1
  obtain ⟨as, kvs, rfl, pr, keys, each⟩ := prs_of rd e2
  have nk : (kvs.map Prod.fst).Nodup := by
    rw [keys]
    have e : ps.map (fun p => (Sum.inr (mkStr p.1) : Key)) = (ps.map Prod.fst).map (fun s => (Sum.inr (mkStr s) : Key)) := by rw [List.map_map]; rfl
    rw [e]
    exact List.pairwise_map.mpr (List.Pairwise.imp (fun hne z => hne (mkStr_inj (Sum.inr.inj z))) nd)
  refine ⟨a', as, kvs, rfl, hq, pr, by simpa using hz, fun q hn => ?_⟩
  rw [merge_new kvs [] nk, List.nil_append]
  have st2 : Step S1 H1 G1 (resS S1 q) (upd H1 q (.dK kvs)) G1 := Step.reserve R1 hn
  have R2 : Hel X.K fnm clm (resS S1 q) (upd H1 q (.dK kvs)) G1 := R1.reserve hn
  refine rb _ σ σD _ G1 _ _ XD R2 ((sl.step R st1).step R1 st2) h2 (fun y S3 H3 dy G3 st3 R3 r3 h3 => ?_) ((hX.step st1).step st2)
  obtain ⟨dv, e3, h4⟩ := ok_of h3
  obtain ⟨s, rfl, hf⟩ : ∃ s, dy = .str s ∧ (ps.find? fun p => decide (p.1 = s)).map Prod.snd = some dv := by
    cases dy <;> first | exact ⟨_, rfl, e3⟩ | cases e3
  obtain ⟨rfl, _, _⟩ := dat_str r3
  obtain ⟨pp, hf1, rfl⟩ := Option.map_eq_some_iff.mp hf
  have hs1 : pp.1 = s := by
    have := List.find?_some hf1
    simpa using this
  obtain ⟨j, hj, ej⟩ := List.getElem_of_mem (List.mem_of_find?_eq_some hf1)
  obtain ⟨w, k1, k2⟩ := each j pp (by rw [List.getElem?_eq_getElem hj, ej])
  rw [hs1] at k1
  have live : H3 q = some (.dK kvs) := st3.stay q _ upd_same (R1.free hn).1 (by unfold resS; rw [if_pos rfl]; simp)
  have hv : valV kvs (Sum.inr (mkStr s)) = some w := by
    unfold valV
    rw [find_new nk k1]
    rfl
  refine ⟨q, w, rfl, ?_, ((hQ.step st1).step st2).step st3 |>.here R3 ((k2.step R1 st2).step R2 st3) h4⟩
  rw [← hv]
  exact DGet.k (k := Sum.inr (mkStr s)) live
end
end DL

namespace DL
open PySem PySem.Spec PyProof.Rows L2
/-! ### comprehensions over a live list that stays as it is meanwhile -/
section
variable (K : PySem.W.Frag) (fnm clm : Nat → Option Addr)
structure ItLv (gd : HD → Prop) (J : It) (S : Addr → Option Bool) (H : Hp) (G : HD) (items : List D) : Prop where
  len : items.length ≤ sizeLine
  go : ∀ S' H' G', Step S H G S' H' G' → Hel K fnm clm S' H' G' → gd G' → ∀ i d, items[i]? = some d → J.go i H' ∧ ∀ x H'', J.yld i H' x H'' → Step S' H' G' S' H'' G' ∧ Hel K fnm clm S' H'' G' ∧ Dat K fnm S' H'' G' x d
  stop : ∀ S' H' G', Step S H G S' H' G' → Hel K fnm clm S' H' G' → gd G' → J.stop items.length H'
def RefLv (W : WX) (wi : TI) (t : StD → HD → KD → KX → Prop) : Prop :=
  ∀ S (σ : St') σD H G (R : It → Hp → Prop) (QD : D → List D → HD → Prop) XD, Hel K fnm clm S H G → SlotOk K fnm S H G σ σD → t σD G (fun d G1 => ok (lvD d G1) fun ds => QD d ds G1) XD →
    (∀ J S' H' G' d items, Step S H G S' H' G' → Hel K fnm clm S' H' G' → ItLv K fnm clm (gdD d items) J S' H' G' items → QD d items G' → R J H') → PostX K fnm clm W σ S H G XD → wi σ H R
end
section
variable {C : Cfg} {fnm clm : Nat → Option Addr} {Γ : Gam} {N : List Str} {sc : Scope} {X : Cx} {W : WX}
theorem ItOk.g {K : PySem.W.Frag} {gd : HD → Prop} {J : It} {S : Addr → Option Bool} {H : Hp} {G : HD} {items : List D} (h : ItOk K fnm clm J S H G items) : ItLv K fnm clm gd J S H G items :=
  ⟨h.len, fun S' H' G' st R _ => h.go S' H' G' st R, fun S' H' G' st R _ => h.stop S' H' G' st R⟩
theorem it_live {K : PySem.W.Frag} {S : Addr → Option Bool} {H : Hp} {G : HD} {a : Addr} {ds : List D} (R : Hel K fnm clm S H G) (h : G a = some (.lst ds)) : ItLv K fnm clm (gdD (.ref a) ds) (Itl K a) S H G ds := by
  obtain ⟨vs0, _, z0, r0⟩ := cell_l R h
  refine ⟨by rw [← r0.length]; exact z0, fun S' H' G' st R' gd i d e => ?_, fun S' H' G' st R' gd => ?_⟩
  · obtain ⟨vs, h1, _, r⟩ := cell_l R' gd
    obtain ⟨v, e1, e2⟩ := r.get e
    refine ⟨⟨vs, v, .inl (.inl h1), e1⟩, fun x H'' y => ?_⟩
    obtain ⟨rfl, y⟩ := y
    have := y vs (.inl (.inl h1))
    rw [e1] at this; cases this
    exact ⟨.refl, R', e2⟩
  · obtain ⟨vs, h1, _, r⟩ := cell_l R' gd
    exact ⟨vs, .inl (.inl h1), by rw [r.length]; exact Nat.le_refl _⟩
def JG2 (fnm clm : Nat → Option Addr) (X : Cx) (W : WX) (tg e : Expr) (t : StD → HD → KD → KX → Prop) : Prop := ∃ te, PI X tg e te ∧ RefLv X.K fnm clm W te t
theorem jg_of {tg e : Expr} {ee : E} (he : JE fnm clm X W e (wE Γ ee)) : JG2 fnm clm X W tg e (wE Γ ee) := by
  obtain ⟨s, ta, pa, ra⟩ := he
  refine ⟨_, pi_any pa, fun S σ σD H G Rr QD XD R sl h hR hX => ?_⟩
  refine ra S σ σD H G _ _ XD R sl h (fun v S1 H1 d G1 st1 R1 r1 h1 => ?_) hX
  obtain ⟨ds, e1, h2⟩ := ok_of h1
  clear h1
  cases d <;> try exact nomatch (show (none : Option (List D)) = some ds from e1)
  · cases e1
    obtain ⟨rfl, k, z⟩ := dat_str r1
    exact .inr (.inr ⟨_, rfl, hR _ S1 H1 G1 _ _ st1 R1 (it_str k z).g h2⟩)
  · cases e1
    obtain ⟨a, vs, rfl, k2, z, r⟩ := dat_tup r1
    exact .inr (.inl ⟨a, rfl, ⟨vs, k2⟩, hR _ S1 H1 G1 _ _ st1 R1 (it_tup R1 k2 z r).g h2⟩)
  · cases e1
    obtain ⟨a, vs, rfl, k2, z, r⟩ := dat_tpl r1
    exact .inr (.inl ⟨a, rfl, ⟨vs, k2⟩, hR _ S1 H1 G1 _ _ st1 R1 (it_tup R1 k2 z r).g h2⟩)
  · cases e1
    obtain ⟨a, vs, rfl, k2, z, r⟩ := dat_lst r1
    exact .inl ⟨a, rfl, ⟨vs, k2.sq⟩, hR _ S1 H1 G1 _ _ st1 R1 (it_list R1 k2 z r).g h2⟩
  · rename_i a
    cases dat_ref r1
    have hg : G1 a = some (.lst ds) := by
      have e1 : (match G1 a with | some (.lst ds) => some ds | _ => none) = some ds := e1
      split at e1
      · rename_i q; cases e1; exact q
      · cases e1
    obtain ⟨vs, k2, z, r⟩ := cell_l R1 hg
    exact .inl ⟨a, rfl, ⟨vs, .inl (.inl k2)⟩, hR _ S1 H1 G1 _ _ st1 R1 (it_live R1 hg) h2⟩
  · cases e1
    obtain ⟨a, vs, rfl, k2, z, r⟩ := dat_scr r1
    exact .inl ⟨a, rfl, ⟨vs, k2.sq⟩, hR _ S1 H1 G1 _ _ st1 R1 (it_list R1 k2 z r).g h2⟩
theorem lcl_ref {z : Bool} {wi : TI} {g : Tgt} {c : T} {e a : E} {vs : List Nat} (ri : RefLv X.K fnm clm W wi (wE Γ a)) (hin : tIn g vs = true) :
    RefE X.K fnm clm W (tLc wi (canG X.K fnm clm g) (canT X.K fnm clm W0 (wT Γ c)) (canE X.K fnm clm W0 (wE Γ e)) vs)
      (fun σ H Q X => wE Γ a σ H (fun d H1 => ok (lvD d H1) fun items => lcD (fun x H2 K => gdD d items H2 ∧ lcStep Γ g c e (wipeD σ vs) x H2 K) (fun acc H2 => gdD d items H2 ∧ newL z acc H2 Q) items [] H1) X) := by
  intro S σ σD H G Q QD XD R sl h hQ hX
  refine ri S σ σD H G _ _ XD R sl h (fun J S1 H1 G1 dl items st1 R1 itk h1 => ?_) hX
  intro D hD
  have hD0 : H D = none := st1.there D hD
  have fr := R1.free hD
  let P : List DL.D → List DL.D → HD → Prop := fun xs acc H => lcD (fun x H2 K => gdD dl items H2 ∧ lcStep Γ g c e (wipeD σD vs) x H2 K) (fun acc H2 => gdD dl items H2 ∧ newL z acc H2 QD) xs acc H
  refine ⟨fun i m H => m = items.length - i ∧ i ≤ items.length ∧ ∃ S' G' acc accD, LcInv X.K fnm clm S1 H1 G1 D items P i H S' G' acc accD,
    ⟨items.length, by omega, Nat.zero_le _, _, G1, [], [], upd_same, Nat.zero_le _, ?_, .reserve R1 hD, R1.reserve hD, .nil, h1⟩, ?_⟩
  · unfold resS; rw [if_pos rfl]
  · rintro i m H' ⟨rfl, hi, S', G', acc, accD, I⟩
    by_cases hlt : i < items.length
    · obtain ⟨x, hx⟩ : ∃ x, items[i]? = some x := ⟨items[i], List.getElem?_eq_getElem hlt⟩
      have hdrop : items.drop i = x :: items.drop (i + 1) := by
        rw [List.drop_eq_getElem_cons hlt]
        have : items[i] = x := by rw [List.getElem?_eq_getElem hlt] at hx; exact Option.some.inj hx
        rw [this]
      have hgo : gdD dl items G' ∧ ok (asg g x (wipeD σD vs)) fun σ' => wT Γ c σ' G' (fun k H3 => match k with
          | true => wE Γ e σ' H3 (fun d H4 => P (items.drop (i + 1)) (accD ++ [d]) H4) (fun _ _ => False)
          | false => P (items.drop (i + 1)) accD H3) (fun _ _ => False) := by
        have := I.go
        rw [hdrop] at this
        exact this
      obtain ⟨gd, hgo⟩ := hgo
      obtain ⟨σD', ea, h2⟩ := ok_of hgo
      obtain ⟨go1, go2⟩ := itk.go S' H' G' I.st I.R gd i x hx
      refine .inr ⟨go1, fun H'' => ∃ S'' G'' acc' accD', LcInv X.K fnm clm S1 H1 G1 D items P (i + 1) H'' S'' G'' acc' accD', fun H'' w => ⟨items.length - (i + 1), by omega, rfl, hlt, w⟩, fun v H'' y => ?_⟩
      obtain ⟨st2, R2, rv⟩ := go2 v H'' y
      have stS : Step S H G S' H'' G' := (st1.trans I.st).trans st2
      refine ⟨S', wipeD σD vs, G', x, σD', R2, wipe_slots (sl.step R stS) vs, rv, ea, fun σ' sl' wp => ⟨?_, ?_⟩⟩
      · rw [wp vs hin, wipe_idem (i := 0)]
      · have hres : G' D = none := (R2.res D I.res).1
        have hat : H'' D = some (.lst acc) := st2.stay D _ I.at_ hres (by rw [I.res]; simp)
        refine ⟨S', σD', G', _, fun _ _ => False, R2, sl', h2, fun b S3 H3 G3 st3 R3 h3 => ?_, fun _ _ _ _ _ _ _ _ hf => hf⟩
        have hat3 : H3 D = some (.lst acc) := st3.stay D _ hat hres (by rw [I.res]; simp)
        have hres3 : S3 D = some false := st3.strm D _ I.res
        cases b with
        | true =>
          refine ⟨S3, σD', G3, _, fun _ _ => False, R3, sl'.step R2 st3, h3, fun w S4 H4 d G4 st4 R4 r4 h4 => ?_, fun _ _ _ _ _ _ _ _ hf => hf⟩
          have hat4 : H4 D = some (.lst acc) := st4.stay D _ hat3 (R3.res D hres3).1 (by rw [hres3]; simp)
          have hres4 : S4 D = some false := st4.strm D _ hres3
          have ka := Keep.change (o := .lst (acc ++ [w])) (G := G4) hat4 hres4
          refine ⟨acc, hat4, Nat.lt_of_le_of_lt I.len (Nat.lt_of_lt_of_le hlt itk.len), S4, G4, acc ++ [w], accD ++ [d], upd_same, ?_, hres4, ?_, R4.change hat4 hres4, ?_, h4⟩
          · rw [List.length_append]; have := I.len; simp; omega
          · exact (((I.st.trans st2).trans st3).trans st4).change hD
          · exact (((((I.dat.step I.R st2).step R2 st3).step R3 st4)).keep ka).append (.cons (r4.keep ka) .nil)
        | false =>
          exact ⟨S3, G3, acc, accD, hat3, Nat.le_succ_of_le I.len, hres3, (I.st.trans st2).trans st3, R3, (I.dat.step I.R st2).step R2 st3, h3⟩
    · have ei : i = items.length := by omega
      subst ei
      have hgo : gdD dl items G' ∧ newL z accD G' QD := by
        have := I.go
        rw [List.drop_length] at this
        exact this
      obtain ⟨gd, hgo⟩ := hgo
      refine .inl ⟨itk.stop S' H' G' I.st I.R gd, ?_⟩
      have hz : acc.length ≤ sizeLine := Nat.le_trans I.len itk.len
      have sS : S D = none := (R.free hD0).2
      have gD : G' D = none := (I.R.res D I.res).1
      cases z with
      | true =>
        obtain ⟨k1, k2⟩ := I.R.letOut I.res
        exact hQ _ _ H' _ G' ((st1.trans I.st).letOut sS) k2 (.lst I.at_ gD (by unfold unS; rw [if_pos rfl]) hz (I.dat.keep k1)) hgo
      | false =>
        exact hQ _ _ H' _ _ ((st1.trans I.st).track sS hD0) (I.R.track I.at_ I.res hz I.dat) (.ref D) (hgo D gD)
theorem je_lcl (k : COk C fnm clm Γ N sc X W) {z : Bool} {elt tg iter : Expr} {ifs : List Expr} {scope : Scope} {own : List (Str × Nat)} {pos : Pos} {e : E} {g : Tgt} {a : E} {c : T}
    (hok : BlkOk N sc scope own) (hset : ∀ elts kk p, iter ≠ .Set elts kk p) (hin : tIn g (own.map (·.2)) = true) (hi : JE fnm clm X W iter (wE Γ a))
    (hg : ∀ X', COk C fnm clm Γ N (relS scope sc) X' W0 → (X'.fn = fun x => scope.names.lookup x == some .cell) → X'.K = X.K → JG fnm clm X' tg g)
    (ht : ∀ X', COk C fnm clm Γ N (relS scope sc) X' W0 → X'.K = X.K → (ifs = [] ∧ c = .yes) ∨ ∃ cd, ifs = [cd] ∧ JT fnm clm X' W0 cd (wT Γ c))
    (he : ∀ X', COk C fnm clm Γ N (relS scope sc) X' W0 → X'.K = X.K → JE fnm clm X' W0 elt (wE Γ e)) :
    JE fnm clm X W (.ListComp elt [⟨tg, iter, ifs, 0⟩] scope pos) (wE Γ (.lcl z e g a c own)) := by
  obtain ⟨wi, pi, ri⟩ := jg_of (tg := tg) hi
  refine ⟨rfl, _, pe_lc (g := canG X.K fnm clm g) (tt := canT X.K fnm clm W0 (wT Γ c)) (te := canE X.K fnm clm W0 (wE Γ e)) k.calm (by rw [k.hN]; exact k.nd) pi (by rw [k.hN, k.hsc]; exact hok) (fun s H C' cl fp => (hg _ (k.blk s H scope cl C' fp) rfl rfl).can)
    (fun s H C' cl fp => ?_) (fun s H C' cl fp => (he _ (k.blk s H scope cl C' fp) rfl).can) ?_, lcl_ref ri hin⟩
  · rcases ht _ (k.blk s H scope cl C' fp) rfl with ⟨rfl, rfl⟩ | ⟨cd, rfl, h⟩
    · refine ⟨fun pins s σ H Q I ⟨S, σD, G, QD, XD, R, sl, h, hQ, hX⟩ => pts_nil.run pins s σ H Q I (hQ true S H G .refl R h)⟩
    · exact pts_one h.can
  · intro x
    cases iter <;> first | rfl | exact absurd rfl (hset _ _ _)
end
end DL

namespace DL
open PySem PySem.Spec PyProof.Rows L2
/-! ### list(zip(s, t)) of two tuples; freezing deep -/
section
variable {X : Cx} {pins : List (Addr × Obj)} {σ : L2.St} {H H' : Hp} {s : Shared} {h' : Heap}
/-- many new objects at once -/
theorem inv_many {t' : Nat} (I : Inv X pins σ H s) (k : ∀ b u, s.heap.get? b = some u → h'.get? b = some u) (same : ∀ b, b < s.heap.objs.size → H' b = H b) (new : ∀ b o, s.heap.objs.size ≤ b → H' b = some o → ObjOk X.prog X.w H' h' b o) :
    Inv X pins σ H' { s with heap := h', toks := t' } := by
  have old : ∀ {b o}, H b = some o → H' b = some o := fun {b o} e => by rw [same b (I.hok.lt e)]; exact e
  refine I.un ⟨fun b o q _ _ _ => k b o q, fun b o q _ _ _ => ⟨o.slots, k b o q⟩, fun b o q n _ => by rw [same b (Heap.lt_size q)]; exact n, fun b o q _ => ⟨o, k b o q⟩, fun b xs q => old q, fun b o u q => old q, fun b ps q => ⟨#[], by rw [old q]; simp⟩⟩ fun b o e => ?_
  by_cases hb : b < s.heap.objs.size
  · rw [same b hb] at e
    exact (I.hok b o e).stay (fun c u _ q => k c u q) (fun c q => old q) fun c xs q => old q
  · exact new b o (Nat.le_of_not_lt hb) e
end
theorem vals_getR {xs : List V} {us : List Value} {i : Nat} {u : Value} (r : Vals xs us) (e : us[i]? = some u) : ∃ x, xs[i]? = some x ∧ RelV x u := by
  have hl := r.length
  have hi := (List.getElem?_eq_some_iff.mp e).1
  have hx : xs[i]? = some (xs[i]'(by omega)) := List.getElem?_eq_getElem (by omega)
  obtain ⟨w, e2, q⟩ := r.get hx
  rw [e] at e2; cases e2
  exact ⟨_, hx, q⟩
def zlQ : List (V × V) → List Addr → Hp → (V → Hp → Prop) → Prop
  | [], as, H, Q => ∀ L, H L = none → Q (.ref L) (upd H L (.lst (as.map V.ref)))
  | p :: r, as, H, Q => ∀ T, H T = none → zlQ r (as ++ [T]) (upd H T (.tup [p.1, p.2])) Q
def updP : List Addr → List (V × V) → Hp → Hp
  | b :: bs, p :: ps, H => updP bs ps (upd H b (.tup [p.1, p.2]))
  | _, _, H => H
theorem updP_ne : ∀ {bs : List Addr} {ps : List (V × V)} {H : Hp} {x : Addr}, x ∉ bs → updP bs ps H x = H x
  | [], ps, H, x, _ => by unfold updP; rfl
  | b :: bs, [], H, x, _ => by unfold updP; rfl
  | b :: bs, p :: ps, H, x, h => by
    unfold updP
    rw [updP_ne fun z => h (List.mem_cons_of_mem _ z), upd_ne fun z => h (by rw [z]; exact List.mem_cons_self)]
theorem updP_at : ∀ {bs : List Addr} {ps : List (V × V)} {H : Hp} {j : Nat} {b : Addr} {p : V × V}, bs.Nodup → bs[j]? = some b → ps[j]? = some p → updP bs ps H b = some (.tup [p.1, p.2])
  | [], ps, H, j, b, p, _, h, _ => by simp at h
  | c :: bs, [], H, j, b, p, _, _, h => by simp at h
  | c :: bs, q :: ps, H, 0, b, p, nd, h1, h2 => by
    simp at h1 h2
    subst h1; subst h2
    unfold updP
    rw [updP_ne (List.nodup_cons.mp nd).1, upd_same]
  | c :: bs, q :: ps, H, j + 1, b, p, nd, h1, h2 => by
    unfold updP
    exact updP_at (List.nodup_cons.mp nd).2 (by simpa using h1) (by simpa using h2)
theorem zlQ_go : ∀ {ps : List (V × V)} {as bs : List Addr} {H : Hp} {L : Addr} {Q : V → Hp → Prop}, zlQ ps as H Q → bs.length = ps.length → bs.Nodup → (∀ b ∈ bs, H b = none) → L ∉ bs → H L = none → Q (.ref L) (upd (updP bs ps H) L (.lst ((as ++ bs).map V.ref)))
  | [], as, bs, H, L, Q, h, hl, _, _, _, hL => by
    have : bs = [] := List.length_eq_zero_iff.mp hl
    subst this
    rw [List.append_nil]
    exact h L hL
  | p :: ps, as, [], H, L, Q, h, hl, _, _, _, _ => by simp at hl
  | p :: ps, as, b :: bs, H, L, Q, h, hl, nd, hb, hn, hL => by
    have n1 := List.nodup_cons.mp nd
    have := zlQ_go (bs := bs) (L := L) (h b (hb b List.mem_cons_self)) (by simpa using hl) n1.2 (fun c hc => by rw [upd_ne fun z => n1.1 (by rw [← z]; exact hc)]; exact hb c (List.mem_cons_of_mem _ hc))
      (fun z => hn (List.mem_cons_of_mem _ z)) (by rw [upd_ne fun z => hn (by rw [z]; exact List.mem_cons_self)]; exact hL)
    rw [List.append_assoc] at this
    exact this
def tLz (K : PySem.W.Frag) (ta : TA) : TE := fun σ H Q => ta σ H fun vs H1 => ∃ a b xs ys, vs = [.ref a, .ref b] ∧ SqT K H1 a xs ∧ SqT K H1 b ys ∧ xs.length ≤ sizeLine ∧ zlQ (xs.zip ys) [] H1 Q
theorem pe_lzip {X : Cx} {e e2 : Expr} {ta : TA} {p p2 pos pos2 : Pos} (hc : X.calm = true) (hgl : Gl X "list") (hml : X.mg "list" = none) (hg : Gl X "zip") (hm : X.mg "zip" = none) (ha : PA X [e, e2] ta)
    (hs : starEach [e, e2] X.env = (false, eval e X.env) :: starEach [e2] X.env := by rfl) (hpl : (backTo pos2 (starEach [e2] X.env)).any (·.1) = false := by rfl)
    (na : starEach [.Call (.Name "zip" p2) [e, e2] [] pos2] X.env = (false, eval (.Call (.Name "zip" p2) [e, e2] [] pos2) X.env) :: starEach [] X.env := by rfl) :
    PE X (.Call (.Name "list" p) [.Call (.Name "zip" p2) [e, e2] [] pos2] [] pos) (tLz X.K ta) := by
  refine ⟨fun pins s σ H Q I h => ?_⟩
  refine Call_ (ld_blt I hgl hml boot_list (PyProof.Rows.callWith_type1 (args_cons ?_ na) na))
  refine Call_ (ld_blt I hg hm PyProof.Rows.boot_zip (PyProof.Rows.callWith_type1 (thn (ha.run pos2 pins s σ H _ I h) fun us s1 ⟨vs, H1, I1, r1, q1⟩ => ?_) hs hpl))
  obtain ⟨a, b, xs, ys, ex, hqx, hqy, hz, q⟩ := q1
  subst ex
  cases r1 with
  | cons r rr =>
    cases rr with
    | cons r' rr =>
      cases rr
      cases r
      cases r'
      obtain ⟨its, rv, p1, _⟩ := I1.tuple hqx
      obtain ⟨its2, rv2, p2, _⟩ := I1.tuple hqy
      obtain ⟨o1, ho1, _⟩ := id p1
      obtain ⟨o2, ho2, _⟩ := id p2
      have e1 := rv.length
      have e2 := rv2.length
      refine RZ.call_zipT (show s1.heap.IsTuple a its.toArray from p1) (show s1.heap.IsTuple b its2.toArray from p2) fun h1 hz1 hTI hTO i1 i2 hsz hk => args_nil ?_
      have t1 : h1.IsTuple a its.toArray := Heap.IsTuple.at (show s1.heap.IsTuple a its.toArray from p1) fun o e => hk _ o e
      have t2 : h1.IsTuple b its2.toArray := Heap.IsTuple.at (show s1.heap.IsTuple b its2.toArray from p2) fun o e => hk _ o e
      refine RZ.call_list_zip (s := { s1 with heap := h1 }) (I1.ok.hd hc) (PySem.W.ktu_apart s1.heap.objs.size a b (Heap.lt_size ho1) (Heap.lt_size ho2)) hz1 hTO hTI i1 i2 t1 t2 (by simp; omega) fun h2 acc c as hk2 hS ha hl => ?_
      have hlen : as.length = (xs.zip ys).length := by rw [hl, List.length_zip]; simp; omega
      have nd : as.Nodup := ha.inc.imp fun q => Nat.ne_of_lt q
      have big : ∀ x ∈ as, h1.objs.size + 1 ≤ x := fun x hx => (ha.rng x hx).1
      have bigs : ∀ x ∈ as, s1.heap.objs.size ≤ x := fun x hx => by have := big x hx; rw [hsz] at this; exact Nat.le_trans (by omega) this
      have fr : ∀ x ∈ as, H1 x = none := fun x hx => I1.hok.fresh (bigs x hx)
      have hLn : h1.objs.size ∉ as := fun z => absurd (big _ z) (Nat.not_succ_le_self _)
      have hLs : s1.heap.objs.size ≤ h1.objs.size := by rw [hsz]; exact Nat.le_add_right _ _
      have keep : ∀ b u, s1.heap.get? b = some u → h2.get? b = some u := fun b u e => by
        have hlt := Heap.lt_size e
        exact hk2 b u (Nat.ne_of_lt (Nat.lt_add_right _ hlt)) (Nat.ne_of_lt (Nat.lt_add_right _ hlt)) (Nat.ne_of_lt hlt) (Nat.ne_of_lt (Nat.lt_add_right _ hlt)) (hk b u e)
      refine ⟨.ref h1.objs.size, upd (updP as (xs.zip ys) H1) h1.objs.size (.lst (([] ++ as).map V.ref)), inv_many (s := s1) (t' := s1.toks) I1 keep (fun b hb => ?_) (fun b o hb e => ?_), rfl, zlQ_go q hlen nd fr hLn (I1.hok.fresh hLs)⟩
      · rw [upd_ne (Nat.ne_of_lt (Nat.lt_of_lt_of_le hb hLs)), updP_ne fun z => absurd (bigs b z) (Nat.not_le.mpr hb)]
      · by_cases hbl : b = h1.objs.size
        · subst hbl
          rw [upd_same] at e
          cases e
          refine ⟨by rw [List.nil_append, List.length_map, hlen, List.length_zip]; omega, as.map Value.ref, c, ?_, ?_⟩
          · clear hlen nd big bigs fr hLn q hl ha keep hS
            induction as with
            | nil => exact .nil
            | cons x xs ih => exact .cons rfl ih
          · rw [hS, ← ha.acc_]
        · rw [upd_ne hbl] at e
          by_cases hm : b ∈ as
          · obtain ⟨j, hj, ej⟩ := List.mem_iff_getElem.mp hm
            have ej2 : as[j]? = some b := by rw [← ej]; exact List.getElem?_eq_getElem hj
            obtain ⟨x, y, x1, y1, pr⟩ := ha.at_ j b ej2
            have x1 : its[j]? = some x := by simpa using x1
            have y1 : its2[j]? = some y := by simpa using y1
            obtain ⟨vx, hvx, rx⟩ := vals_getR rv x1
            obtain ⟨vy, hvy, ry⟩ := vals_getR rv2 y1
            have hp : (xs.zip ys)[j]? = some (vx, vy) := by rw [List.getElem?_zip_eq_some]; exact ⟨hvx, hvy⟩
            rw [updP_at nd ej2 hp] at e
            cases e
            exact ⟨by show 2 ≤ sizeLine; decide, [x, y], .cons rx (.cons ry .nil), ⟨_, pr, rfl, _, rfl⟩⟩
          · rw [updP_ne hm, I1.hok.fresh hb] at e
            cases e
section
variable {C : Cfg} {fnm clm : Nat → Option Addr} {Γ : Gam} {N : List Str} {sc : Scope} {X : Cx} {W : WX}
theorem zlQ_dat {K : PySem.W.Frag} {Q : V → Hp → Prop} {QD : KD} {z : Bool} : ∀ {xs ys : List V} {xd yd acc : List D} {as : List Addr} {S : Addr → Option Bool} {H : Hp} {G : HD}, Hel K fnm clm S H G → DatAll K fnm S H G xs xd → DatAll K fnm S H G ys yd → DatAll K fnm S H G (as.map V.ref) acc →
    as.length + xs.length ≤ sizeLine → newL z (acc ++ zip2L xd yd) G QD → PostE K fnm clm S H G QD Q → zlQ (xs.zip ys) as H Q
  | [], ys, _, yd, acc, as, S, H, G, R, .nil, r2, ra, hz, h, hQ => by
    rw [show zip2L [] yd = [] by simp [zip2L], List.append_nil] at h
    exact new_list R (by simpa using hz) ra h hQ
  | x :: xs, [], _, _, acc, as, S, H, G, R, .cons _ _, .nil, ra, hz, h, hQ => by
    rw [show ∀ a b : _, zip2L (a :: b) [] = [] from fun _ _ => by simp [zip2L], List.append_nil] at h
    exact new_list R (by simp at hz ⊢; omega) ra h hQ
  | x :: xs, y :: ys, _, _, acc, as, S, H, G, R, .cons (d := dx) rx tx, .cons (d := dy) ry ty, ra, hz, h, hQ => fun T hT => by
    have st : Step S H G S (upd H T (.tup [x, y])) G := .newU hT
    have R' : Hel K fnm clm S (upd H T (.tup [x, y])) G := R.newU hT
    refine zlQ_dat (acc := acc ++ [.tpl [dx, dy]]) R' (tx.step R st) (ty.step R st) ?_ (by simp at hz ⊢; omega) (by rw [List.append_assoc]; exact h) (hQ.step st)
    rw [List.map_append]
    exact (ra.step R st).append (.cons (.tpl (.inl (.inl upd_same)) (by show 2 ≤ sizeLine; decide) (.cons (rx.step R st) (.cons (ry.step R st) .nil))) .nil)
theorem je_lzp (k : COk C fnm clm Γ N sc X W) {z : Bool} {a b : Expr} {p p2 pos pos2 : Pos} {ees : Es} (hgl : Gl X "list") (hg : Gl X "zip") (h : JA fnm clm X W [a, b] (wEs Γ ees)) :
    JE fnm clm X W (.Call (.Name "list" p) [.Call (.Name "zip" p2) [a, b] [] pos2] [] pos) (wE Γ (.lzp z ees)) := by
  obtain ⟨ss, ta, pa, ra⟩ := h
  refine ⟨rfl, _, pe_lzip k.calm hgl (blt_of k (by decide +kernel)) hg (blt_of k (by decide +kernel)) pa (star_no (ss a List.mem_cons_self) _ _) (star_all (fun y hy => ss y (List.mem_cons_of_mem _ hy)) _ _) rfl, fun S σ σD H G Q QD XD R sl h hQ hX => ?_⟩
  refine ra S σ σD H G _ _ XD R sl h (fun vs S1 H1 ds G1 hn st1 R1 r1 h1 => ?_) hX
  obtain ⟨zs, e3, h2⟩ := ok_of h1
  match ds, r1, e3 with
  | [.tup xs, .tup ys], r1, e3 =>
    cases e3
    obtain ⟨v, w, rfl, q1, q2⟩ := two_of r1
    obtain ⟨a, vs, rfl, k1, z1, d1⟩ := dat_tup q1
    obtain ⟨b, ws, rfl, k2, z2, d2⟩ := dat_tup q2
    exact ⟨a, b, vs, ws, rfl, k1, k2, z1, zlQ_dat R1 d1 d2 .nil (by simpa using z1) h2.2 (hQ.step st1)⟩
end
section
variable {K : PySem.W.Frag} {fnm clm : Nat → Option Addr} {S : Addr → Option Bool} {H : Hp}
theorem sub_trans {G G1 G2 : HD} (a : Sub G1 G) (b : Sub G2 G1) : Sub G2 G := fun x c h => a x c (b x c h)
theorem frL_ok {f : D → HD → Option (D × HD)} (hf : ∀ (d : D) (v : V) (G G' : HD) (d' : D), Hel K fnm clm S H G → Dat K fnm S H G v d → f d G = some (d', G') → Sub G' G ∧ Dat K fnm S H G' v d') :
    ∀ (ds : List D) {vs : List V} {G G' : HD} {es : List D}, Hel K fnm clm S H G → DatAll K fnm S H G vs ds → frL f ds G = some (es, G') → Sub G' G ∧ DatAll K fnm S H G' vs es
  | [], vs, G, G', es, R, r, e => by
    unfold frL at e
    cases e
    cases r
    exact ⟨fun _ _ h => h, .nil⟩
  | d :: ds, vs, G, G', es, R, r, e => by
    unfold frL at e
    split at e
    · rename_i e1 G1 q1
      split at e
      · rename_i es2 G2 q2
        cases e
        cases r with
        | cons rd rs =>
          obtain ⟨s1, r1⟩ := hf d _ _ _ _ R rd q1
          have st1 : Step S H G S H G1 := .less s1
          have R1 := R.less s1
          obtain ⟨s2, r2⟩ := frL_ok hf ds R1 (rs.step R st1) q2
          have st2 : Step S H G1 S H G' := .less s2
          exact ⟨sub_trans s1 s2, .cons (r1.step R1 st2) r2⟩
      · cases e
    · cases e
theorem frDp_ok : ∀ (n : Nat) (d : D) (v : V) (G G' : HD) (d' : D), Hel K fnm clm S H G → Dat K fnm S H G v d → frDp n d G = some (d', G') → Sub G' G ∧ Dat K fnm S H G' v d'
  | 0, d, v, G, G', d', R, r, e => by
    unfold frDp at e
    cases e
    exact ⟨fun _ _ h => h, r⟩
  | n + 1, .ref a, v, G, G', d', R, r, e => by
    cases dat_ref r
    unfold frDp at e
    split at e
    · rename_i ds q
      split at e
      · rename_i es G2 q2
        cases e
        obtain ⟨vs, h1, h2, h3⟩ := R.cell a _ q
        have st : Step S H G S H (delD G a) := .less sub_del
        have R1 : Hel K fnm clm S H (delD G a) := R.less sub_del
        obtain ⟨s1, r1⟩ := frL_ok (frDp_ok n) ds R1 (h3.step R st) q2
        have hn : G' a = none := by
          cases z : G' a with
          | none => rfl
          | some c => have := s1 a c z; rw [delD_same] at this; cases this
        exact ⟨sub_trans sub_del s1, .lst h1 hn (R.live (by rw [q]; simp)) h2 r1⟩
      · cases e
    · cases e
  | n + 1, .tup ds, v, G, G', d', R, r, e => by
    unfold frDp at e
    split at e
    · rename_i es G2 q2
      cases e
      obtain ⟨a, vs, rfl, k1, z1, d1⟩ := dat_tupP r
      obtain ⟨s1, r1⟩ := frL_ok (frDp_ok n) ds R d1 q2
      exact ⟨s1, .tup k1 z1 r1⟩
    · cases e
  | n + 1, .non, v, G, G', d', R, r, e => by unfold frDp at e; cases e; exact ⟨fun _ _ h => h, r⟩
  | n + 1, .bl _, v, G, G', d', R, r, e => by unfold frDp at e; cases e; exact ⟨fun _ _ h => h, r⟩
  | n + 1, .int _, v, G, G', d', R, r, e => by unfold frDp at e; cases e; exact ⟨fun _ _ h => h, r⟩
  | n + 1, .str _, v, G, G', d', R, r, e => by unfold frDp at e; cases e; exact ⟨fun _ _ h => h, r⟩
  | n + 1, .tpl _, v, G, G', d', R, r, e => by unfold frDp at e; cases e; exact ⟨fun _ _ h => h, r⟩
  | n + 1, .lst _, v, G, G', d', R, r, e => by unfold frDp at e; cases e; exact ⟨fun _ _ h => h, r⟩
  | n + 1, .scr _, v, G, G', d', R, r, e => by unfold frDp at e; cases e; exact ⟨fun _ _ h => h, r⟩
  | n + 1, .rnd, v, G, G', d', R, r, e => by unfold frDp at e; cases e; exact ⟨fun _ _ h => h, r⟩
  | n + 1, .ty _, v, G, G', d', R, r, e => by unfold frDp at e; cases e; exact ⟨fun _ _ h => h, r⟩
  | n + 1, .fn _, v, G, G', d', R, r, e => by unfold frDp at e; cases e; exact ⟨fun _ _ h => h, r⟩
end
section
variable {C : Cfg} {fnm clm : Nat → Option Addr} {Γ : Gam} {N : List Str} {sc : Scope} {X : Cx} {W : WX}
theorem je_frD {n : Nat} {e : Expr} {ee : E} (he : JE fnm clm X W e (wE Γ ee)) : JE fnm clm X W e (wE Γ (.frD n ee)) := by
  obtain ⟨s, ta, pa, ra⟩ := he
  refine ⟨s, ta, pa, fun S σ σD H G Q QD XD R sl h hQ hX => ?_⟩
  refine ra S σ σD H G Q (fun d H1 => ok (frDp n d H1) fun r => QD r.1 r.2) XD R sl h (fun v S1 H1 d G1 st1 R1 r1 h1 => ?_) hX
  obtain ⟨⟨d', G'⟩, e, h2⟩ := ok_of h1
  obtain ⟨s1, r2⟩ := frDp_ok n d _ _ _ _ R1 r1 e
  have st2 : Step S1 H1 G1 S1 H1 G' := .less s1
  exact hQ v S1 H1 d' G' (st1.trans st2) (R1.less s1) r2 h2
end
end DL

namespace DL
open PySem PySem.Spec PyProof.Rows L2
section
variable {C : Cfg} {fnm clm : Nat → Option Addr} {Γ : Gam} {N : List Str} {sc : Scope} {X : Cx} {W : WX}
/-! ## 10. Statements -/
structure SOk (C : Cfg) (fnm clm : Nat → Option Addr) (Γ : Gam) (N : List Str) (sc : Scope) (X : Cx) (W : WX) : Prop extends COk C fnm clm Γ N sc X W where
  fnT : ∀ x, X.fn x = true
  kindF : sc.kind = .function
  stk : X.stack = X.env :: X.outer
  frm : X.env.frame = some X.env.locals
def locB (sc : Scope) (x : Str) : Bool := match sc.names.lookup x with | some .local => true | some .cell => true | _ => false
theorem loc_of (k : COk C fnm clm Γ N sc X W) {x : Str} (h : locB sc x = true) : L2.Loc X.env.scope x := by
  rw [k.hsc]
  unfold locB at h
  unfold L2.Loc
  split at h <;> simp_all
theorem js_set (k : SOk C fnm clm Γ N sc X W) {i : Nat} {x : Str} {px pos : Pos} {e : Expr} {ee : E} (hi : N[i]? = some x) (hx : locB sc x = true) (hs : swapsWith e (some (.Name x px)) pos.line X.env = pure false) (he : JE fnm clm X W e (wE Γ ee)) :
    JS fnm clm X W (.Assign [.Name x px] e pos) (wS Γ (.set i ee)) := by
  obtain ⟨_, ta, pa, ra⟩ := he
  refine ⟨_, ps_set (by rw [k.hN]; exact k.nd) (by rw [k.hN]; exact hi) (loc_of k.toCOk hx) pa hs (.inl (k.fnT x)), fun S σ σD H G D ED R sl h hP hX => ?_⟩
  refine ra S σ σD H G _ _ _ R sl h (fun v S1 H1 d G1 st1 R1 r1 h1 => ?_) (hX.at R sl)
  exact hP.nx _ _ S1 H1 G1 st1 R1 ((sl.step R st1).set r1 i) h1
theorem swap_sole {tg e : Expr} (h : isComp e = false) (l : Nat) (env : Env) : swapsWithSole [tg] e l env = pure false := swap_no h _ _ _
def isTupE : Expr → Bool
  | .Tuple .. => true
  | _ => false
theorem swapped_no {tg e : Expr} (h : isTupE e = false) (env : Env) : swappedStores [tg] e env = pure none := by
  cases e <;> first | (cases tg <;> rfl) | (cases h)
theorem js_asg (k : SOk C fnm clm Γ N sc X W) {tg e : Expr} {pos : Pos} {g : Tgt} {ee : E} (h1 : isStar tg = false) (h2 : isComp e = false) (h3 : isTupE e = false) (hg : JG fnm clm X tg g) (he : JE fnm clm X W e (wE Γ ee)) :
    JS fnm clm X W (.Assign [tg] e pos) (wS Γ (.asg g ee)) := by
  obtain ⟨_, ta, pa, ra⟩ := he
  obtain ⟨tg', pg, rg⟩ := hg
  refine ⟨_, ps_asg pa pg (swap_sole h2 _ _) (swapped_no h3 _) (by rw [asg_star h1] <;> rfl), fun S σ σD H G D ED R sl h hP hX => ?_⟩
  refine ra S σ σD H G _ _ _ R sl h (fun v S1 H1 d G1 st1 R1 r1 h1 => ?_) (hX.at R sl)
  obtain ⟨σD', ea, h2⟩ := ok_of h1
  exact rg S1 σ σD H1 G1 v d _ σD' R1 (sl.step R st1) r1 ea fun σ' sl' _ => hP.nx _ _ S1 H1 G1 st1 R1 sl' h2
theorem js_setI (k : SOk C fnm clm Γ N sc X W) {o i e : Expr} {pt pos : Pos} {eo ei ee : E} (hsl : isSlice i = false) (h2 : isComp e = false) (ho : JE fnm clm X W o (wE Γ eo)) (hi : JE fnm clm X W i (wE Γ ei)) (he : JE fnm clm X W e (wE Γ ee)) :
    JS fnm clm X W (.Assign [.Subscript o i pt] e pos) (wS Γ (.setI eo ei ee)) := by
  obtain ⟨_, ta, pa, ra⟩ := he
  obtain ⟨_, to, po, ro⟩ := ho
  obtain ⟨_, ti, pi, rri⟩ := hi
  refine ⟨_, ps_asg pa (pg_sub po pi set_list (by intro v; cases i <;> first | rfl | (exact absurd hsl (by decide)) | cases hsl)) (swap_sole h2 _ _) (by cases e <;> rfl) rfl, fun S σ σD H G D ED R sl h hP hX => ?_⟩
  refine ra S σ σD H G _ _ _ R sl h (fun v S1 H1 d G1 st1 R1 r1 h1 => ?_) (hX.at R sl)
  have sl1 := sl.step R st1
  refine ro S1 σ σD H1 G1 _ _ _ R1 sl1 h1 (fun vo S2 H2 x G2 st2 R2 r2 h2 => ?_) ((hX.at R sl).step st1)
  refine rri S2 σ σD H2 G2 _ _ _ R2 (sl1.step R1 st2) h2 (fun vi S3 H3 y G3 st3 R3 r3 h3 => ?_) ((hX.at R sl).step (st1.trans st2))
  cases x <;> try exact h3.elim
  cases y <;> try exact h3.elim
  rename_i a kk
  cases dat_int r3
  cases dat_ref r2
  obtain ⟨ds, hg, ⟨b1, b2⟩, h4⟩ := live_of (P := fun ds => (0 ≤ kk ∧ kk < ds.length) ∧ ED.nx σD (updD G3 a (.lst (ds.set kk.toNat d)))) h3
  obtain ⟨ws, k1, k2, k3⟩ := cell_l R3 hg
  have ne : G3 a ≠ none := by rw [hg]; simp
  refine ⟨a, ws, kk, kk.toNat, rfl, rfl, k1, ?_, ?_⟩
  · unfold ixN
    rw [if_pos b1, if_pos (by rw [k3.length]; exact b2)]
  · have rv : Dat X.K fnm S3 H3 G3 v d := (r1.step R1 st2).step R2 st3
    have st4 : Step S3 H3 G3 S3 (upd H3 a (.lst (ws.set kk.toNat v))) (updD G3 a (.lst (ds.set kk.toNat d))) := .write ne
    exact hP.nx σ σD S3 _ _ (((st1.trans st2).trans st3).trans st4) (R3.writeL ne (by rw [List.length_set]; exact k2) (k3.set rv _)) (((sl1.step R1 st2).step R2 st3).step R3 st4) h4
def augB : BOp → Operator → Bool
  | .add, .Add => true | .sub, .Sub => true | .mul, .Mult => true | .bor, .BitOr => true
  | _, _ => false
theorem aug_ok {o : BOp} {op : Operator} (h : augB o op = true) : ∃ r : TIp, PIp X op r ∧ ∀ v v' d d' S H G Q QD, Hel X.K fnm clm S H G → Dat X.K fnm S H G v d → Dat X.K fnm S H G v' d' →
    (match d, d' with | .int _, .int _ => binD true o d d' G QD | .str _, .str _ => binD true o d d' G QD | _, _ => False) → PostE X.K fnm clm S H G QD Q → r v v' H Q := by
  cases o <;> cases op <;> first | cases h | skip
  · refine ⟨fun x y H Q => rI0 (fun i j => .int (i + j)) x y H Q ∨ (∃ i j, x = .str i ∧ y = .str j ∧ i.length + j.length ≤ sizeLine ∧ Q (.str (i ++ j)) H), fun pins s σ H x y v u Q I r1 r2 q => ?_, fun v v' d d' S H G Q QD R r r' h hQ => ?_⟩
    · rcases q with q | q
      · exact iop_add pins s σ H x y v u Q I r1 r2 q
      · exact iop_add_str pins s σ H x y v u Q I r1 r2 q
    · cases d <;> cases d' <;> first | exact h.elim | skip
      · cases dat_int r; cases dat_int r'
        exact .inl ⟨_, _, rfl, rfl, hQ.here R (.int _) h⟩
      · rename_i s t
        obtain ⟨rfl, k1, _⟩ := dat_str r
        obtain ⟨rfl, k2, _⟩ := dat_str r'
        have h : s.length + t.length ≤ lim ∧ QD (.str (s ++ t)) G := h
        refine .inr ⟨_, _, rfl, rfl, by rw [mkStr_length, mkStr_length, lim_eq]; exact h.1, ?_⟩
        rw [mkStr_append]
        refine hQ.here R (.str _ ?_ (by rw [List.length_append, lim_eq]; exact h.1)) h.2
        rw [strOk_iff] at k1 k2 ⊢
        intro c hc
        rcases List.mem_append.mp hc with q | q
        · exact k1 c q
        · exact k2 c q
  · refine ⟨_, iop_sub, fun v v' d d' S H G Q QD R r r' h hQ => ?_⟩
    cases d <;> cases d' <;> first | exact h.elim | skip
    cases dat_int r; cases dat_int r'
    exact ⟨_, _, rfl, rfl, hQ.here R (.int _) h⟩
  · refine ⟨_, iop_mul, fun v v' d d' S H G Q QD R r r' h hQ => ?_⟩
    cases d <;> cases d' <;> first | exact h.elim | skip
    · rename_i i j
      cases dat_int r; cases dat_int r'
      have h : ((-18446744073709551616 < i ∧ i < 18446744073709551616) ∨ (-18446744073709551616 < j ∧ j < 18446744073709551616)) ∧ QD (.int (i * j)) G := h
      refine ⟨_, _, rfl, rfl, ?_, hQ.here R (.int _) h.2⟩
      have e : (2 : Int) ^ 64 = 18446744073709551616 := by decide
      unfold CMul
      rw [e]
      exact h.1
  · refine ⟨_, iop_or, fun v v' d d' S H G Q QD R r r' h hQ => ?_⟩
    cases d <;> cases d' <;> first | exact h.elim | skip
    cases dat_int r; cases dat_int r'
    exact ⟨_, _, rfl, rfl, hQ.here R (.int _) h⟩
theorem slot_get {K : PySem.W.Frag} {S : Addr → Option Bool} {H : Hp} {G : HD} {σ : St'} {σD : StD} (sl : SlotOk K fnm S H G σ σD) {i : Nat} {d : D} (e : σD.getD i none = some d) : σD[i]? = some (some d) ∧ ∃ v, σ[i]? = some (some v) ∧ Dat K fnm S H G v d := by
  have e2 : σD[i]? = some (some d) := by
    rw [List.getD_eq_getElem?_getD] at e
    cases q : σD[i]? with
    | none => rw [q] at e; cases e
    | some z => rw [q] at e; simp at e; rw [e]
  exact ⟨e2, sl.2 i d e2⟩
theorem js_aug (k : SOk C fnm clm Γ N sc X W) {i : Nat} {x : Str} {px pos : Pos} {o : BOp} {op : Operator} {e : Expr} {ee : E} (ho : augB o op = true) (hi : N[i]? = some x) (hx : locB sc x = true) (he : JE fnm clm X W e (wE Γ ee)) :
    JS fnm clm X W (.AugAssign (.Name x px) op e pos) (wS Γ (.aug i o ee)) := by
  obtain ⟨_, ta, pa, ra⟩ := he
  obtain ⟨r, p1, p2⟩ := aug_ok (fnm := fnm) (clm := clm) (X := X) ho
  refine ⟨_, ps_aug (by rw [k.hN]; exact k.nd) (by rw [k.hN]; exact hi) (loc_of k.toCOk hx) pa p1 (.inl (k.fnT x)), fun S σ σD H G D ED R sl h hP hX => ?_⟩
  obtain ⟨d, e1, h1⟩ := ok_of h
  obtain ⟨_, v, e2, rv⟩ := slot_get sl e1
  refine ⟨v, e2, ?_⟩
  refine ra S σ σD H G _ _ _ R sl h1 (fun w S1 H1 y G1 st1 R1 r1 h2 => ?_) (hX.at R sl)
  refine p2 v w d y S1 H1 G1 _ (fun z G2 => ED.nx (σD.set i (some z)) G2) R1 (rv.step R st1) r1 h2 (fun z S2 H2 d2 G2 st2 R2 r2 h3 => ?_)
  exact hP.nx _ _ S2 H2 G2 (st1.trans st2) R2 (((sl.step R st1).step R1 st2).set r2 i) h3
theorem js_ex (k : SOk C fnm clm Γ N sc X W) {e : Expr} {pos : Pos} {ee : E} (hs : isComp e = false) (he : JE fnm clm X W e (wE Γ ee)) : JS fnm clm X W (.Expr e pos) (wS Γ (.ex ee)) := by
  obtain ⟨_, ta, pa, ra⟩ := he
  refine ⟨_, ps_expr pa (swap_no hs _ _ _), fun S σ σD H G D ED R sl h hP hX => ?_⟩
  exact ra S σ σD H G _ _ _ R sl h (fun v S1 H1 d G1 st1 R1 r1 h1 => hP.nx _ _ S1 H1 G1 st1 R1 (sl.step R st1) h1) (hX.at R sl)
theorem js_ret (k : SOk C fnm clm Γ N sc X W) {e : Expr} {pos : Pos} {ee : E} (he : JE fnm clm X W e (wE Γ ee)) : JS fnm clm X W (.Return (some e) pos) (wS Γ (.ret ee)) := by
  obtain ⟨_, ta, pa, ra⟩ := he
  exact ⟨_, ps_ret pa, fun S σ σD H G D ED R sl h hP hX => ra S σ σD H G _ _ _ R sl h hP.rt (hX.at R sl)⟩
theorem js_retN {pos : Pos} : JS fnm clm X W (.Return none pos) (wS Γ .retN) := ⟨_, ps_retN, fun S σ σD H G D ED R sl h hP hX => hP.rt _ S H _ G .refl R .non h⟩
theorem js_pas {pos : Pos} : JS fnm clm X W (.Pass pos) (wS Γ .pas) := ⟨_, ps_pass, fun S σ σD H G D ED R sl h hP hX => hP.nx σ σD S H G .refl R sl h⟩
theorem js_brk {pos : Pos} : JS fnm clm X W (.Break pos) (wS Γ .brk) := ⟨_, ps_break, fun S σ σD H G D ED R sl h hP hX => hP.bk σ σD S H G .refl R sl h⟩
theorem js_cnt {pos : Pos} : JS fnm clm X W (.Continue pos) (wS Γ .cnt) := ⟨_, ps_continue, fun S σ σD H G D ED R sl h hP hX => hP.ct σ σD S H G .refl R sl h⟩
theorem js_ite {t : Expr} {a b : List Stmt} {pos : Pos} {et : T} {ea eb : Ss} (ht : JT fnm clm X W t (wT Γ et)) (ha : JSs fnm clm X W a (wSs Γ ea)) (hb : JSs fnm clm X W b (wSs Γ eb)) : JS fnm clm X W (.If t a b pos) (wS Γ (.ite et ea eb)) := by
  obtain ⟨tt, pt, rt⟩ := ht
  obtain ⟨ta, pa, ra⟩ := ha
  obtain ⟨tb, pb, rb⟩ := hb
  refine ⟨_, ps_if pt pa pb, fun S σ σD H G D ED R sl h hP hX => ?_⟩
  refine rt S σ σD H G _ _ _ R sl h (fun c S1 H1 G1 st1 R1 h1 => ?_) (hX.at R sl)
  cases c with
  | true => exact ra S1 σ σD H1 G1 D ED R1 (sl.step R st1) h1 (hP.step st1) (hX.step st1)
  | false => exact rb S1 σ σD H1 G1 D ED R1 (sl.step R st1) h1 (hP.step st1) (hX.step st1)
theorem js_for (k : SOk C fnm clm Γ N sc X W) {tg iter : Expr} {body : List Stmt} {pos : Pos} {g : Tgt} {it : I} {eb : Ss} (hset : ∀ elts kk p, iter ≠ .Set elts kk p) (hi : JI fnm clm X W tg iter (wI Γ it)) (hg : JG fnm clm X tg g) (hb : JSs fnm clm X W body (wSs Γ eb)) :
    JS fnm clm X W (.For tg iter body [] pos) (wS Γ (.for_ g it eb)) := by
  obtain ⟨wi, pi, ri⟩ := hi
  obtain ⟨tg', pg, rg⟩ := hg
  obtain ⟨tb, pb, rb⟩ := hb
  refine ⟨_, ps_for k.po k.calm pi pg pb (fun x => by cases iter <;> first | rfl | exact absurd rfl (hset _ _ _)), fun S σ σD H G D ED R sl h hP hX => ?_⟩
  refine ri S σ σD H G _ _ _ R sl h (fun J S1 H1 G1 items st1 R1 itk h1 => ?_) (hX.at R sl)
  refine ⟨fun i m σ H => m = items.length - i ∧ i ≤ items.length ∧ ∃ S' σD G', Step S1 H1 G1 S' H G' ∧ Hel X.K fnm clm S' H G' ∧ SlotOk X.K fnm S' H G' σ σD ∧ wFor g (wSs Γ eb) ED (items.drop i) σD G',
    ⟨items.length, by omega, Nat.zero_le _, S1, σD, G1, .refl, R1, sl.step R st1, h1⟩, ?_⟩
  rintro i m σ1 H2 ⟨rfl, hi, S', σD1, G', st2, R2, sl2, h2⟩
  by_cases hlt : i < items.length
  · obtain ⟨x, hx⟩ : ∃ x, items[i]? = some x := ⟨items[i], List.getElem?_eq_getElem hlt⟩
    have hdrop : items.drop i = x :: items.drop (i + 1) := by
      rw [List.drop_eq_getElem_cons hlt]
      have : items[i] = x := by rw [List.getElem?_eq_getElem hlt] at hx; exact Option.some.inj hx
      rw [this]
    rw [hdrop] at h2
    obtain ⟨σD', ea, h3⟩ := ok_of h2
    obtain ⟨go1, go2⟩ := itk.go S' H2 G' st2 R2 i x hx
    refine .inr ⟨go1, fun σ' H' => ∃ S' σD G', Step S1 H1 G1 S' H' G' ∧ Hel X.K fnm clm S' H' G' ∧ SlotOk X.K fnm S' H' G' σ' σD ∧ wFor g (wSs Γ eb) ED (items.drop (i + 1)) σD G', fun σ' H' w => ⟨items.length - (i + 1), by omega, rfl, hlt, w⟩, fun v H3 y => ?_⟩
    obtain ⟨st3, R3, rv⟩ := go2 v H3 y
    refine rg S' σ1 σD1 H3 G' v x _ σD' R3 (sl2.step R2 st3) rv ea fun σ' sl' _ => ?_
    have stA := st2.trans st3
    refine rb S' σ' σD' H3 G' _ _ R3 sl' h3 ?_ ((hX.step st1).step stA)
    exact ⟨fun σ4 σD4 S4 H4 G4 st4 R4 sl4 q => ⟨S4, σD4, G4, stA.trans st4, R4, sl4, q⟩, fun σ4 σD4 S4 H4 G4 st4 R4 sl4 q => hP.nx _ _ S4 H4 G4 ((st1.trans stA).trans st4) R4 sl4 q,
      fun σ4 σD4 S4 H4 G4 st4 R4 sl4 q => ⟨S4, σD4, G4, stA.trans st4, R4, sl4, q⟩, hP.rt.step (st1.trans stA)⟩
  · have e : i = items.length := by omega
    subst e
    rw [List.drop_length] at h2
    exact .inl ⟨itk.stop S' H2 G' st2 R2, hP.nx σ1 σD1 S' H2 G' (st1.trans st2) R2 sl2 h2⟩
theorem js_forL (k : SOk C fnm clm Γ N sc X W) {tg iter : Expr} {body : List Stmt} {pos : Pos} {g : Tgt} {ea : E} {eb : Ss} (hset : ∀ elts kk p, iter ≠ .Set elts kk p) (hi : JE fnm clm X W iter (wE Γ ea)) (hg : JG fnm clm X tg g) (hb : JSs fnm clm X W body (wSs Γ eb)) :
    JS fnm clm X W (.For tg iter body [] pos) (wS Γ (.forL g ea eb)) := by
  obtain ⟨wi, pi, ri⟩ := jg_of (tg := tg) hi
  obtain ⟨tg', pg, rg⟩ := hg
  obtain ⟨tb, pb, rb⟩ := hb
  refine ⟨_, ps_for k.po k.calm pi pg pb (fun x => by cases iter <;> first | rfl | exact absurd rfl (hset _ _ _)), fun S σ σD H G D ED R sl h hP hX => ?_⟩
  refine ri S σ σD H G _ _ _ R sl h (fun J S1 H1 G1 dl items st1 R1 itk h1 => ?_) (hX.at R sl)
  refine ⟨fun i m σ H => m = items.length - i ∧ i ≤ items.length ∧ ∃ S' σD G', Step S1 H1 G1 S' H G' ∧ Hel X.K fnm clm S' H G' ∧ SlotOk X.K fnm S' H G' σ σD ∧ wForL (gdD dl items) g (wSs Γ eb) ED (items.drop i) σD G',
    ⟨items.length, by omega, Nat.zero_le _, S1, σD, G1, .refl, R1, sl.step R st1, h1⟩, ?_⟩
  rintro i m σ1 H2 ⟨rfl, hi, S', σD1, G', st2, R2, sl2, h2⟩
  by_cases hlt : i < items.length
  · obtain ⟨x, hx⟩ : ∃ x, items[i]? = some x := ⟨items[i], List.getElem?_eq_getElem hlt⟩
    have hdrop : items.drop i = x :: items.drop (i + 1) := by
      rw [List.drop_eq_getElem_cons hlt]
      have : items[i] = x := by rw [List.getElem?_eq_getElem hlt] at hx; exact Option.some.inj hx
      rw [this]
    rw [hdrop] at h2
    obtain ⟨gd, h2⟩ := h2
    obtain ⟨σD', ea, h3⟩ := ok_of h2
    obtain ⟨go1, go2⟩ := itk.go S' H2 G' st2 R2 gd i x hx
    refine .inr ⟨go1, fun σ' H' => ∃ S' σD G', Step S1 H1 G1 S' H' G' ∧ Hel X.K fnm clm S' H' G' ∧ SlotOk X.K fnm S' H' G' σ' σD ∧ wForL (gdD dl items) g (wSs Γ eb) ED (items.drop (i + 1)) σD G', fun σ' H' w => ⟨items.length - (i + 1), by omega, rfl, hlt, w⟩, fun v H3 y => ?_⟩
    obtain ⟨st3, R3, rv⟩ := go2 v H3 y
    refine rg S' σ1 σD1 H3 G' v x _ σD' R3 (sl2.step R2 st3) rv ea fun σ' sl' _ => ?_
    have stA := st2.trans st3
    refine rb S' σ' σD' H3 G' _ _ R3 sl' h3 ?_ ((hX.step st1).step stA)
    exact ⟨fun σ4 σD4 S4 H4 G4 st4 R4 sl4 q => ⟨S4, σD4, G4, stA.trans st4, R4, sl4, q⟩, fun σ4 σD4 S4 H4 G4 st4 R4 sl4 q => hP.nx _ _ S4 H4 G4 ((st1.trans stA).trans st4) R4 sl4 q,
      fun σ4 σD4 S4 H4 G4 st4 R4 sl4 q => ⟨S4, σD4, G4, stA.trans st4, R4, sl4, q⟩, hP.rt.step (st1.trans stA)⟩
  · have e : i = items.length := by omega
    subst e
    rw [List.drop_length] at h2
    obtain ⟨gd, h2⟩ := h2
    exact .inl ⟨itk.stop S' H2 G' st2 R2 gd, hP.nx σ1 σD1 S' H2 G' (st1.trans st2) R2 sl2 h2⟩
theorem js_whl (k : SOk C fnm clm Γ N sc X W) {t : Expr} {body : List Stmt} {pos : Pos} {et : T} {eb : Ss} (ht : JT fnm clm X W t (wT Γ et)) (hb : JSs fnm clm X W body (wSs Γ eb)) : JS fnm clm X W (.While t body [] pos) (wS Γ (.whl et eb)) := by
  obtain ⟨tt, pt, rt⟩ := ht
  obtain ⟨tb, pb, rb⟩ := hb
  refine ⟨_, ps_while k.po pt pb, fun S σ σD H G D ED R sl h hP hX => ?_⟩
  obtain ⟨WD, ⟨m0, w0⟩, turn⟩ := h
  refine ⟨fun m σ' H' => ∃ S' σD' G', Step S H G S' H' G' ∧ Hel X.K fnm clm S' H' G' ∧ SlotOk X.K fnm S' H' G' σ' σD' ∧ WD m σD' G', ⟨m0, S, σD, G, .refl, R, sl, w0⟩, ?_⟩
  rintro m σ1 H1 ⟨S1, σD1, G1, st1, R1, sl1, w1⟩
  refine rt S1 σ1 σD1 H1 G1 _ _ _ R1 sl1 (turn m σD1 G1 w1) (fun b S2 H2 G2 st2 R2 h2 => ?_) ((hX.step st1).at R1 sl1)
  have stA := st1.trans st2
  cases b with
  | true =>
    refine (if_pos rfl).mpr ⟨fun σ' H' => ∃ m', m' < m ∧ ∃ S' σD' G', Step S H G S' H' G' ∧ Hel X.K fnm clm S' H' G' ∧ SlotOk X.K fnm S' H' G' σ' σD' ∧ WD m' σD' G', fun σ' H' q => q, ?_⟩
    refine rb S2 σ1 σD1 H2 G2 _ _ R2 (sl1.step R1 st2) h2 ?_ (hX.step stA)
    exact ⟨fun σ4 σD4 S4 H4 G4 st4 R4 sl4 ⟨m', hm, q⟩ => ⟨m', hm, S4, σD4, G4, stA.trans st4, R4, sl4, q⟩, fun σ4 σD4 S4 H4 G4 st4 R4 sl4 q => hP.nx _ _ S4 H4 G4 (stA.trans st4) R4 sl4 q,
      fun σ4 σD4 S4 H4 G4 st4 R4 sl4 ⟨m', hm, q⟩ => ⟨m', hm, S4, σD4, G4, stA.trans st4, R4, sl4, q⟩, hP.rt.step stA⟩
  | false => exact (if_neg Bool.false_ne_true).mpr (hP.nx σ1 σD1 S2 H2 G2 stA R2 (sl1.step R1 st2) h2)
theorem js_rai (k : SOk C fnm clm Γ N sc X W) {i : Nat} {x m : Str} {j : Nat} {p p2 p3 pos : Pos} (hi : C.cls[i]? = some x) (hx : nameOk x = true) (hg : Gl X x) : JS fnm clm X W (.Raise (some (.Call (.Name x p) [.Constant (.str m) j p2] [] p3)) none pos) (wS Γ (.rai i)) := by
  obtain ⟨c, h1, h2, h3, h4, h5⟩ := k.cls i x hi
  exact ⟨_, ps_raise k.calm k.tk (pmk_own PySem.F.excBase_ValueError h3 h2 h4 h5 hg (name_debug hx).1), fun S σ σD H G D ED R sl h hP hX => hX i c σ σD S H G .refl R sl h1 h⟩
theorem jss_nil : JSs fnm clm X W [] (wSs Γ .n) := ⟨_, pss_nil, fun S σ σD H G D ED R sl h hP hX => hP.nx σ σD S H G .refl R sl h⟩
theorem jss_cons {s : Stmt} {ss : List Stmt} {es : DL.S} {ess : Ss} (h1 : JS fnm clm X W s (wS Γ es)) (h2 : JSs fnm clm X W ss (wSs Γ ess)) : JSs fnm clm X W (s :: ss) (wSs Γ (.c es ess)) := by
  obtain ⟨ta, pa, ra⟩ := h1
  obtain ⟨tb, pb, rb⟩ := h2
  refine ⟨_, pss_cons pa pb, fun S σ σD H G D ED R sl h hP hX => ?_⟩
  refine ra S σ σD H G _ _ R sl h ?_ hX
  exact ⟨fun σ4 σD4 S4 H4 G4 st4 R4 sl4 q => rb S4 σ4 σD4 H4 G4 D ED R4 sl4 q (hP.step st4) (hX.step st4), hP.bk, hP.ct, hP.rt⟩
theorem jss_fz {i : Nat} {ss : List Stmt} {ess : Ss} (h2 : JSs fnm clm X W ss (wSs Γ ess)) : JSs fnm clm X W ss (wSs Γ (.c (.fz i) ess)) := by
  obtain ⟨tb, pb, rb⟩ := h2
  refine ⟨tb, pb, fun S σ σD H G D ED R sl h hP hX => ?_⟩
  obtain ⟨d, e, h⟩ := ok_of (show ok (σD.getD i none) fun d => frzD d G fun d' H1 => wSs Γ ess ED (σD.set i (some d')) H1 from h)
  obtain ⟨e1, v, e2, rv⟩ := slot_get sl e
  have same : ∀ {S : Addr → Option Bool} {H : Hp} {G : HD} {d' : DL.D}, SlotOk X.K fnm S H G σ σD → Dat X.K fnm S H G v d' → SlotOk X.K fnm S H G σ (σD.set i (some d')) := by
    intro S H G d' sl r
    refine ⟨by rw [List.length_set]; exact sl.1, fun j q e3 => ?_⟩
    by_cases hj : i = j
    · subst hj
      rw [List.getElem?_set_self (List.getElem?_eq_some_iff.mp e1).1] at e3
      cases e3
      exact ⟨v, e2, r⟩
    · rw [List.getElem?_set_ne hj] at e3
      exact sl.2 j q e3
  have fin : ∀ d' G', Step S H G S H G' → Hel X.K fnm clm S H G' → Dat X.K fnm S H G' v d' → wSs Γ ess ED (σD.set i (some d')) G' → tb D σ H := fun d' G' st R' r' h' =>
    rb S σ _ H G' D ED R' (same (sl.step R st) r') h' (hP.step st) (hX.step st)
  cases d with
  | ref a =>
    cases dat_ref rv
    cases q : G a with
    | none => simp [frzD, q] at h
    | some c =>
      cases c with
      | lst ds =>
        simp only [frzD, q] at h
        obtain ⟨vs, h1, h2, h3⟩ := R.cell a _ q
        have st : Step S H G S H (delD G a) := .less sub_del
        exact fin _ _ st (R.less sub_del) (.lst h1 delD_same (R.live (by rw [q]; simp)) h2 (h3.step R st)) h
      | dct _ => simp [frzD, q] at h
      | ins _ _ => simp [frzD, q] at h
  | _ => exact fin _ G .refl R rv h
end
end DL

namespace DL
open PySem PySem.Spec PyProof.Rows L2
/-! ## 10K. Instances of own classes -/
section
variable {K : PySem.W.Frag} {fnm clm : Nat → Option Addr} {S S' : Addr → Option Bool} {H H' : Hp} {G G' : HD}
theorem FsAll.get : ∀ {vs : List (Str × V)} {ds : List (Str × D)} {f : Str} {d : D}, FsAll K fnm S H G vs ds → ds.lookup f = some d → ∃ v, vs.lookup f = some v ∧ Dat K fnm S H G v d
  | _, _, _, _, .nil, e => by cases e
  | _, _, f, _, .cons (x := x) r t, e => by
    rw [List.lookup_cons] at e ⊢
    cases q : f == x with
    | true => rw [q] at e; cases e; exact ⟨_, rfl, r⟩
    | false => rw [q] at e; exact FsAll.get t e
theorem FsAll.none_of : ∀ {vs : List (Str × V)} {ds : List (Str × D)} {f : Str}, FsAll K fnm S H G vs ds → ds.lookup f = none → vs.lookup f = none
  | _, _, _, .nil, _ => rfl
  | _, _, f, .cons (x := x) r t, e => by
    rw [List.lookup_cons] at e ⊢
    cases q : f == x with
    | true => rw [q] at e; cases e
    | false => rw [q] at e; exact FsAll.none_of t e
theorem FsAll.length : ∀ {vs : List (Str × V)} {ds : List (Str × D)}, FsAll K fnm S H G vs ds → vs.length = ds.length
  | _, _, .nil => rfl
  | _, _, .cons _ t => by rw [List.length_cons, List.length_cons, FsAll.length t]
theorem FsAll.put {f : Str} {v : V} {d : D} (r : Dat K fnm S H G v d) : ∀ {vs : List (Str × V)} {ds : List (Str × D)}, FsAll K fnm S H G vs ds → FsAll K fnm S H G (putF f v vs) (putFD f d ds)
  | _, _, .nil => .cons r .nil
  | _, _, .cons (x := x) q t => by
    unfold putF putFD
    by_cases e : x = f
    · rw [if_pos e, if_pos e]; exact .cons r t
    · rw [if_neg e, if_neg e]; exact .cons q (FsAll.put r t)
/-- an instance at p: a new one, a changed one -/
theorem Hel.putI (R : Hel K fnm clm S H G) {p c dx C : Addr} {vs : List (Str × V)} {ds : List (Str × D)} (hc : fnm (1000 + C) = some c) (st : Step S H G S (upd H p (.ins c dx vs)) (updD G p (.ins C ds))) (ns : S p = none) (r : FsAll K fnm S H G vs ds) :
    Hel K fnm clm S (upd H p (.ins c dx vs)) (updD G p (.ins C ds)) := by
  have k := Keep.of R st
  refine ⟨fun a o e => ?_, fun a e => ?_, fun a e => ?_⟩
  · by_cases q : a = p
    · subst q
      rw [updD_same] at e; cases e
      exact ⟨c, dx, vs, hc, upd_same, r.keep k⟩
    · rw [updD_ne q] at e
      exact (R.cell a o e).step R st (upd_ne q)
  · obtain ⟨g, r⟩ := R.rnd a e
    have q : a ≠ p := fun z => by rw [z, ns] at e; cases e
    exact ⟨by rw [updD_ne q]; exact g, r.step R st (upd_ne q)⟩
  · obtain ⟨g, r⟩ := R.res a e
    have q : a ≠ p := fun z => by rw [z, ns] at e; cases e
    exact ⟨by rw [updD_ne q]; exact g, by rw [upd_ne q]; exact r⟩
theorem ins_of {a : Addr} {P : Nat → List (Str × D) → Prop} (h : match G a with | some (.ins c fs) => P c fs | _ => False) : ∃ c fs, G a = some (.ins c fs) ∧ P c fs := by
  cases e : G a with
  | none => rw [e] at h; exact h.elim
  | some c =>
    rw [e] at h
    cases c with
    | ins c fs => exact ⟨c, fs, rfl, h⟩
    | _ => exact h.elim
theorem attD_by {c : Nat} {f : Str} {x d : D} (h : attD c f x G = some d) : ∃ a fs, x = .ref a ∧ G a = some (.ins c fs) ∧ fs.lookup f = some d := by
  cases x with
  | ref a =>
    unfold attD at h
    cases e : G a with
    | none => simp [e] at h
    | some o =>
      cases o with
      | ins c' fs =>
        simp only [e] at h
        by_cases q : c' = c
        · rw [if_pos q] at h; subst q; exact ⟨a, fs, rfl, e, h⟩
        · rw [if_neg q] at h; cases h
      | _ => simp [e] at h
  | _ => cases h
theorem insB_by {c : Nat} {f : Str} {x : D} (h : insB c f x G = true) : ∃ a fs, x = .ref a ∧ G a = some (.ins c fs) ∧ fs.lookup f = none := by
  cases x with
  | ref a =>
    unfold insB at h
    cases e : G a with
    | none => simp [e] at h
    | some o =>
      cases o with
      | ins c' fs =>
        simp only [e, Bool.and_eq_true, decide_eq_true_eq, Option.isNone_iff_eq_none] at h
        obtain ⟨rfl, h2⟩ := h
        exact ⟨a, fs, rfl, e, h2⟩
      | _ => simp [e] at h
  | _ => cases h
end
/-! ### the rules, what is raised wished for at the caller's slots -/
section
variable {X : Cx} {CX : CXT} {k : Nat} {f C : Addr} {fd : FuncData} {ps : List Str} {sp : Sp} {E : L2.St → XK} {x m : Str} {p pos apos : Pos} {e o : Expr} {es : List Expr} {ta : TE} {t : TA}
def tMethD (C : Addr) (m : Str) (sp : Sp) (E : L2.St → XK) (ta : TE) (t : TA) : TE := fun σ H Q => ta σ H fun x H1 => ∃ a dx fs, (x = .ref a ∧ H1 a = some (.ins C dx fs) ∧ fs.lookup m = none) ∧ t σ H1 fun vs H2 => sp (.ref a :: vs) H2 Q (E σ)
def tMakeD (C : Addr) (sp : Sp) (E : L2.St → XK) (t : TA) : TE := fun σ H Q => t σ H fun vs H1 => ∀ y dx, H1 y = none → H1 dx = none → dx ≠ y →
  sp (.ref y :: vs) (upd (upd H1 dx (.own y)) y (.ins C dx [])) (fun v H2 => v = .non ∧ Q (.ref y) H2) (E σ)
theorem pe_methD {pl : Sem Bool} (ho : PE X o ta) (cl : Cls X.K C) (me : Meth X.K C m f) (F : FnOk X.prog X.w X.K X.mg X.base CX k f fd ps sp) (room : Room k X.A) (bi : Binds X.K fd ps []) (px : ∀ σ, PassesAt CX X σ (E σ)) (pa : PA X (e :: es) t)
    (s1 : starEach (e :: es) X.env = (false, eval e X.env) :: starEach es X.env) (s2 : (backTo pos (starEach es X.env)).any (·.1) = false)
    (tree : eval (.Call (.Attribute o m apos) (e :: es) [] pos) X.env = (eval o X.env >>= fun ov => standAt apos.atName >>= fun _ => holding [ov] (getMethod ov m pl) >>= fun g => callWith pos g.1 g.2 (backTo pos (starEach (e :: es) X.env)) (backToKw pos (keywordEach [] X.env)))) :
    PE X (.Call (.Attribute o m apos) (e :: es) [] pos) (tMethD C m sp E ta t) := by
  constructor
  intro pins s σ H Q I h
  refine PySem.W.methodCall_KW (pl := pl) (thn (ho.run pins s σ H _ I h) ?_) tree
  rintro u s1' ⟨x, H1, I1, ru, a, dx, fs, ⟨rfl, ha, hn⟩, q⟩
  cases (show u = Value.ref a from ru)
  refine getmeth_ok I1 ha cl me hn ?_
  refine PySem.W.callWith_K (first := [.ref a]) (h₀ := X.base) I1.ok.mod.kin me.kp (thn (pa.run pos pins s1' σ H1 _ I1 q) ?_) s1 s2
  rintro us s2' ⟨vs, H2, I2, rs, q2⟩
  refine ⟨I2.kIn, ?_⟩
  exact run_fnS F room bi (px σ) I2 (us := .ref a :: us) (vs := .ref a :: vs) (.cons rfl rs) q2
theorem pe_methD0 {pl : Sem Bool} (ho : PE X o ta) (cl : Cls X.K C) (me : Meth X.K C m f) (F : FnOk X.prog X.w X.K X.mg X.base CX k f fd ps sp) (room : Room k X.A) (bi : Binds X.K fd ps []) (px : ∀ σ, PassesAt CX X σ (E σ))
    (tree : eval (.Call (.Attribute o m apos) [] [] pos) X.env = (eval o X.env >>= fun ov => standAt apos.atName >>= fun _ => holding [ov] (getMethod ov m pl) >>= fun g => callWith pos g.1 g.2 (backTo pos (starEach [] X.env)) (backToKw pos (keywordEach [] X.env)))) :
    PE X (.Call (.Attribute o m apos) [] [] pos) (tMethD C m sp E ta tNil) := by
  constructor
  intro pins s σ H Q I h
  refine PySem.W.methodCall_KW (pl := pl) (thn (ho.run pins s σ H _ I h) ?_) tree
  rintro u s1' ⟨x, H1, I1, ru, a, dx, fs, ⟨rfl, ha, hn⟩, q⟩
  cases (show u = Value.ref a from ru)
  refine getmeth_ok I1 ha cl me hn ?_
  exact PySem.W.callWith_K0 (first := [.ref a]) I1.kIn me.kp (run_fnS F room bi (px σ) I1 (us := [.ref a]) (vs := [.ref a]) (.cons rfl .nil) q)
theorem run_makeD {pins : List (Addr × Obj)} {σ : L2.St} {H : Hp} {s : Shared} {Q : VK} {us : List Value} {vs : List V} (M : Mk X.K C f) (F : FnOk X.prog X.w X.K X.mg X.base CX k f fd ps sp) (room : RoomM k X.A) (bi : Binds X.K fd ps []) (px : PassesAt CX X σ (E σ))
    (I : Inv X pins σ H s) (r : Vals vs us)
    (h : ∀ y dx, H y = none → H dx = none → dx ≠ y → sp (.ref y :: vs) (upd (upd H dx (.own y)) y (.ins C dx [])) (fun v H2 => v = .non ∧ Q (.ref y) H2) (E σ)) :
    wpAny (model X.prog X.w) X.A (call (.ref C) us) (EP X pins σ Q) X.xe s := by
  have q := h (s.heap.objs.size + 1) s.heap.objs.size (I.hok.fresh (Nat.le_succ _)) (I.hok.fresh (Nat.le_refl _)) (Nat.ne_of_lt (Nat.lt_succ_self _))
  have J := I.made (C := C)
  have rr : Vals (V.ref (s.heap.objs.size + 1) :: vs) (Value.ref (s.heap.objs.size + 1) :: us) := .cons rfl r
  have b2 := bi _ (Value.ref (s.heap.objs.size + 1) :: us) J.kIn (by rw [List.append_nil, ← rr.length]; exact F.len _ _ _ _ q)
  rw [List.append_nil] at b2
  refine wpAny_call (make_map (f := f) I.kIn M.makes M.init (beq_iff_eq.mp M.fn) (codeAny_mono (F.run _ X.stack _ _ _ _ _ _ _ (room.m C us) (J.env0.make C us []) b2 rr q) fun fl s2 hq => ?_))
  match fl, hq with
  | .error _, hq => exact px pins _ _ _ s2 J hq
  | .ok (.ret u), hq =>
    obtain ⟨v, G, J2, rv, ev, q3⟩ := J.after hq
    subst ev
    exact ⟨rv, ⟨V.ref (s.heap.objs.size + 1), _, J2, rfl, q3⟩⟩
  | .ok .next, hq => exact hq.elim
  | .ok .brk, hq => exact hq.elim
  | .ok .cont, hq => exact hq.elim
theorem pe_makeD (M : Mk X.K C f) (F : FnOk X.prog X.w X.K X.mg X.base CX k f fd ps sp) (room : RoomM k X.A) (gl : Gl X x) (mx : X.mg x = some (.ref C)) (bi : Binds X.K fd ps []) (px : ∀ σ, PassesAt CX X σ (E σ)) (pa : PA X (e :: es) t)
    (nd : (x == ("__debug__" : Str)) = false) (s1 : starEach (e :: es) X.env = (false, eval e X.env) :: starEach es X.env) (s2 : (backTo pos (starEach es X.env)).any (·.1) = false) : PE X (.Call (.Name x p) (e :: es) [] pos) (tMakeD C sp E t) := by
  constructor
  intro pins s σ H Q I h
  refine wpAny_Call_Name_kw (ld_glob I gl mx ?_ nd)
  refine PySem.W.callWith_K (h₀ := X.base) I.ok.mod.kin M.kp (thn (pa.run pos pins s σ H _ I h) ?_) s1 s2
  rintro us s1' ⟨vs, H1, I1, rs, q⟩
  exact ⟨I1.kIn, run_makeD M F room bi (px σ) I1 rs q⟩
end
/-! ### over data -/
/-- what an attribute is read of: nothing but a name, an item -/
def okObj : Expr → Bool
  | .Name _ _ => true
  | .Subscript _ _ _ => true
  | _ => false
theorem okObj_base {o : Expr} (h : okObj o = true) (m : Str) (env : Env) : attributeBase o m env (eval o env) = eval o env := by
  cases o <;> first | rfl | cases h
theorem tree_of {o : Expr} {m : Str} {apos pos : Pos} {args : List Expr} {env : Env} (hb : attributeBase o m env (eval o env) = eval o env) (hl : (apos.endLine == pos.line) = true)
    (hf : methodCallForm (args.length + ([] : List Keyword).length) (backTo pos (starEach args env)) (backToKw pos (keywordEach [] env)) = true) :
    eval (.Call (.Attribute o m apos) args [] pos) env = (eval o env >>= fun ov => standAt apos.atName >>= fun _ => holding [ov] (getMethod ov m (importBound o env >>= fun b => pure (b.getD true))) >>= fun g => callWith pos g.1 g.2 (backTo pos (starEach args env)) (backToKw pos (keywordEach [] env))) := by
  rw [arm_eval_Call, hb]
  have hp : methodCallPos true o env apos pos = pure pos := by unfold methodCallPos; simp [hl]
  unfold methodCall
  rw [hf]
  rw [hp]
  rfl
theorem form_of {e : Expr} {es : List Expr} {pos : Pos} {env : Env} (s1 : starEach (e :: es) env = (false, eval e env) :: starEach es env) (s2 : (backTo pos (starEach es env)).any (·.1) = false) (hn : (e :: es).length < 30) :
    methodCallForm ((e :: es).length + ([] : List Keyword).length) (backTo pos (starEach (e :: es) env)) (backToKw pos (keywordEach [] env)) = true := by
  have h1 : (backTo pos (starEach (e :: es) env)).all (!·.1) = true := by
    rw [s1]
    have : (backTo pos (starEach es env)).all (!·.1) = true := by
      rw [List.all_eq_true]
      intro x hx
      rw [List.any_eq_false] at s2
      simpa using s2 x hx
    simpa [backTo] using this
  unfold methodCallForm
  rw [h1]
  have : (backToKw pos (keywordEach [] env)) = [] := rfl
  rw [this]
  simpa using hn
section
variable {C : Cfg} {fnm clm : Nat → Option Addr} {Γ : Gam} {N : List Str} {sc : Scope} {X : Cx} {W : WX}
theorem je_fld (k : COk C fnm clm Γ N sc X W) {c : Nat} {oc : Oc} {o : Expr} {f : Str} {pos : Pos} {eo : E} (hc : C.ocs[c]? = some oc) (hf : f ∈ oc.fds) (hb : okObj o = true) (ho : JE fnm clm X W o (wE Γ eo)) : JE fnm clm X W (.Attribute o f pos) (wE Γ (.fld c eo f)) := by
  obtain ⟨_, ta, pa, ra⟩ := ho
  obtain ⟨ca, h1, h2, h3, h4, _⟩ := (k.ocs c oc hc).ex
  refine ⟨rfl, _, pe_fld pa (okObj_base hb _ _), fun S σ σD H G Q QD XD R sl h hQ hX => ?_⟩
  refine ra S σ σD H G _ _ XD R sl h (fun v S1 H1 d G1 st1 R1 r1 h5 => ?_) hX
  obtain ⟨d2, e2, q⟩ := ok_of h5
  obtain ⟨a, fs, rfl, hg, hl⟩ := attD_by e2
  cases dat_ref r1
  obtain ⟨ca', dx, vs, g1, g2, g3⟩ := R1.cell a _ hg
  cases h1.symm.trans g1
  obtain ⟨v2, l2, r2⟩ := g3.get hl
  exact ⟨a, ca, dx, vs, v2, rfl, g2, h3, h4 f hf, l2, (hQ.step st1).here R1 r2 q⟩
theorem meth_of (k : COk C fnm clm Γ N sc X W) {c i : Nat} {oc : Oc} {m x : Str} {n : Nat} (hc : C.ocs[c]? = some oc) (hm : (m, i) ∈ oc.mts) (hf : C.fns[i]? = some (x, n)) :
    ∃ ca g fd ps l, fnm (1000 + c) = some ca ∧ Cls X.K ca ∧ Meth X.K ca m g ∧ ps.length = n ∧ Binds X.K fd ps [] ∧ RoomM l X.A ∧ FnOk X.prog X.w X.K X.mg X.base (L2.CX X.prog X.w) l g fd ps (lift X.K fnm clm n (Γ.sp i)) := by
  obtain ⟨l, hr, hk⟩ := k.fnk
  obtain ⟨ca, h1, h2, h3, h4, h5, _⟩ := (k.ocs c oc hc).ex
  obtain ⟨g, g1, g2⟩ := h5 _ hm
  obtain ⟨a, fd, ps, q0, q1, _, _, q4, q5⟩ := (hk i (x, n) hf).ex
  cases g1.symm.trans q1
  exact ⟨ca, g, fd, ps, l, h1, h3, g2, q0, q4, hr, q5⟩
theorem je_mcl (k : COk C fnm clm Γ N sc X W) {c i n : Nat} {oc : Oc} {m x : Str} {o e : Expr} {es : List Expr} {apos pos : Pos} {eo : E} {ees : Es} (hc : C.ocs[c]? = some oc) (hm : (m, i) ∈ oc.mts) (hf : C.fns[i]? = some (x, n)) (hn : (e :: es).length + 1 = n) (hl : (apos.endLine == pos.line) = true) (hz : (e :: es).length < 30)
    (hb : okObj o = true) (ho : JE fnm clm X W o (wE Γ eo)) (h : JA fnm clm X W (e :: es) (wEs Γ ees)) : JE fnm clm X W (.Call (.Attribute o m apos) (e :: es) [] pos) (wE Γ (.mcl c m i eo ees)) := by
  obtain ⟨_, to, po, ro⟩ := ho
  obtain ⟨ss, ta, pa, ra⟩ := h
  obtain ⟨ca, g, fd, ps, l, h1, h3, hme, _, hbi, hr, F⟩ := meth_of k hc hm hf
  have s1 := star_no (ss e List.mem_cons_self) es X.env
  have s2 := star_all (fun y hy => ss y (List.mem_cons_of_mem _ hy)) pos X.env
  refine ⟨rfl, tMethD ca m (lift X.K fnm clm n (Γ.sp i)) (WE W) to ta, ?_, fun S σ σD H G Q QD XD R sl h hQ hX => ?_⟩
  · exact pe_methD po h3 hme F hr.r hbi (fun σ => passAt k.tk σ) pa s1 s2 (tree_of (okObj_base hb _ _) hl (form_of s1 s2 hz))
  refine ro S σ σD H G _ _ XD R sl h (fun v S1 H1 d G1 st1 R1 r1 h5 => ?_) hX
  obtain ⟨h5, h6⟩ := h5
  obtain ⟨a, fs, rfl, hg, hno⟩ := insB_by h5
  cases dat_ref r1
  obtain ⟨ca', dx, vs, g1, g2, g3⟩ := R1.cell a _ hg
  cases h1.symm.trans g1
  refine ⟨a, dx, vs, ⟨rfl, g2, g3.none_of hno⟩, ?_⟩
  refine ra S1 σ σD H1 G1 _ _ XD R1 (sl.step R st1) h6 (fun us S2 H2 ds G2 hlen st2 R2 r2 h7 => ?_) (hX.step st1)
  exact ⟨by rw [List.length_cons, hlen]; exact hn, S2, G2, .ref a :: ds, QD, XD, R2, .cons (.ref a) r2, h7, hQ.step (st1.trans st2), hX.step (st1.trans st2)⟩
theorem je_mcl0 (k : COk C fnm clm Γ N sc X W) {c i n : Nat} {oc : Oc} {m x : Str} {o : Expr} {apos pos : Pos} {eo : E} (hc : C.ocs[c]? = some oc) (hm : (m, i) ∈ oc.mts) (hf : C.fns[i]? = some (x, n)) (hn : 1 = n) (hl : (apos.endLine == pos.line) = true)
    (hb : okObj o = true) (ho : JE fnm clm X W o (wE Γ eo)) : JE fnm clm X W (.Call (.Attribute o m apos) [] [] pos) (wE Γ (.mcl c m i eo .n)) := by
  obtain ⟨_, to, po, ro⟩ := ho
  obtain ⟨ca, g, fd, ps, l, h1, h3, hme, _, hbi, hr, F⟩ := meth_of k hc hm hf
  refine ⟨rfl, tMethD ca m (lift X.K fnm clm n (Γ.sp i)) (WE W) to tNil, ?_, fun S σ σD H G Q QD XD R sl h hQ hX => ?_⟩
  · exact pe_methD0 po h3 hme F hr.r hbi (fun σ => passAt k.tk σ) (tree_of (okObj_base hb _ _) hl rfl)
  refine ro S σ σD H G _ _ XD R sl h (fun v S1 H1 d G1 st1 R1 r1 h5 => ?_) hX
  obtain ⟨h5, h6⟩ := h5
  obtain ⟨a, fs, rfl, hg, hno⟩ := insB_by h5
  cases dat_ref r1
  obtain ⟨ca', dx, vs, g1, g2, g3⟩ := R1.cell a _ hg
  cases h1.symm.trans g1
  refine ⟨a, dx, vs, ⟨rfl, g2, g3.none_of hno⟩, ?_⟩
  exact ⟨hn, S1, G1, [.ref a], QD, XD, R1, .cons (.ref a) .nil, h6, hQ.step st1, hX.step st1⟩
/-- what a class's making brings -/
theorem mak_ref (k : COk C fnm clm Γ N sc X W) {c ca n : Nat} {i : Nat} {S S1 : Addr → Option Bool} {σ : L2.St} {H H1 : Hp} {G G1 : HD} {QD : KD} {Q : VK} {XD : KX} {vs : List V} {ds : List D} (hc : fnm (1000 + c) = some ca) (hn : vs.length + 1 = n) (R1 : Hel X.K fnm clm S1 H1 G1) (r : DatAll X.K fnm S1 H1 G1 vs ds)
    (h : ∀ p, G1 p = none → Γ.sp i (.ref p :: ds) (updD G1 p (.ins c [])) (fun d H2 => d = .non ∧ QD (.ref p) H2) XD) (st : Step S H G S1 H1 G1) (hQ : PostE X.K fnm clm S H G QD Q) (hX : PostX X.K fnm clm W σ S H G XD) :
    ∀ y dx, H1 y = none → H1 dx = none → dx ≠ y → lift X.K fnm clm n (Γ.sp i) (.ref y :: vs) (upd (upd H1 dx (.own y)) y (.ins ca dx [])) (fun v H2 => v = .non ∧ Q (.ref y) H2) (WE W σ) := by
  intro y dx hy hdx ne
  have R2 : Hel X.K fnm clm S1 (upd H1 dx (.own y)) G1 := R1.newU hdx
  have s2 : Step S1 H1 G1 S1 (upd H1 dx (.own y)) G1 := Step.newU hdx
  have hy2 : upd H1 dx (.own y) y = none := by rw [upd_ne (fun z => ne z.symm)]; exact hy
  have s3 : Step S1 (upd H1 dx (.own y)) G1 S1 (upd (upd H1 dx (.own y)) y (.ins ca dx [])) (updD G1 y (.ins c [])) := Step.new hy2
  have R3 : Hel X.K fnm clm S1 (upd (upd H1 dx (.own y)) y (.ins ca dx [])) (updD G1 y (.ins c [])) := R2.putI hc s3 (R2.free hy2).2 .nil
  have s4 := s2.trans s3
  refine ⟨hn, S1, _, .ref y :: ds, _, XD, R3, .cons (.ref y) (r.step R1 s4), h y (R1.free hy).1, fun v S' H' d G' st' R' rv q => ?_, fun x cx S' H' G' st' R' hcx hx => hX x cx S' H' G' ((st.trans s4).trans st') R' hcx hx⟩
  obtain ⟨rfl, q⟩ := q
  cases rv
  exact ⟨rfl, hQ _ S' H' _ G' ((st.trans s4).trans st') R' (.ref y) q⟩
theorem je_mak (k : COk C fnm clm Γ N sc X W) {c i n : Nat} {oc : Oc} {x : Str} {e : Expr} {es : List Expr} {p pos : Pos} {ees : Es} (hc : C.ocs[c]? = some oc) (hi : oc.ini = some i) (hf : C.fns[i]? = some (x, n)) (hn : (e :: es).length + 1 = n)
    (hx : nameOk oc.x = true) (hg : Gl X oc.x) (h : JA fnm clm X W (e :: es) (wEs Γ ees)) : JE fnm clm X W (.Call (.Name oc.x p) (e :: es) [] pos) (wE Γ (.mak c i ees)) := by
  obtain ⟨ss, ta, pa, ra⟩ := h
  obtain ⟨l, hr, hk⟩ := k.fnk
  obtain ⟨ca, h1, h2, h3, h4, _, h6⟩ := (k.ocs c oc hc).ex
  obtain ⟨g, g1, M⟩ := h6 i hi
  obtain ⟨a, fd, ps, q0, q1, _, _, q4, q5⟩ := (hk i (x, n) hf).ex
  cases g1.symm.trans q1
  have s1 := star_no (ss e List.mem_cons_self) es X.env
  have s2 := star_all (fun y hy => ss y (List.mem_cons_of_mem _ hy)) pos X.env
  refine ⟨rfl, _, pe_makeD M q5 hr hg h2 q4 (fun σ => passAt k.tk σ) pa (name_debug hx).1 s1 s2, fun S σ σD H G Q QD XD R sl h hQ hX => ?_⟩
  refine ra S σ σD H G _ _ XD R sl h (fun vs S1 H1 ds G1 hlen st1 R1 r1 h5 => ?_) hX
  exact mak_ref k h1 (by rw [hlen]; exact hn) R1 r1 h5 st1 hQ hX
theorem js_setF (k : SOk C fnm clm Γ N sc X W) {c : Nat} {oc : Oc} {o e : Expr} {f : Str} {pos' pos : Pos} {eo ee : E} (hc : C.ocs[c]? = some oc) (hf : f ∈ oc.fds) (hs : isComp e = false) (ho : JE fnm clm X W o (wE Γ eo)) (he : JE fnm clm X W e (wE Γ ee)) :
    JS fnm clm X W (.Assign [.Attribute o f pos'] e pos) (wS Γ (.setF c eo f ee)) := by
  obtain ⟨_, ta, pa, ra⟩ := he
  obtain ⟨_, to, po, ro⟩ := ho
  obtain ⟨ca, h1, h2, h3, h4, _⟩ := (k.ocs c oc hc).ex
  refine ⟨_, ps_fld po pa (swap_no hs _ _ _), fun S σ σD H G D ED R sl h hP hX => ?_⟩
  refine ra S σ σD H G _ _ _ R sl h (fun v S1 H1 d G1 st1 R1 r1 h5 => ?_) (hX.at R sl)
  refine ro S1 σ σD H1 G1 _ _ _ R1 (sl.step R st1) h5 (fun vo S2 H2 x G2 st2 R2 r2 h6 => ?_) ((hX.at R sl).step st1)
  cases x <;> try exact h6.elim
  rename_i a
  cases dat_ref r2
  obtain ⟨c', fs, hg, ⟨rfl, hl⟩, q⟩ := ins_of (P := fun c' fs => (c' = c ∧ fs.length < 1000) ∧ ED.nx σD (updD G2 a (.ins c (putFD f d fs)))) h6
  obtain ⟨ca', dx, vs, g1, g2, g3⟩ := R2.cell a _ hg
  cases h1.symm.trans g1
  have ne : G2 a ≠ none := by rw [hg]; simp
  have st3 : Step S2 H2 G2 S2 (upd H2 a (.ins ca dx (putF f v vs))) (updD G2 a (.ins c' (putFD f d fs))) := .write ne
  have R3 := R2.putI h1 st3 (R2.live ne) (FsAll.put (r1.step R1 st2) g3)
  have st := (st1.trans st2).trans st3
  exact ⟨a, ca, dx, vs, rfl, g2, h3, h4 f hf, by rw [g3.length]; exact hl, hP.nx σ σD S2 _ _ st R3 (sl.step R st) q⟩
theorem js_augF (k : SOk C fnm clm Γ N sc X W) {c : Nat} {oc : Oc} {o e : Expr} {f : Str} {pos' pos : Pos} {eo ee : E} (hc : C.ocs[c]? = some oc) (hf : f ∈ oc.fds) (ho : JE fnm clm X W o (wE Γ eo)) (he : JE fnm clm X W e (wE Γ ee)) :
    JS fnm clm X W (.AugAssign (.Attribute o f pos') .Add e pos) (wS Γ (.augF c eo f ee)) := by
  obtain ⟨_, ta, pa, ra⟩ := he
  obtain ⟨_, to, po, ro⟩ := ho
  obtain ⟨ca, h1, h2, h3, h4, _⟩ := (k.ocs c oc hc).ex
  refine ⟨_, ps_fldaug po pa in_add, fun S σ σD H G D ED R sl h hP hX => ?_⟩
  refine ro S σ σD H G _ _ _ R sl h (fun vo S1 H1 x G1 st1 R1 r1 h5 => ?_) (hX.at R sl)
  obtain ⟨dv, e2, h6⟩ := ok_of h5
  obtain ⟨a, fs, rfl, hg, hl⟩ := attD_by e2
  cases dat_ref r1
  obtain ⟨ca', dx, vs, g1, g2, g3⟩ := R1.cell a _ hg
  cases h1.symm.trans g1
  obtain ⟨v2, l2, r2⟩ := g3.get hl
  refine ⟨a, ca, dx, vs, v2, rfl, g2, h3, h4 f hf, l2, ?_⟩
  refine ra S1 σ σD H1 G1 _ _ _ R1 (sl.step R st1) h6 (fun vy S2 H2 y G2 st2 R2 r3 h7 => ?_) ((hX.at R sl).step st1)
  cases dv <;> try exact h7.elim
  cases y <;> try exact h7.elim
  rename_i i j
  cases dat_int r2; cases dat_int r3
  obtain ⟨c', fs', hg2, ⟨rfl, hl2⟩, q⟩ := ins_of (P := fun c' fs => (c' = c ∧ fs.length < 1000) ∧ ED.nx σD (updD G2 a (.ins c (putFD f (.int (i + j)) fs)))) h7
  obtain ⟨ca', dx', vs', g1', g2', g3'⟩ := R2.cell a _ hg2
  cases h1.symm.trans g1'
  have ne : G2 a ≠ none := by rw [hg2]; simp
  have st3 : Step S2 H2 G2 S2 (upd H2 a (.ins ca dx' (putF f (.int (i + j)) vs'))) (updD G2 a (.ins c' (putFD f (.int (i + j)) fs'))) := .write ne
  have R3 := R2.putI h1 st3 (R2.live ne) (FsAll.put (.int _) g3')
  have st := (st1.trans st2).trans st3
  exact ⟨i, j, rfl, rfl, dx', vs', g2', by rw [g3'.length]; exact hl2, hP.nx σ σD S2 _ _ st R3 (sl.step R st) q⟩
end
end DL

namespace DL
open PySem PySem.Spec PyProof.Rows L2
/-! ## 11. Does the text match? -/
def visB (sc : Scope) (x : Str) : Bool := match sc.names.lookup x with | some .local => true | some .cell => true | some .free => true | _ => false
def glB (sc : Scope) (x : Str) : Bool := match sc.names.lookup x with | some .globalImplicit => true | _ => false
def conB (c : Const) (d : D) : Bool := match c, d with
  | .none, .non => true
  | .bool a, .bl b => decide (a = b)
  | .int i, .int j => decide (i = j)
  | .str s, .str l => decide (s = mkStr l) && PyData.strOk s && decide (l.length ≤ lim)
  | _, _ => false
def bopT (b : Bool) (op : BoolOp) : Bool := match b, op with
  | true, .And => true
  | false, .Or => true
  | _, _ => false
def notSet : Expr → Bool
  | .Set .. => false
  | _ => true
mutual
def mG (N : List Str) (sc : Scope) : Tgt → Expr → Bool
  | .n i, e => match e with
    | .Name x _ => decide (N[i]? = some x) && locB sc x
    | _ => false
  | .t ts, e => match e with
    | .Tuple es _ _ => mGs N sc ts es
    | _ => false
def mGs (N : List Str) (sc : Scope) : List Tgt → List Expr → Bool
  | [], es => es.isEmpty
  | t :: ts, es => match es with
    | e :: es => mG N sc t e && mGs N sc ts es
    | [] => false
end
def isTupT : Expr → Bool
  | .Tuple .. => true
  | _ => false
mutual
def mE (C : Cfg) (N : List Str) : E → Scope → Expr → Bool
  | .var i => fun sc e => match e with
    | .Name x _ => decide (N[i]? = some x) && visB sc x && nameOk x
    | _ => false
  | .con d => fun sc e => match e with
    | .Constant c _ _ => conB c d
    | _ => false
  | .glb i => fun sc e => match e with
    | .Name x _ => decide (C.gls[i]? = some x) && glB sc x && nameOk x
    | _ => false
  | .bin _ o a b => fun sc e => match e with
    | .BinOp l op r _ => bopB o op && mE C N a sc l && mE C N b sc r
    | _ => false
  | .neg a => fun sc e => match e with
    | .UnaryOp .USub x _ => mE C N a sc x
    | _ => false
  | .nt a => fun sc e => match e with
    | .UnaryOp .Not x _ => mE C N a sc x
    | _ => false
  | .boo b es => fun sc e => match e with
    | .BoolOp op vs _ => bopT b op && mBo C N es sc vs
    | _ => false
  | .cmp o a b => fun sc e => match e with
    | .Compare l [op] [r] _ => copB o op && !behindInMarks op r && mE C N a sc l && mE C N b sc r
    | _ => false
  | .chn o p a b c => fun sc e => match e with
    | .Compare l [op, op'] [m, r] _ => copB o op && copB p op' && !lastMarks [op, op'] [m, r] && mE C N a sc l && mE C N b sc m && mE C N c sc r
    | _ => false
  | .ife t a b => fun sc e => match e with
    | .IfExp x y z _ => mT C N t sc x && mE C N a sc y && mE C N b sc z
    | _ => false
  | .tup es => fun sc e => match e with
    | .Tuple xs _ _ => decide (xs.length ≤ 1000) && mEs C N es sc xs
    | _ => false
  | .lst _ es => fun sc e => match e with
    | .List xs _ => decide (xs.length ≤ 1000) && mEs C N es sc xs
    | _ => false
  | .idx a b => fun sc e => match e with
    | .Subscript x y _ => !isSlice y && mE C N a sc x && mE C N b sc y
    | _ => false
  | .sl _ a lo hi => fun sc e => match e with
    | .Subscript x (.Slice l h none _) _ => mE C N a sc x && (match l with | none => isNo lo | some y => !isNo lo && mE C N lo sc y) && (match h with | none => isNo hi | some y => !isNo hi && mE C N hi sc y)
    | _ => false
  | .no => fun _ _ => false
  | .call f es => fun sc e => match e with
    | .Call (.Name x _) (y :: ys) [] _ => decide (C.fns[f]? = some (x, (y :: ys).length)) && nameOk x && glB sc x && mEs C N es sc (y :: ys)
    | _ => false
  | .bf _ f es => fun sc e => match e with
    | .Call (.Name x _) (y :: ys) [] _ => decide (bfName f = x) && glB sc x && mEs C N es sc (y :: ys)
    | _ => false
  | .isi a ts => fun sc e => match e with
    | .Call (.Name f _) [x, .Name t _] [] _ => (match ts with
      | [ty] => decide (f = "isinstance") && decide (tyStr ty = t) && decide (ty ≠ .non) && glB sc "isinstance" && glB sc t && mE C N a sc x
      | _ => false)
    | _ => false
  | .mt m o es => fun sc e => match e with
    | .Call (.Attribute ob x apos) args [] cpos => mtYes m && decide (mtName m = x) && okBase ob && (apos.endLine == cpos.line) && mE C N o sc ob && decide (args.length ≤ 1) && mEs C N es sc args
    | _ => false
  | .lc _ e g it c own => fun sc x => match x with
    | .ListComp elt [⟨tg, iter, ifs, a⟩] scope _ => decide (a = 0) && blkC N sc scope own && notSet iter && tIn g (own.map (·.2)) && mG N scope g tg && mI C N it sc tg iter && mC C N c (relS scope sc) ifs && mE C N e (relS scope sc) elt
    | _ => false
  | .dlen k v g it c own => fun sc x => match x with
    | .Call (.Name f _) [.DictComp kx vx [⟨tg, iter, ifs, a⟩] scope _] [] _ => decide (f = "len") && glB sc "len" && (decide (a = 0) && blkC N sc scope own && notSet iter && tIn g (own.map (·.2)) && mG N scope g tg && mI C N it sc tg iter && mC C N c (relS scope sc) ifs && mE C N k (relS scope sc) kx && mE C N v (relS scope sc) vx)
    | _ => false
  | .dix a b => fun sc e => match e with
    | .Subscript (.Call (.Name f _) [x] [] _) y _ => decide (f = "dict") && glB sc "dict" && !isSlice y && mE C N a sc x && mE C N b sc y
    | _ => false
  | .isc _ _ => fun _ _ => false
  | .lcl _ e g it c own => fun sc x => match x with
    | .ListComp elt [⟨tg, iter, ifs, a⟩] scope _ => decide (a = 0) && blkC N sc scope own && notSet iter && tIn g (own.map (·.2)) && mG N scope g tg && mE C N it sc iter && mC C N c (relS scope sc) ifs && mE C N e (relS scope sc) elt
    | _ => false
  | .fld c a f => fun sc e => match e with
    | .Attribute ob x _ => decide (f = x) && okObj ob && (match C.ocs[c]? with | some oc => decide (f ∈ oc.fds) | none => false) && mE C N a sc ob
    | _ => false
  | .mcl c m i o es => fun sc e => match e with
    | .Call (.Attribute ob x apos) args [] cpos => decide (m = x) && okObj ob && (apos.endLine == cpos.line) && (match C.ocs[c]? with | some oc => decide ((m, i) ∈ oc.mts) | none => false) && (match C.fns[i]? with | some y => decide (args.length + 1 = y.2) | none => false) && decide (args.length < 30) && mE C N o sc ob && mEs C N es sc args
    | _ => false
  | .mak c i es => fun sc e => match e with
    | .Call (.Name x _) (y :: ys) [] _ => (match C.ocs[c]? with | some oc => decide (oc.x = x) && decide (oc.ini = some i) | none => false) && nameOk x && glB sc x && (match C.fns[i]? with | some z => decide ((y :: ys).length + 1 = z.2) | none => false) && mEs C N es sc (y :: ys)
    | _ => false
  | .rep a => fun sc e => match e with
    | .Call (.Name f _) [x] [] _ => C.rp && decide (f = "repr") && glB sc "repr" && mE C N a sc x
    | _ => false
  | .frz a => fun sc e => mE C N a sc e
  | .frD _ a => fun sc e => mE C N a sc e
  | .lzp _ es => fun sc e => match e with
    | .Call (.Name f _) [.Call (.Name g _) [x, y] [] _] [] _ => decide (f = "list") && decide (g = "zip") && glB sc "list" && glB sc "zip" && mEs C N es sc [x, y]
    | _ => false
  | .rg1 _ t a => fun sc e => match e with
    | .Call (.Name f _) [.Call (.Name g _) [x] [] _] [] _ => decide ((match t with | true => "tuple" | false => "list") = f) && decide (g = "range") && glB sc f && glB sc "range" && mE C N a sc x
    | _ => false
  | .rg2 _ t a b => fun sc e => match e with
    | .Call (.Name f _) [.Call (.Name g _) [x, y] [] _] [] _ => decide ((match t with | true => "tuple" | false => "list") = f) && decide (g = "range") && glB sc f && glB sc "range" && mE C N a sc x && mE C N b sc y
    | _ => false
def mEs (C : Cfg) (N : List Str) : Es → Scope → List Expr → Bool
  | .n => fun _ es => es.isEmpty
  | .c e es => fun sc xs => match xs with
    | x :: xs => mE C N e sc x && mEs C N es sc xs
    | [] => false
def mBo (C : Cfg) (N : List Str) : Es → Scope → List Expr → Bool
  | .n => fun _ _ => false
  | .c e .n => fun sc xs => match xs with
    | [x] => mE C N e sc x
    | _ => false
  | .c e (.c e' es) => fun sc xs => match xs with
    | x :: y :: ys => mE C N e sc x && mBo C N (.c e' es) sc (y :: ys)
    | _ => false
def mT (C : Cfg) (N : List Str) : T → Scope → Expr → Bool
  | .of e => fun sc x => plainT x && mE C N e sc x
  | .nt t => fun sc x => match x with
    | .UnaryOp .Not y _ => mT C N t sc y
    | _ => false
  | .bo b ts => fun sc x => match x with
    | .BoolOp op vs _ => bopT b op && mTs C N ts sc vs
    | _ => false
  | .cmp o a b => fun sc e => match e with
    | .Compare l [op] [r] _ => copB o op && !behindInMarks op r && mE C N a sc l && mE C N b sc r
    | _ => false
  | .chn o p a b c => fun sc e => match e with
    | .Compare l [op, op'] [m, r] _ => copB o op && copB p op' && !lastMarks [op, op'] [m, r] && mE C N a sc l && mE C N b sc m && mE C N c sc r
    | _ => false
  | .yes => fun _ _ => false
def mTs (C : Cfg) (N : List Str) : Ts → Scope → List Expr → Bool
  | .n => fun _ _ => false
  | .c e .n => fun sc xs => match xs with
    | [x] => mT C N e sc x
    | _ => false
  | .c e (.c e' es) => fun sc xs => match xs with
    | x :: y :: ys => mT C N e sc x && mTs C N (.c e' es) sc (y :: ys)
    | _ => false
/-- the condition of a comprehension -/
def mC (C : Cfg) (N : List Str) : T → Scope → List Expr → Bool
  | .yes => fun _ xs => xs.isEmpty
  | .of e => fun sc xs => match xs with | [x] => plainT x && mE C N e sc x | _ => false
  | .nt t => fun sc xs => match xs with | [.UnaryOp .Not y _] => mT C N t sc y | _ => false
  | .bo b ts => fun sc xs => match xs with | [.BoolOp op vs _] => bopT b op && mTs C N ts sc vs | _ => false
  | .cmp o a b => fun sc xs => match xs with
    | [.Compare l [op] [r] _] => copB o op && !behindInMarks op r && mE C N a sc l && mE C N b sc r
    | _ => false
  | .chn o p a b c => fun sc xs => match xs with
    | [.Compare l [op, op'] [m, r] _] => copB o op && copB p op' && !lastMarks [op, op'] [m, r] && mE C N a sc l && mE C N b sc m && mE C N c sc r
    | _ => false
def mI (C : Cfg) (N : List Str) : I → Scope → Expr → Expr → Bool
  | .of e => fun sc _ x => mE C N e sc x
  | .rng es => fun sc _ x => match x with
    | .Call (.Name f _) args [] _ => decide (f = "range") && glB sc "range" && decide (1 ≤ args.length) && decide (args.length ≤ 3) && mEs C N es sc args
    | _ => false
  | .enu e => fun sc tg x => match x with
    | .Call (.Name f _) [y] [] _ => decide (f = "enumerate") && glB sc "enumerate" && isTupT tg && mE C N e sc y
    | _ => false
  | .zip es => fun sc tg x => match x with
    | .Call (.Name f _) [y, y'] [] _ => decide (f = "zip") && glB sc "zip" && isTupT tg && mEs C N es sc [y, y']
    | _ => false
  | .rev e => fun sc _ x => match x with
    | .Call (.Name f _) [y] [] _ => decide (f = "reversed") && glB sc "reversed" && mE C N e sc y
    | _ => false
end
/-! an except clause's suite -/
mutual
def mU (C : Cfg) (N : List Str) : E → Scope → Expr → Bool
  | .var i => fun sc e => match e with
    | .Name x _ => decide (N[i]? = some x) && visB sc x && nameOk x
    | _ => false
  | .con d => fun _ e => match e with
    | .Constant c _ _ => conB c d
    | _ => false
  | .nt a => fun sc e => match e with
    | .UnaryOp .Not x _ => mU C N a sc x
    | _ => false
  | .boo b es => fun sc e => match e with
    | .BoolOp op vs _ => bopT b op && mUBo C N es sc vs
    | _ => false
  | .tup es => fun sc e => match e with
    | .Tuple xs _ _ => decide (xs.length ≤ 1000) && mUs C N es sc xs
    | _ => false
  | .cmp o a b => fun sc e => match e with
    | .Compare l [op] [r] _ => copB o op && !behindInMarks op r && mU C N a sc l && mU C N b sc r
    | _ => false
  | .isc i c => fun sc e => match e with
    | .Call (.Name f _) [.Name n _, .Name k _] [] _ => decide (f = "isinstance") && glB sc "isinstance" && decide (N[i]? = some n) && visB sc n && nameOk n && glB sc k && (match c with
      | none => decide (k = "ValueError")
      | some c => decide (C.cls[c]? = some k) && nameOk k)
    | _ => false
  | .bf _ f es => fun sc e => match e with
    | .Call (.Name g _) [x] [] _ => (match f with | .int => true | _ => false) && decide (g = "int") && glB sc "int" && mUs C N es sc [x]
    | _ => false
  | _ => fun _ _ => false
def mUs (C : Cfg) (N : List Str) : Es → Scope → List Expr → Bool
  | .n => fun _ es => es.isEmpty
  | .c e es => fun sc xs => match xs with
    | x :: xs => mU C N e sc x && mUs C N es sc xs
    | [] => false
def mUBo (C : Cfg) (N : List Str) : Es → Scope → List Expr → Bool
  | .n => fun _ _ => false
  | .c e .n => fun sc xs => match xs with
    | [x] => mU C N e sc x
    | _ => false
  | .c e (.c e' es) => fun sc xs => match xs with
    | x :: y :: ys => mU C N e sc x && mUBo C N (.c e' es) sc (y :: ys)
    | _ => false
end
mutual
def mUT (C : Cfg) (N : List Str) : T → Scope → Expr → Bool
  | .of e => fun sc x => plainT x && mU C N e sc x
  | .nt t => fun sc x => match x with
    | .UnaryOp .Not y _ => mUT C N t sc y
    | _ => false
  | .bo b ts => fun sc x => match x with
    | .BoolOp op vs _ => bopT b op && mUTs C N ts sc vs
    | _ => false
  | _ => fun _ _ => false
def mUTs (C : Cfg) (N : List Str) : Ts → Scope → List Expr → Bool
  | .n => fun _ _ => false
  | .c e .n => fun sc xs => match xs with
    | [x] => mUT C N e sc x
    | _ => false
  | .c e (.c e' es) => fun sc xs => match xs with
    | x :: y :: ys => mUT C N e sc x && mUTs C N (.c e' es) sc (y :: ys)
    | _ => false
end
def mSU (C : Cfg) (N : List Str) (sc : Scope) : SU → List Stmt → Bool
  | .n => fun ss => ss.isEmpty
  | .set i e r => fun ss => match ss with
    | .Assign [.Name x _] v _ :: ss => decide (N[i]? = some x) && locB sc x && !isComp v && mU C N e sc v && mSU C N sc r ss
    | _ => false
  | .ret e => fun ss => match ss with
    | [.Return (some v) _] => mU C N e sc v
    | _ => false
  | .ifr t e r => fun ss => match ss with
    | .If x [.Return (some v) _] [] _ :: ss => mUT C N t sc x && mU C N e sc v && mSU C N sc r ss
    | _ => false
/-- is a comprehension's target swapped in -/
def swB (sc scope : Scope) (x : Str) (px p : Pos) : Bool := (match sc.names.lookup x with | some .local => true | _ => false) && (px.line == p.line) && !(scope.names.any fun (n, k) => n == x && (k == .local || k == .cell))
mutual
def mS (C : Cfg) (N : List Str) (sc : Scope) : S → Stmt → Bool
  | .set i e => fun st => match st with
    | .Assign [.Name x px] v pos => decide (N[i]? = some x) && locB sc x && mE C N e sc v && (match v with
      | .ListComp _ [_] scope p => (match e with | .lc .. => true | _ => false) || !swB sc scope x px p
      | v => !isComp v)
    | _ => false
  | .asg g e => fun st => match st with
    | .Assign [tg] v _ => !isComp v && !isTupE v && mG N sc g tg && mE C N e sc v
    | _ => false
  | .setI o i e => fun st => match st with
    | .Assign [.Subscript ob ix _] v _ => !isSlice ix && !isComp v && mE C N o sc ob && mE C N i sc ix && mE C N e sc v
    | _ => false
  | .setF c o f e => fun st => match st with
    | .Assign [.Attribute ob x _] v _ => decide (f = x) && (match C.ocs[c]? with | some oc => decide (f ∈ oc.fds) | none => false) && !isComp v && mE C N o sc ob && mE C N e sc v
    | _ => false
  | .augF c o f e => fun st => match st with
    | .AugAssign (.Attribute ob x _) .Add v _ => decide (f = x) && (match C.ocs[c]? with | some oc => decide (f ∈ oc.fds) | none => false) && mE C N o sc ob && mE C N e sc v
    | _ => false
  | .aug i o e => fun st => match st with
    | .AugAssign (.Name x _) op v _ => augB o op && decide (N[i]? = some x) && locB sc x && mE C N e sc v
    | _ => false
  | .ex e => fun st => match st with
    | .Expr v _ => !isComp v && mE C N e sc v
    | _ => false
  | .ret e => fun st => match st with
    | .Return (some v) _ => mE C N e sc v
    | _ => false
  | .retN => fun st => match st with
    | .Return none _ => true
    | _ => false
  | .ite t a b => fun st => match st with
    | .If x p q _ => mT C N t sc x && mSs C N sc a p && mSs C N sc b q
    | _ => false
  | .for_ g it b => fun st => match st with
    | .For tg iter body [] _ => notSet iter && mG N sc g tg && mI C N it sc tg iter && mSs C N sc b body
    | _ => false
  | .forL g a b => fun st => match st with
    | .For tg iter body [] _ => notSet iter && mG N sc g tg && mE C N a sc iter && mSs C N sc b body
    | _ => false
  | .whl t b => fun st => match st with
    | .While x body [] _ => mT C N t sc x && mSs C N sc b body
    | _ => false
  | .brk => fun st => match st with | .Break _ => true | _ => false
  | .cnt => fun st => match st with | .Continue _ => true | _ => false
  | .pas => fun st => match st with | .Pass _ => true | _ => false
  | .rai i => fun st => match st with
    | .Raise (some (.Call (.Name x _) [.Constant (.str _) _ _] [] _)) none _ => decide (C.cls[i]? = some x) && nameOk x && glB sc x
    | _ => false
  | .fz _ => fun _ => false
  | .tri b x n h => fun st => match st with
    | .Try body [.ExceptHandler (some (.Name y _)) nm (b₀ :: suite) _] [] [] _ => decide (C.cls[x]? = some y) && nameOk y && glB sc y && mSs C N sc b body && mSU C N sc h (b₀ :: suite) && (match n, nm with
      | none, none => true
      | some i, some z => decide (N[i]? = some z) && (match sc.names.lookup z with | some .local => true | _ => false)
      | _, _ => false)
    | _ => false
def mSs (C : Cfg) (N : List Str) (sc : Scope) : Ss → List Stmt → Bool
  | .n => fun ss => ss.isEmpty
  | .c (.fz _) es => fun ss => mSs C N sc es ss
  | .c s es => fun ss => match ss with
    | st :: ss => mS C N sc s st && mSs C N sc es ss
    | [] => false
end
end DL

namespace DL
open PySem PySem.Spec PyProof.Rows L2
section
variable {C : Cfg} {fnm clm : Nat → Option Addr} {Γ : Gam} {N : List Str}
/-! ## 12. What matches is proved -/
theorem gl_by {sc : Scope} {X : Cx} {W : WX} (k : COk C fnm clm Γ N sc X W) {x : Str} (h : glB sc x = true) : Gl X x := gl_of k h
theorem vis_by {sc : Scope} {X : Cx} {W : WX} (k : COk C fnm clm Γ N sc X W) {x : Str} (h : visB sc x = true) : Vis X.env.scope x := vis_of k h
theorem bop_by {b : Bool} {op : BoolOp} (h : bopT b op = true) : op = bopE b := by
  cases b <;> cases op <;> first | rfl | cases h
theorem set_by {iter : Expr} (h : notSet iter = true) : ∀ elts kk p, iter ≠ .Set elts kk p := by
  rintro elts kk p rfl
  cases h
theorem con_by {c : Const} {d : D} : conB c d = true → (match c, d with | .none, .non => True | .bool a, .bl b => a = b | .int i, .int j => i = j | .str s, .str l => s = mkStr l ∧ PyData.strOk s = true ∧ l.length ≤ sizeLine | _, _ => False) := by
  intro h
  cases c <;> cases d <;> first | (cases h; done) | trivial | exact of_decide_eq_true h | skip
  have h : (decide (_ = mkStr _) && PyData.strOk _ && decide (_ ≤ lim)) = true := h
  simp only [Bool.and_eq_true, decide_eq_true_eq] at h
  exact ⟨h.1.1, h.1.2, by rw [lim_eq]; exact h.2⟩
mutual
theorem sG {scope sc : Scope} {X : Cx} {W : WX} (k : COk C fnm clm Γ N sc X W) (hl : ∀ x, locB scope x = true → L2.Loc X.env.scope x ∧ (X.fn x = true ∨ X.env.scope.names.lookup x = some .local)) : ∀ (g : Tgt) (e : Expr), mG N scope g e = true → JG fnm clm X e g ∧ isStar e = false
  | .n i, e, h => by
    unfold mG at h
    split at h
    · rename_i x p
      simp only [Bool.and_eq_true, decide_eq_true_eq] at h
      obtain ⟨h1, h2⟩ := hl x h.2
      exact ⟨jg_name (by rw [k.hN]; exact k.nd) (by rw [k.hN]; exact h.1) h1 h2, rfl⟩
    · cases h
  | .t ts, e, h => by
    unfold mG at h
    split at h
    · rename_i es kk p
      exact ⟨jg_tup k.calm (sGs k hl ts es h), rfl⟩
    · cases h
theorem sGs {scope sc : Scope} {X : Cx} {W : WX} (k : COk C fnm clm Γ N sc X W) (hl : ∀ x, locB scope x = true → L2.Loc X.env.scope x ∧ (X.fn x = true ∨ X.env.scope.names.lookup x = some .local)) : ∀ (g : List Tgt) (es : List Expr), mGs N scope g es = true → JGs fnm clm X es g
  | [], es, h => by
    unfold mGs at h
    cases es with
    | nil => exact jgs_nil
    | cons _ _ => cases h
  | t :: ts, es, h => by
    unfold mGs at h
    split at h
    · rename_i e es
      simp only [Bool.and_eq_true] at h
      obtain ⟨h1, h2⟩ := sG k hl t e h.1
      exact jgs_cons h2 h1 (sGs k hl ts es h.2)
    · cases h
end
theorem comp_loc {sc scope : Scope} {X' : Cx} {W : WX} (k : COk C fnm clm Γ N (relS scope sc) X' W) (hf : X'.fn = fun x => scope.names.lookup x == some .cell) (x : Str) (h : locB scope x = true) : L2.Loc X'.env.scope x ∧ (X'.fn x = true ∨ X'.env.scope.names.lookup x = some .local) := by
  unfold locB at h
  unfold L2.Loc
  rw [k.hsc]
  split at h
  · rename_i e
    have := lookup_relS_keep (sc := sc) (by decide) e
    exact ⟨.inl this, .inr this⟩
  · rename_i e
    have := lookup_relS_keep (sc := sc) (by decide) e
    exact ⟨.inr this, .inl (by rw [hf]; simp [e])⟩
  · cases h
theorem mC_by {c : T} {sc : Scope} {ifs : List Expr} (h : mC C N c sc ifs = true) : (ifs = [] ∧ c = .yes) ∨ ∃ cd, ifs = [cd] ∧ mT C N c sc cd = true := by
  cases c <;> unfold mC at h
  case yes =>
    cases ifs with
    | nil => exact .inl ⟨rfl, rfl⟩
    | cons _ _ => cases h
  all_goals
    split at h
    · exact .inr ⟨_, rfl, by unfold mT; exact h⟩
    · cases h
mutual
theorem sE : ∀ (e : E) {sc : Scope} {X : Cx} {W : WX} (k : COk C fnm clm Γ N sc X W) (x : Expr), mE C N e sc x = true → JE fnm clm X W x (wE Γ e)
  | .var i, sc, X, W, k, x, h => by
    unfold mE at h
    split at h
    · simp only [Bool.and_eq_true, decide_eq_true_eq] at h
      exact je_var k h.1.1 (vis_by k h.1.2) h.2
    · cases h
  | .con d, sc, X, W, k, x, h => by
    unfold mE at h
    split at h
    · exact je_con (con_by h)
    · cases h
  | .glb i, sc, X, W, k, x, h => by
    unfold mE at h
    split at h
    · simp only [Bool.and_eq_true, decide_eq_true_eq] at h
      exact je_glb k h.1.1 (gl_by k h.1.2) h.2
    · cases h
  | .bin z o a b, sc, X, W, k, x, h => by
    unfold mE at h
    split at h
    · simp only [Bool.and_eq_true] at h
      exact je_bin k h.1.1 (sE a k _ h.1.2) (sE b k _ h.2)
    · cases h
  | .neg a, sc, X, W, k, x, h => by
    unfold mE at h
    split at h
    · exact je_neg (sE a k _ h)
    · cases h
  | .nt a, sc, X, W, k, x, h => by
    unfold mE at h
    split at h
    · exact je_nt (sE a k _ h)
    · cases h
  | .isc _ _, sc, X, W, k, x, h => by unfold mE at h; cases h
  | .dix a b, sc, X, W, k, x, h => by
    unfold mE at h
    split at h
    · simp only [Bool.and_eq_true, decide_eq_true_eq, Bool.not_eq_true'] at h
      obtain ⟨⟨⟨⟨rfl, h2⟩, h3⟩, h4⟩, h5⟩ := h
      exact je_dix k (gl_by k h2) h3 (sE a k _ h4) (sE b k _ h5)
    · cases h
  | .boo b es, sc, X, W, k, x, h => by
    unfold mE at h
    split at h
    · simp only [Bool.and_eq_true] at h
      cases bop_by h.1
      exact sBo es k _ h.2 b _
    · cases h
  | .cmp o a b, sc, X, W, k, x, h => by
    unfold mE at h
    split at h
    · simp only [Bool.and_eq_true, Bool.not_eq_true'] at h
      exact je_cmp k h.1.1.1 h.1.1.2 (sE a k _ h.1.2) (sE b k _ h.2)
    · cases h
  | .chn o p a b c, sc, X, W, k, x, h => by
    unfold mE at h
    split at h
    · simp only [Bool.and_eq_true, Bool.not_eq_true'] at h
      exact je_chn k h.1.1.1.1.1 h.1.1.1.1.2 h.1.1.1.2 (sE a k _ h.1.1.2) (sE b k _ h.1.2) (sE c k _ h.2)
    · cases h
  | .ife t a b, sc, X, W, k, x, h => by
    unfold mE at h
    split at h
    · simp only [Bool.and_eq_true] at h
      exact je_ife (sT t k _ h.1.1) (sE a k _ h.1.2) (sE b k _ h.2)
    · cases h
  | .tup es, sc, X, W, k, x, h => by
    unfold mE at h
    split at h
    · simp only [Bool.and_eq_true, decide_eq_true_eq] at h
      exact je_tup h.1 (sEs es k _ h.2)
    · cases h
  | .lst z es, sc, X, W, k, x, h => by
    unfold mE at h
    split at h
    · simp only [Bool.and_eq_true, decide_eq_true_eq] at h
      exact je_lst h.1 (sEs es k _ h.2)
    · cases h
  | .idx a b, sc, X, W, k, x, h => by
    unfold mE at h
    split at h
    · simp only [Bool.and_eq_true, Bool.not_eq_true'] at h
      exact je_idx h.1.1 (sE a k _ h.1.2) (sE b k _ h.2)
    · cases h
  | .sl z a lo hi, sc, X, W, k, x, h => by
    unfold mE at h
    split at h
    · rename_i y l u p p2
      simp only [Bool.and_eq_true] at h
      refine je_sl (sE a k _ h.1.1) ?_ ?_
      · have h1 := h.1.2
        cases l with
        | none => rw [show isNo lo = true from h1]; exact jo_none
        | some e =>
          have h1 : (!isNo lo && mE C N lo sc e) = true := h1
          simp only [Bool.and_eq_true, Bool.not_eq_true'] at h1
          rw [h1.1]
          exact jo_some (sE lo k _ h1.2)
      · have h1 := h.2
        cases u with
        | none => rw [show isNo hi = true from h1]; exact jo_none
        | some e =>
          have h1 : (!isNo hi && mE C N hi sc e) = true := h1
          simp only [Bool.and_eq_true, Bool.not_eq_true'] at h1
          rw [h1.1]
          exact jo_some (sE hi k _ h1.2)
    · cases h
  | .no, sc, X, W, k, x, h => by
    unfold mE at h
    cases h
  | .call f es, sc, X, W, k, x, h => by
    unfold mE at h
    split at h
    · simp only [Bool.and_eq_true, decide_eq_true_eq] at h
      exact je_call k h.1.1.1 rfl h.1.1.2 (gl_by k h.1.2) (sEs es k _ h.2)
    · cases h
  | .bf z f es, sc, X, W, k, x, h => by
    unfold mE at h
    split at h
    · simp only [Bool.and_eq_true, decide_eq_true_eq] at h
      exact je_bf k h.1.1 (gl_by k h.1.2) (sEs es k _ h.2)
    · cases h
  | .isi a ts, sc, X, W, k, x, h => by
    unfold mE at h
    split at h
    · split at h
      · simp only [Bool.and_eq_true, decide_eq_true_eq] at h
        obtain ⟨⟨⟨⟨⟨h1, h2⟩, h3⟩, h4⟩, h5⟩, h6⟩ := h
        subst h1
        exact je_isi k h3 h2 (gl_by k h4) (gl_by k h5) (sE a k _ h6)
      · cases h
    · cases h
  | .mt m o es, sc, X, W, k, x, h => by
    unfold mE at h
    split at h
    · rename_i ob y apos args cpos
      simp only [Bool.and_eq_true, decide_eq_true_eq] at h
      obtain ⟨⟨⟨⟨⟨⟨h1, h2⟩, h3⟩, h4⟩, h5⟩, h6⟩, h7⟩ := h
      have ja := sEs es k _ h7
      match args, h6, h7, ja with
      | [], _, h7, ja =>
        cases es with
        | n => exact je_mt0 h1 h2 h3 h4 (sE o k _ h5)
        | c _ _ => unfold mEs at h7; cases h7
      | [e], _, h7, ja => exact je_mt h1 h2 h3 h4 (sE o k _ h5) ja
      | _ :: _ :: _, h6, _, _ => exact absurd h6 (by simp)
    · cases h
  | .lc z e g it c own, sc, X, W, k, x, h => by
    unfold mE at h
    split at h
    · rename_i elt tg iter ifs a scope pos
      simp only [Bool.and_eq_true, decide_eq_true_eq] at h
      obtain ⟨⟨⟨⟨⟨⟨⟨h0, h1⟩, h2⟩, h3⟩, h4⟩, h5⟩, h6⟩, h7⟩ := h
      subst h0
      exact je_lc k (blkOk_by h1) (set_by h2) h3 (sI it k _ _ h5) (fun X' k' hf _ => (sG k' (comp_loc k' hf) g tg h4).1)
        (fun X' k' _ => by
          rcases mC_by h6 with q | ⟨cd, q, r⟩
          · exact .inl q
          · exact .inr ⟨cd, q, sT c k' _ r⟩) (fun X' k' _ => sE e k' _ h7)
    · cases h
  | .lcl z e g it c own, sc, X, W, k, x, h => by
    unfold mE at h
    split at h
    · rename_i elt tg iter ifs a scope pos
      simp only [Bool.and_eq_true, decide_eq_true_eq] at h
      obtain ⟨⟨⟨⟨⟨⟨⟨h0, h1⟩, h2⟩, h3⟩, h4⟩, h5⟩, h6⟩, h7⟩ := h
      subst h0
      exact je_lcl k (blkOk_by h1) (set_by h2) h3 (sE it k _ h5) (fun X' k' hf _ => (sG k' (comp_loc k' hf) g tg h4).1)
        (fun X' k' _ => by
          rcases mC_by h6 with q | ⟨cd, q, r⟩
          · exact .inl q
          · exact .inr ⟨cd, q, sT c k' _ r⟩) (fun X' k' _ => sE e k' _ h7)
    · cases h
  | .dlen ek ev g it c own, sc, X, W, k, x, h => by
    unfold mE at h
    split at h
    · rename_i f _ kx vx tg iter ifs a scope pos _
      simp only [Bool.and_eq_true, decide_eq_true_eq] at h
      obtain ⟨⟨hf, hgl⟩, ⟨⟨⟨⟨⟨⟨⟨h0, h1⟩, h2⟩, h3⟩, h4⟩, h5⟩, h6⟩, h7⟩, h8⟩ := h
      subst h0
      subst hf
      exact je_dlen k (gl_by k hgl) (blkOk_by h1) (set_by h2) h3 (sI it k _ _ h5) (fun X' k' hf _ => (sG k' (comp_loc k' hf) g tg h4).1)
        (fun X' k' _ => by
          rcases mC_by h6 with q | ⟨cd, q, r⟩
          · exact .inl q
          · exact .inr ⟨cd, q, sT c k' _ r⟩) (fun X' k' _ => sE ek k' _ h7) (fun X' k' _ => sE ev k' _ h8)
    · cases h
  | .fld c a f, sc, X, W, k, x, h => by
    unfold mE at h
    split at h
    · simp only [Bool.and_eq_true, decide_eq_true_eq] at h
      obtain ⟨⟨⟨rfl, h2⟩, h3⟩, h4⟩ := h
      split at h3
      · rename_i oc e
        exact je_fld k e (of_decide_eq_true h3) h2 (sE a k _ h4)
      · cases h3
    · cases h
  | .mcl c m i o es, sc, X, W, k, x, h => by
    unfold mE at h
    split at h
    · rename_i ob y apos args cpos
      simp only [Bool.and_eq_true, decide_eq_true_eq] at h
      obtain ⟨⟨⟨⟨⟨⟨⟨rfl, h2⟩, h3⟩, h4⟩, h5⟩, h6⟩, h7⟩, h8⟩ := h
      split at h4
      · rename_i oc e
        split at h5
        · rename_i z e2
          obtain ⟨zx, zn⟩ := z
          have ja := sEs es k _ h8
          match args, h5, h6, h8, ja with
          | [], h5, _, h8, _ =>
            cases es with
            | n => exact je_mcl0 k e (of_decide_eq_true h4) e2 (of_decide_eq_true h5) h3 h2 (sE o k _ h7)
            | c _ _ => unfold mEs at h8; cases h8
          | a :: as, h5, h6, _, ja => exact je_mcl k e (of_decide_eq_true h4) e2 (of_decide_eq_true h5) h3 h6 h2 (sE o k _ h7) ja
        · cases h5
      · cases h4
    · cases h
  | .mak c i es, sc, X, W, k, x, h => by
    unfold mE at h
    split at h
    · simp only [Bool.and_eq_true] at h
      obtain ⟨⟨⟨⟨h1, h2⟩, h3⟩, h4⟩, h5⟩ := h
      split at h1
      · rename_i oc e
        simp only [Bool.and_eq_true, decide_eq_true_eq] at h1
        obtain ⟨rfl, h1⟩ := h1
        split at h4
        · rename_i z e2
          obtain ⟨zx, zn⟩ := z
          exact je_mak k e h1 e2 (of_decide_eq_true h4) h2 (gl_by k h3) (sEs es k _ h5)
        · cases h4
      · cases h1
    · cases h
  | .rep a, sc, X, W, k, x, h => by
    unfold mE at h
    split at h
    · simp only [Bool.and_eq_true, decide_eq_true_eq] at h
      obtain ⟨⟨⟨h1, h2⟩, h3⟩, h4⟩ := h
      subst h2
      exact je_rep k h1 (gl_by k h3) (sE a k _ h4)
    · cases h
  | .frz a, sc, X, W, k, x, h => by
    unfold mE at h
    exact je_frz (sE a k x h)
  | .frD n a, sc, X, W, k, x, h => by
    unfold mE at h
    exact je_frD (sE a k x h)
  | .lzp z es, sc, X, W, k, x, h => by
    unfold mE at h
    split at h
    · simp only [Bool.and_eq_true, decide_eq_true_eq] at h
      obtain ⟨⟨⟨⟨h1, h2⟩, h3⟩, h4⟩, h5⟩ := h
      subst h1
      subst h2
      exact je_lzp k (gl_by k h3) (gl_by k h4) (sEs es k _ h5)
    · cases h
  | .rg1 z t a, sc, X, W, k, x, h => by
    unfold mE at h
    split at h
    · simp only [Bool.and_eq_true, decide_eq_true_eq] at h
      obtain ⟨⟨⟨⟨h1, h2⟩, h3⟩, h4⟩, h5⟩ := h
      subst h2
      exact je_rg1 k h1 (gl_by k h3) (gl_by k h4) (sE a k _ h5)
    · cases h
  | .rg2 z t a b, sc, X, W, k, x, h => by
    unfold mE at h
    split at h
    · simp only [Bool.and_eq_true, decide_eq_true_eq] at h
      obtain ⟨⟨⟨⟨⟨h1, h2⟩, h3⟩, h4⟩, h5⟩, h6⟩ := h
      subst h2
      exact je_rg2 k h1 (gl_by k h3) (gl_by k h4) (sE a k _ h5) (sE b k _ h6)
    · cases h
theorem sEs : ∀ (es : Es) {sc : Scope} {X : Cx} {W : WX} (k : COk C fnm clm Γ N sc X W) (xs : List Expr), mEs C N es sc xs = true → JA fnm clm X W xs (wEs Γ es)
  | .n, sc, X, W, k, xs, h => by
    unfold mEs at h
    cases xs with
    | nil => exact ja_nil
    | cons _ _ => cases h
  | .c e es, sc, X, W, k, xs, h => by
    unfold mEs at h
    split at h
    · simp only [Bool.and_eq_true] at h
      exact ja_cons (sE e k _ h.1) (sEs es k _ h.2)
    · cases h
theorem sBo : ∀ (es : Es) {sc : Scope} {X : Cx} {W : WX} (k : COk C fnm clm Γ N sc X W) (xs : List Expr), mBo C N es sc xs = true → ∀ (b : Bool) (pos : Pos), JE fnm clm X W (.BoolOp (bopE b) xs pos) (wBo Γ b es)
  | .n, sc, X, W, k, xs, h, b, pos => by
    unfold mBo at h
    cases h
  | .c e .n, sc, X, W, k, xs, h, b, pos => by
    unfold mBo at h
    split at h
    · exact jb_one (sE e k _ h)
    · cases h
  | .c e (.c e' es), sc, X, W, k, xs, h, b, pos => by
    unfold mBo at h
    split at h
    · simp only [Bool.and_eq_true] at h
      exact jb_cons (sE e k _ h.1) (sBo (.c e' es) k _ h.2 b pos)
    · cases h
theorem sT : ∀ (t : T) {sc : Scope} {X : Cx} {W : WX} (k : COk C fnm clm Γ N sc X W) (x : Expr), mT C N t sc x = true → JT fnm clm X W x (wT Γ t)
  | .of e, sc, X, W, k, x, h => by
    unfold mT at h
    simp only [Bool.and_eq_true] at h
    exact jt_of h.1 (sE e k _ h.2)
  | .nt t, sc, X, W, k, x, h => by
    unfold mT at h
    split at h
    · exact jt_nt (sT t k _ h)
    · cases h
  | .bo b ts, sc, X, W, k, x, h => by
    unfold mT at h
    split at h
    · simp only [Bool.and_eq_true] at h
      cases bop_by h.1
      exact jt_bo (sTs ts k _ h.2 b)
    · cases h
  | .cmp o a b, sc, X, W, k, x, h => by
    unfold mT at h
    split at h
    · simp only [Bool.and_eq_true, Bool.not_eq_true'] at h
      exact jt_cmp k h.1.1.1 h.1.1.2 (sE a k _ h.1.2) (sE b k _ h.2)
    · cases h
  | .chn o p a b c, sc, X, W, k, x, h => by
    unfold mT at h
    split at h
    · simp only [Bool.and_eq_true, Bool.not_eq_true'] at h
      exact jt_chn k h.1.1.1.1.1 h.1.1.1.1.2 h.1.1.1.2 (sE a k _ h.1.1.2) (sE b k _ h.1.2) (sE c k _ h.2)
    · cases h
  | .yes, sc, X, W, k, x, h => by
    unfold mT at h
    cases h
theorem sTs : ∀ (ts : Ts) {sc : Scope} {X : Cx} {W : WX} (k : COk C fnm clm Γ N sc X W) (xs : List Expr), mTs C N ts sc xs = true → ∀ b, JTs fnm clm X W b xs (wTs Γ b ts)
  | .n, sc, X, W, k, xs, h, b => by
    unfold mTs at h
    cases h
  | .c t .n, sc, X, W, k, xs, h, b => by
    unfold mTs at h
    split at h
    · exact jts_one (sT t k _ h)
    · cases h
  | .c t (.c t' ts), sc, X, W, k, xs, h, b => by
    unfold mTs at h
    split at h
    · simp only [Bool.and_eq_true] at h
      exact jts_cons (sT t k _ h.1) (sTs (.c t' ts) k _ h.2 b)
    · cases h
theorem sI : ∀ (it : I) {sc : Scope} {X : Cx} {W : WX} (k : COk C fnm clm Γ N sc X W) (tg x : Expr), mI C N it sc tg x = true → JI fnm clm X W tg x (wI Γ it)
  | .of e, sc, X, W, k, tg, x, h => by
    unfold mI at h
    exact ji_of (sE e k _ h)
  | .rng es, sc, X, W, k, tg, x, h => by
    unfold mI at h
    split at h
    · simp only [Bool.and_eq_true, decide_eq_true_eq] at h
      obtain ⟨⟨⟨⟨h1, h2⟩, h3⟩, h4⟩, h5⟩ := h
      subst h1
      exact ji_rng k ⟨h3, h4⟩ (gl_by k h2) (sEs es k _ h5)
    · cases h
  | .enu e, sc, X, W, k, tg, x, h => by
    unfold mI at h
    split at h
    · simp only [Bool.and_eq_true, decide_eq_true_eq] at h
      obtain ⟨⟨⟨h1, h2⟩, h3⟩, h4⟩ := h
      subst h1
      cases tg <;> first | (cases h3; done) | skip
      exact ji_enu k (gl_by k h2) (sE e k _ h4)
    · cases h
  | .zip es, sc, X, W, k, tg, x, h => by
    unfold mI at h
    split at h
    · simp only [Bool.and_eq_true, decide_eq_true_eq] at h
      obtain ⟨⟨⟨h1, h2⟩, h3⟩, h4⟩ := h
      subst h1
      cases tg <;> first | (cases h3; done) | skip
      exact ji_zip k (gl_by k h2) (sEs es k _ h4)
    · cases h
  | .rev e, sc, X, W, k, tg, x, h => by
    unfold mI at h
    split at h
    · simp only [Bool.and_eq_true, decide_eq_true_eq] at h
      obtain ⟨⟨h1, h2⟩, h3⟩ := h
      subst h1
      exact ji_rev k (gl_by k h2) (sE e k _ h3)
    · cases h
end
end
end DL

namespace DL
open PySem PySem.Spec PyProof.Rows L2
/-! ### try .. except X as e: a short suite -/
section
variable {C : Cfg} {fnm clm : Nat → Option Addr} {Γ : Gam} {N : List Str} {sc : Scope} {X Y : Cx} {W : WX}
/-- what is asked of a context to read a suite in it: a handles the exception at a, of the class y -/
structure SuOk (C : Cfg) (fnm clm : Nat → Option Addr) (Γ : Gam) (N : List Str) (sc : Scope) (Y : Cx) : Prop where
  hN : Y.N = N
  nd : N.Nodup
  hsc : Y.env.scope = sc
  fnT : ∀ x, Y.fn x = true
  hu : Y.A.units + 64 < cLine
  blt : ∀ x ∈ bltNames, Y.mg x = none
  cls : ∀ i x, C.cls[i]? = some x → ∃ c, clm i = some c ∧ Y.mg x = some (.ref c)
  isi : ∃ a y c, Γ.xc = some (a, y) ∧ clm y = some c ∧ CallR Y (.builtin "isinstance") (rIsE Y.K c a) ∧ PySem.W.kitOne Y.K (.ref c) (.type "ValueError") = some true ∧ ∀ j d, clm j = some d → PySem.W.kitOne Y.K (.ref c) (.ref d) = some (Γ.sb y j)
def RefSU (K : PySem.W.Frag) (fnm clm : Nat → Option Addr) (ts : TS) (t : EndsD → StD → HD → Prop) : Prop :=
  ∀ S (σ : St') σD H G D ED, Hel K fnm clm S H G → SlotOk K fnm S H G σ σD → t ED σD G → PostS K fnm clm S H G ED D → ts D σ H
def JSU (fnm clm : Nat → Option Addr) (Y : Cx) (ss : List Stmt) (t : EndsD → StD → HD → Prop) : Prop := ∃ ts, PSs Y ss ts ∧ RefSU Y.K fnm clm ts t
theorem noPX {K : PySem.W.Frag} {σ : St'} {S : Addr → Option Bool} {H : Hp} {G : HD} : PostX K fnm clm W0 σ S H G fun _ _ => False := fun _ _ _ _ _ _ _ _ z => z.elim
theorem jsu_nil : JSU fnm clm Y [] (wSU Γ .n) := ⟨_, pss_nil, fun S σ σD H G D ED R sl h hP => hP.nx σ σD S H G .refl R sl h⟩
theorem jsu_set (k : SuOk C fnm clm Γ N sc Y) {i : Nat} {x : Str} {px pos : Pos} {e : Expr} {ee : E} {ss : List Stmt} {r : SU} (hi : N[i]? = some x) (hx : locB sc x = true) (hs : isComp e = false) (he : JE fnm clm Y W0 e (wE Γ ee)) (hr : JSU fnm clm Y ss (wSU Γ r)) :
    JSU fnm clm Y (.Assign [.Name x px] e pos :: ss) (wSU Γ (.set i ee r)) := by
  obtain ⟨_, ta, pa, ra⟩ := he
  obtain ⟨ts, ps, rs⟩ := hr
  have hl : L2.Loc Y.env.scope x := by
    rw [k.hsc]
    unfold locB at hx
    unfold L2.Loc
    split at hx <;> simp_all
  refine ⟨_, pss_cons (ps_set (by rw [k.hN]; exact k.nd) (by rw [k.hN]; exact hi) hl pa (swap_no hs _ _ _) (.inl (k.fnT x))) ps, fun S σ σD H G D ED R sl h hP => ?_⟩
  refine ra S σ σD H G _ _ _ R sl h (fun v S1 H1 d G1 st1 R1 r1 h1 => ?_) noPX
  exact rs S1 _ _ H1 G1 D ED R1 ((sl.step R st1).set r1 i) h1 (hP.step st1)
theorem jsu_ret {e : Expr} {pos : Pos} {ee : E} (he : JE fnm clm Y W0 e (wE Γ ee)) : JSU fnm clm Y [.Return (some e) pos] (wSU Γ (.ret ee)) := by
  obtain ⟨_, ta, pa, ra⟩ := he
  exact ⟨_, pss_one (ps_ret pa), fun S σ σD H G D ED R sl h hP => ra S σ σD H G _ _ _ R sl h hP.rt noPX⟩
theorem jsu_ifr {t e : Expr} {pos p2 : Pos} {et : T} {ee : E} {ss : List Stmt} {r : SU} (ht : JT fnm clm Y W0 t (wT Γ et)) (he : JE fnm clm Y W0 e (wE Γ ee)) (hr : JSU fnm clm Y ss (wSU Γ r)) :
    JSU fnm clm Y (.If t [.Return (some e) p2] [] pos :: ss) (wSU Γ (.ifr et ee r)) := by
  obtain ⟨tt, pt, rt⟩ := ht
  obtain ⟨_, ta, pa, ra⟩ := he
  obtain ⟨ts, ps, rs⟩ := hr
  refine ⟨_, pss_cons (ps_if pt (pss_one (ps_ret pa)) pss_nil) ps, fun S σ σD H G D ED R sl h hP => ?_⟩
  refine rt S σ σD H G _ _ _ R sl h (fun c S1 H1 G1 st1 R1 h1 => ?_) noPX
  cases c with
  | true => exact ra S1 σ σD H1 G1 _ _ _ R1 (sl.step R st1) h1 (hP.rt.step st1) noPX
  | false => exact rs S1 σ σD H1 G1 D ED R1 (sl.step R st1) h1 (hP.step st1)
theorem visU (k : SuOk C fnm clm Γ N sc Y) {x : Str} (hv : visB sc x = true) : Vis Y.env.scope x := by
  rw [k.hsc]
  unfold visB at hv
  unfold Vis
  split at hv <;> simp_all
theorem glU (k : SuOk C fnm clm Γ N sc Y) {x : Str} (h : glB sc x = true) : Gl Y x := by
  show Y.env.scope.names.lookup x = _
  rw [k.hsc]
  unfold glB at h
  split at h <;> simp_all
theorem jeu_var (k : SuOk C fnm clm Γ N sc Y) {i : Nat} {x : Str} {pos : Pos} (hi : N[i]? = some x) (hv : visB sc x = true) (hx : nameOk x = true) : JE fnm clm Y W (.Name x pos) (wE Γ (.var i)) := by
  obtain ⟨h1, h2, h3⟩ := name_debug hx
  refine ⟨rfl, _, pe_var (by rw [k.hN]; exact hi) (visU k hv) h1 h2, fun S σ σD H G Q QD XD R sl h hQ hX => ?_⟩
  obtain ⟨d, e, h⟩ := ok_of (show ok (σD.getD i none) fun d => QD d G from h)
  obtain ⟨_, v, e1, e2⟩ := slot_get sl e
  exact ⟨v, e1, hQ.here R e2 h⟩
theorem jeu_cmp (k : SuOk C fnm clm Γ N sc Y) {o : COp} {op : CmpOp} {a b : Expr} {pos : Pos} {ea eb : E} (ho : copB o op = true) (hm : behindInMarks op b = false) (ha : JE fnm clm Y W a (wE Γ ea)) (hb : JE fnm clm Y W b (wE Γ eb)) :
    JE fnm clm Y W (.Compare a [op] [b] pos) (wE Γ (.cmp o ea eb)) := by
  obtain ⟨r, h1, h2⟩ := cmp_ok (fnm := fnm) (clm := clm) (X := Y) k.hu ho
  obtain ⟨_, ta, pa, ra⟩ := ha
  obtain ⟨_, tb, pb, rb⟩ := hb
  refine ⟨rfl, _, pe_cmpR h1 pa pb hm, fun S σ σD H G Q QD XD R sl h hQ hX => ?_⟩
  exact ref2 ra rb R sl h (fun v v' S' H' d d' G' st R' r1 r2 h' => h2 v v' d d' S' H' G' Q QD R' r1 r2 h' (hQ.step st)) hX
theorem jeu_int (k : SuOk C fnm clm Γ N sc Y) {z : Bool} {a : Expr} {p pos : Pos} {ea : Es} (hg : Gl Y "int") (ha : JA fnm clm Y W [a] (wEs Γ ea)) : JE fnm clm Y W (.Call (.Name "int" p) [a] [] pos) (wE Γ (.bf z .int ea)) := by
  obtain ⟨ss, ta, pa, ra⟩ := ha
  obtain ⟨r, h1, h2⟩ := bf_int (fnm := fnm) (clm := clm) (X := Y)
  obtain ⟨b1, b2, b3⟩ := bf_names .int
  obtain ⟨n1, n2, n3⟩ := name_debug b2
  exact ⟨rfl, _, pe_callTy h1 hg (k.blt _ (by decide +kernel)) b3 pa n3 n1 (star_no (ss a List.mem_cons_self) _ _) rfl, fun S σ σD H G Q QD XD R sl h hQ hX =>
    ra S σ σD H G _ _ XD R sl h (fun vs S1 H1 ds G1 hl st1 R1 r1 h1 => h2 z vs ds S1 H1 G1 Q QD R1 r1 h1 (hQ.step st1)) hX⟩
theorem jeu_isc (k : SuOk C fnm clm Γ N sc Y) {i : Nat} {c : Option Nat} {n x : Str} {p p1 p2 pos : Pos} (hg : Gl Y "isinstance") (hi : N[i]? = some n) (hv : visB sc n = true) (hn : nameOk n = true) (hx : Gl Y x)
    (hc : match c with | none => x = "ValueError" | some c => C.cls[c]? = some x ∧ nameOk x = true) : JE fnm clm Y W (.Call (.Name "isinstance" p) [.Name n p1, .Name x p2] [] pos) (wE Γ (.isc i c)) := by
  obtain ⟨a, y, cy, hxc, hy, call, kv, ko⟩ := k.isi
  obtain ⟨m1, m2, m3⟩ := name_debug hn
  have pn : PE Y (.Name n p1) (tVar i) := pe_var (by rw [k.hN]; exact hi) (visU k hv) m1 m2
  obtain ⟨cv, u, pt, ru, kit⟩ : ∃ (cv : V) (u : Value), PE Y (.Name x p2) (tC cv) ∧ (∀ w, RelV cv w → w = u) ∧ PySem.W.kitOne Y.K (.ref cy) u = some (Γ.isb y c) := by
    cases c with
    | none =>
      obtain rfl : x = "ValueError" := hc
      exact ⟨.ty "ValueError", .type "ValueError", pe_bltn hx (k.blt _ (by decide +kernel)) (by decide +kernel) rfl, fun w r => r, kv⟩
    | some c =>
      obtain ⟨d, h1, h2⟩ := k.cls c x hc.1
      exact ⟨.ref d, .ref d, pe_glob hx h2 rfl (name_debug hc.2).1, fun w r => r, ko c d h1⟩
  refine ⟨rfl, _, pe_callB call hg (k.blt _ (by decide +kernel)) (by decide +kernel) (pa_cons pn (pa_cons pt pa_nil)), fun S σ σD H G Q QD XD R sl h hQ hX => ?_⟩
  have h : σD.getD i none = some (.ref a) ∧ QD (.bl (Γ.isb y c)) G := by
    have h : (match Γ.xc with | some (a, y) => σD.getD i none = some (D.ref a) ∧ QD (.bl (Γ.isb y c)) G | none => False) := h
    rw [hxc] at h
    exact h
  obtain ⟨_, v, e1, e2⟩ := slot_get sl h.1
  cases dat_ref e2
  exact ⟨_, e1, cv, u, _, rfl, ru, kit, hQ.here R (.bl _) h.2⟩
/-! what matches -/
mutual
theorem sU (k : SuOk C fnm clm Γ N sc Y) : ∀ (e : E) (x : Expr), mU C N e sc x = true → JE fnm clm Y W x (wE Γ e)
  | .var i, x, h => by
    unfold mU at h
    split at h
    · simp only [Bool.and_eq_true, decide_eq_true_eq] at h
      exact jeu_var k h.1.1 h.1.2 h.2
    · cases h
  | .con d, x, h => by
    unfold mU at h
    split at h
    · exact je_con (con_by h)
    · cases h
  | .nt a, x, h => by
    unfold mU at h
    split at h
    · exact je_nt (sU k a _ h)
    · cases h
  | .boo b es, x, h => by
    unfold mU at h
    split at h
    · simp only [Bool.and_eq_true] at h
      rw [bop_by h.1]
      exact sUBo k es _ h.2
    · cases h
  | .tup es, x, h => by
    unfold mU at h
    split at h
    · simp only [Bool.and_eq_true, decide_eq_true_eq] at h
      exact je_tup h.1 (sUs k es _ h.2)
    · cases h
  | .cmp o a b, x, h => by
    unfold mU at h
    split at h
    · simp only [Bool.and_eq_true, Bool.not_eq_true'] at h
      exact jeu_cmp k h.1.1.1 h.1.1.2 (sU k a _ h.1.2) (sU k b _ h.2)
    · cases h
  | .isc i c, x, h => by
    unfold mU at h
    split at h
    · simp only [Bool.and_eq_true, decide_eq_true_eq] at h
      obtain ⟨⟨⟨⟨⟨⟨h1, h2⟩, h3⟩, h4⟩, h5⟩, h6⟩, h7⟩ := h
      subst h1
      refine jeu_isc k (glU k h2) h3 h4 h5 (glU k h6) ?_
      cases c with
      | none => exact of_decide_eq_true h7
      | some c => simpa using h7
    · cases h
  | .bf z f es, x, h => by
    unfold mU at h
    split at h
    · simp only [Bool.and_eq_true, decide_eq_true_eq] at h
      obtain ⟨⟨⟨h1, rfl⟩, h2⟩, h3⟩ := h
      cases f <;> first | cases h1 | skip
      exact jeu_int k (glU k h2) (sUs k es _ h3)
    · cases h
  | .glb _, x, h => by unfold mU at h; cases h
  | .bin _ _ _ _, x, h => by unfold mU at h; cases h
  | .neg _, x, h => by unfold mU at h; cases h
  | .chn _ _ _ _ _, x, h => by unfold mU at h; cases h
  | .ife _ _ _, x, h => by unfold mU at h; cases h
  | .lst _ _, x, h => by unfold mU at h; cases h
  | .idx _ _, x, h => by unfold mU at h; cases h
  | .sl _ _ _ _, x, h => by unfold mU at h; cases h
  | .no, x, h => by unfold mU at h; cases h
  | .call _ _, x, h => by unfold mU at h; cases h
  | .isi _ _, x, h => by unfold mU at h; cases h
  | .mt _ _ _, x, h => by unfold mU at h; cases h
  | .lc _ _ _ _ _ _, x, h => by unfold mU at h; cases h
  | .frz _, x, h => by unfold mU at h; cases h
  | .frD _ _, x, h => by unfold mU at h; cases h
  | .lzp _ _, x, h => by unfold mU at h; cases h
  | .rg1 _ _ _, x, h => by unfold mU at h; cases h
  | .rg2 _ _ _ _, x, h => by unfold mU at h; cases h
  | .dlen _ _ _ _ _ _, x, h => by unfold mU at h; cases h
  | .rep _, x, h => by unfold mU at h; cases h
  | .dix _ _, x, h => by unfold mU at h; cases h
  | .lcl _ _ _ _ _ _, x, h => by unfold mU at h; cases h
  | .fld _ _ _, x, h => by unfold mU at h; cases h
  | .mcl _ _ _ _ _, x, h => by unfold mU at h; cases h
  | .mak _ _ _, x, h => by unfold mU at h; cases h
theorem sUs (k : SuOk C fnm clm Γ N sc Y) : ∀ (es : Es) (xs : List Expr), mUs C N es sc xs = true → JA fnm clm Y W xs (wEs Γ es)
  | .n, xs, h => by
    unfold mUs at h
    cases xs with
    | nil => exact ja_nil
    | cons _ _ => cases h
  | .c e es, xs, h => by
    unfold mUs at h
    split at h
    · simp only [Bool.and_eq_true] at h
      exact ja_cons (sU k e _ h.1) (sUs k es _ h.2)
    · cases h
theorem sUBo (k : SuOk C fnm clm Γ N sc Y) {b : Bool} {pos : Pos} : ∀ (es : Es) (xs : List Expr), mUBo C N es sc xs = true → JE fnm clm Y W (.BoolOp (bopE b) xs pos) (wBo Γ b es)
  | .n, xs, h => by unfold mUBo at h; cases h
  | .c e .n, xs, h => by
    unfold mUBo at h
    split at h
    · exact jb_one (sU k e _ h)
    · cases h
  | .c e (.c e' es), xs, h => by
    unfold mUBo at h
    split at h
    · simp only [Bool.and_eq_true] at h
      exact jb_cons (sU k e _ h.1) (sUBo k (.c e' es) _ h.2)
    · cases h
end
mutual
theorem sUT (k : SuOk C fnm clm Γ N sc Y) : ∀ (t : T) (x : Expr), mUT C N t sc x = true → JT fnm clm Y W x (wT Γ t)
  | .of e, x, h => by
    unfold mUT at h
    simp only [Bool.and_eq_true] at h
    exact jt_of h.1 (sU k e _ h.2)
  | .nt t, x, h => by
    unfold mUT at h
    split at h
    · exact jt_nt (sUT k t _ h)
    · cases h
  | .bo b ts, x, h => by
    unfold mUT at h
    split at h
    · simp only [Bool.and_eq_true] at h
      rw [bop_by h.1]
      exact jt_bo (sUTs k ts _ h.2)
    · cases h
  | .cmp _ _ _, x, h => by unfold mUT at h; cases h
  | .chn _ _ _ _ _, x, h => by unfold mUT at h; cases h
  | .yes, x, h => by unfold mUT at h; cases h
theorem sUTs (k : SuOk C fnm clm Γ N sc Y) {b : Bool} : ∀ (ts : Ts) (xs : List Expr), mUTs C N ts sc xs = true → JTs fnm clm Y W b xs (wTs Γ b ts)
  | .n, xs, h => by unfold mUTs at h; cases h
  | .c e .n, xs, h => by
    unfold mUTs at h
    split at h
    · exact jts_one (sUT k e _ h)
    · cases h
  | .c e (.c e' es), xs, h => by
    unfold mUTs at h
    split at h
    · simp only [Bool.and_eq_true] at h
      exact jts_cons (sUT k e _ h.1) (sUTs k (.c e' es) _ h.2)
    · cases h
end
theorem sSU (k : SuOk C fnm clm Γ N sc Y) : ∀ (h : SU) (ss : List Stmt), mSU C N sc h ss = true → JSU fnm clm Y ss (wSU Γ h)
  | .n, ss, h => by
    unfold mSU at h
    cases ss with
    | nil => exact jsu_nil
    | cons _ _ => cases h
  | .set i e r, ss, h => by
    unfold mSU at h
    split at h
    · simp only [Bool.and_eq_true, decide_eq_true_eq, Bool.not_eq_true'] at h
      obtain ⟨⟨⟨⟨h1, h2⟩, h3⟩, h4⟩, h5⟩ := h
      exact jsu_set k h1 h2 h3 (sU k e _ h4) (sSU k r _ h5)
    · cases h
  | .ret e, ss, h => by
    unfold mSU at h
    split at h
    · exact jsu_ret (sU k e _ h)
    · cases h
  | .ifr t e r, ss, h => by
    unfold mSU at h
    split at h
    · simp only [Bool.and_eq_true] at h
      exact jsu_ifr (sUT k t _ h.1.1) (sU k e _ h.1.2) (sSU k r _ h.2)
    · cases h
/-! ### the statement -/
/-- a try's body, read in whatever context it stands -/
def tryB (K : PySem.W.Frag) (fnm clm : Nat → Option Addr) (t : EndsD → StD → HD → Prop) : WX → TS := fun W D σ H => ∃ S σD G ED, Hel K fnm clm S H G ∧ SlotOk K fnm S H G σ σD ∧ t ED σD G ∧ PostS K fnm clm S H G ED D ∧ PostXS K fnm clm W S H G ED.ex
/-- its suite, for an exception of a class of ours -/
def tryS (K : PySem.W.Frag) (fnm clm : Nat → Option Addr) (t : Addr → Nat → EndsD → StD → HD → Prop) : Addr → Value → Option Addr → TS := fun a cls d D σ H =>
  ∃ y c S σD G ED, cls = .ref c ∧ d = none ∧ clm y = some c ∧ Hel K fnm clm S H G ∧ SlotOk K fnm S H G σ σD ∧ t a y ED σD G ∧ PostS K fnm clm S H G ED D
theorem suite_ok (k : SOk C fnm clm Γ N sc X W) {h : SU} {b₀ : Stmt} {suite : List Stmt} (hm : mSU C N sc h (b₀ :: suite) = true) (a : Addr) (oe : Obj) (cls : Value) (d : Option Addr) (pn : List (Addr × Obj)) (hz : Zc cls d oe) (hf : ∃ vs, oe.data = .fields vs) :
    PSs (X.suite a ((a, oe) :: pn)) (b₀ :: suite) (tryS X.K fnm clm (fun a y => wSU { Γ with xc := some (a, y) } h) a cls d) := by
  refine ⟨fun pins s σ H D I ⟨y, c, S, σD, G, ED, e1, e2, hc, R, sl, w, hP⟩ => ?_⟩
  subst e1; subst e2
  have su : SuOk C fnm clm { Γ with xc := some (a, y) } N sc (X.suite a ((a, oe) :: pn)) := {
    hN := k.hN, nd := k.nd, hsc := k.hsc, fnT := k.fnT, hu := k.toCOk.hu, blt := k.blt
    cls := fun i x e => by
      obtain ⟨c, h1, h2, _⟩ := k.cls i x e
      exact ⟨c, h1, h2⟩
    isi := by
      obtain ⟨q1, q2, q3⟩ := k.isx y c hc
      exact ⟨a, y, c, rfl, hc, call_isE q1 hz hf, q2, q3⟩ }
  obtain ⟨ts, ps, rs⟩ := sSU su h _ hm
  exact ps.run pins s σ H D I (rs S σ σD H G D ED R sl w hP)
theorem ends_off {K : PySem.W.Frag} {S : Addr → Option Bool} {H : Hp} {G : HD} {ED : EndsD} {D : Ends} {i : Nat} (hP : PostS K fnm clm S H G ED D) :
    PostS K fnm clm S H G (offD (some i) ED) { nx := fun σ' H' => D.nx (σ'.set i none) H', rt := D.rt, bk := fun σ' H' => D.bk (σ'.set i none) H', ct := fun σ' H' => D.ct (σ'.set i none) H' } := by
  have off : ∀ {S' H' G' σ' σD'}, SlotOk K fnm S' H' G' σ' σD' → SlotOk K fnm S' H' G' (σ'.set i none) (σD'.set i none) := fun {S' H' G' σ' σD'} sl => sl.wipe1 i
  exact ⟨fun σ' σD' S' H' G' st R sl q => hP.nx _ _ S' H' G' st R (off sl) q, fun σ' σD' S' H' G' st R sl q => hP.bk _ _ S' H' G' st R (off sl) q, fun σ' σD' S' H' G' st R sl q => hP.ct _ _ S' H' G' st R (off sl) q, hP.rt⟩
theorem js_tri (k : SOk C fnm clm Γ N sc X W) {body suite : List Stmt} {b₀ : Stmt} {x : Str} {xi : Nat} {nm : Option Str} {n : Option Nat} {np pos pos' : Pos} {eb : Ss} {h : SU} (hi : C.cls[xi]? = some x) (hx : nameOk x = true) (hg : Gl X x)
    (hb : ∀ (pn : List (Addr × Obj)) (xe : Value → Shared → Prop) (W' : WX), SOk C fnm clm Γ N sc (X.tr pn xe) W' → JSs fnm clm (X.tr pn xe) W' body (wSs Γ eb)) (hm : mSU C N sc h (b₀ :: suite) = true)
    (hn : match n, nm with | none, none => True | some i, some z => N[i]? = some z ∧ sc.names.lookup z = some .local | _, _ => False) :
    JS fnm clm X W (.Try body [.ExceptHandler (some (.Name x np)) nm (b₀ :: suite) pos'] [] [] pos) (wS Γ (.tri eb xi n h)) := by
  obtain ⟨c, h1, h2, h3, h4, h5⟩ := k.cls xi x hi
  have nms : Names X x (.ref c) := ⟨hg, (name_debug hx).1, .inl h2⟩
  have body_ok : ∀ (W' : WX) (pn : List (Addr × Obj)) (xe : Value → Shared → Prop), Takes (X.tr pn xe) W' → PassesOwn (model X.prog X.w) X.A X.env xe → PSs (X.tr pn xe) body (tryB X.K fnm clm (wSs Γ eb) W') := fun W' pn xe tk po => by
    have k' : SOk C fnm clm Γ N sc (X.tr pn xe) W' := { hN := k.hN, nd := k.nd, hsc := k.hsc, calm := k.calm, tk := tk, po := po, fnk := k.fnk, blt := k.blt, gls := k.gls, cls := k.cls, grd := k.grd, exm := k.exm, ocs := k.ocs, isx := k.isx, fnT := k.fnT, kindF := k.kindF, stk := k.stk, frm := k.frm }
    obtain ⟨tb, pb, rb⟩ := hb pn xe W' k'
    exact ⟨fun pins s σ H D I ⟨S, σD, G, ED, R, sl, w, hP, hX⟩ => pb.run pins s σ H D I (rb S σ σD H G D ED R sl w hP hX)⟩
  have suite_ := fun a oe cls d pn hz hf => suite_ok (W := W) k hm a oe cls d pn hz hf
  cases n with
  | none =>
    cases nm with
    | some _ => exact hn.elim
    | none =>
      refine ⟨_, ps_try_only k.stk k.frm nms k.tk body_ok suite_, fun S σ σD H G D ED R sl w hP hX => ?_⟩
      refine ⟨S, σD, G, _, R, sl, w, ⟨hP.nx, hP.bk, hP.ct, hP.rt⟩, fun y cy σ' σD' S' H' G' st R' sl' hc q => ?_⟩
      have e := k.exm y xi cy c hc h1
      refine ⟨_, e, fun hb a hn' => ?_, fun hb => ?_⟩
      · simp only [hb] at q
        exact ⟨y, cy, S', σD', G', ED, rfl, rfl, hc, R', sl', q a (R'.free hn').1, hP.step st⟩
      · simp only [hb] at q
        exact hX y cy σ' σD' S' H' G' st R' sl' hc q
  | some i =>
    cases nm with
    | none => exact hn.elim
    | some z =>
      obtain ⟨n1, n2⟩ := hn
      refine ⟨_, ps_try_as k.stk k.frm (by rw [k.hN]; exact k.nd) (by rw [k.hN]; exact n1) (by show X.env.scope.names.lookup z = _; rw [k.hsc]; exact n2) nms k.tk body_ok suite_, fun S σ σD H G D ED R sl w hP hX => ?_⟩
      refine ⟨S, σD, G, _, R, sl, w, ⟨hP.nx, hP.bk, hP.ct, hP.rt⟩, fun y cy σ' σD' S' H' G' st R' sl' hc q => ?_⟩
      have e := k.exm y xi cy c hc h1
      refine ⟨_, e, fun hb a hn' => ?_, fun hb => ?_⟩
      · simp only [hb] at q
        exact ⟨y, cy, S', σD'.set i (some (.ref a)), G', offD (some i) ED, rfl, rfl, hc, R', sl'.set (.ref a) i, q a (R'.free hn').1, ends_off (hP.step st)⟩
      · simp only [hb] at q
        exact hX y cy σ' σD' S' H' G' st R' sl' hc q
end
end DL

namespace DL
open PySem PySem.Spec PyProof.Rows L2
section
variable {C : Cfg} {fnm clm : Nat → Option Addr} {Γ : Gam} {N : List Str}
theorem swap_lc {elt : Expr} {gens : List Comprehension} {scope : Scope} {p px : Pos} {x : Str} {l : Nat} {env : Env} (hk : env.scope.kind = .function) :
    swapsWith (.ListComp elt gens scope p) (some (.Name x px)) l env = pure (swB env.scope scope x px p) := by
  have hb : (env.blockKind == ScopeKind.function) = true := by
    unfold Env.blockKind
    rw [hk]
    rfl
  have hl : (env.kindOf x == some NameKind.local) = (match env.scope.names.lookup x with | some .local => true | _ => false) := by
    unfold Env.kindOf
    cases env.scope.names.lookup x with
    | none => rfl
    | some kd => cases kd <;> rfl
  show (pure (env.blockKind == .function && env.kindOf x == some .local && px.line == p.line && !(scope.names.any fun (n, k) => n == x && (k == .local || k == .cell))) : Sem Bool) = _
  unfold swB
  rw [hb, hl, Bool.true_and]
  all_goals rfl
theorem js_setLc {sc : Scope} {X : Cx} {W : WX} (k : SOk C fnm clm Γ N sc X W) {i : Nat} {y : Str} {z : Bool} {elt tg iter : Expr} {ifs : List Expr} {scope : Scope} {own : List (Str × Nat)} {py pos spos : Pos} {e : E} {g : Tgt} {it : I} {c : T}
    (hy : X.N[i]? = some y) (hyl : X.env.scope.names.lookup y = some .local) (hsw : swapsWith (.ListComp elt [⟨tg, iter, ifs, 0⟩] scope pos) (some (.Name y py)) spos.line X.env = pure true)
    (hok : BlkOk N sc scope own) (hset : ∀ elts kk p, iter ≠ .Set elts kk p) (hin : tIn g (own.map (·.2)) = true) (hi : JI fnm clm X W tg iter (wI Γ it))
    (hg : ∀ X', COk C fnm clm Γ N (relS scope sc) X' W0 → (X'.fn = fun x => scope.names.lookup x == some .cell) → X'.K = X.K → JG fnm clm X' tg g)
    (ht : ∀ X', COk C fnm clm Γ N (relS scope sc) X' W0 → X'.K = X.K → (ifs = [] ∧ c = .yes) ∨ ∃ cd, ifs = [cd] ∧ JT fnm clm X' W0 cd (wT Γ c))
    (he : ∀ X', COk C fnm clm Γ N (relS scope sc) X' W0 → X'.K = X.K → JE fnm clm X' W0 elt (wE Γ e)) :
    JS fnm clm X W (.Assign [.Name y py] (.ListComp elt [⟨tg, iter, ifs, 0⟩] scope pos) spos) (wS Γ (.set i (.lc z e g it c own))) := by
  obtain ⟨wi, pi, ri⟩ := hi
  refine ⟨_, ps_setLc (g := canG X.K fnm clm g) (tt := canT X.K fnm clm W0 (wT Γ c)) (te := canE X.K fnm clm W0 (wE Γ e)) k.calm (by rw [k.hN]; exact k.nd) hy hyl hsw pi (by rw [k.hN, k.hsc]; exact hok) (fun s H C' cl fp => (hg _ (k.blk s H scope cl C' fp) rfl rfl).can)
    (fun s H C' cl fp => ?_) (fun s H C' cl fp => (he _ (k.blk s H scope cl C' fp) rfl).can) ?_, fun S σ σD H G D ED R sl h hP hX => ?_⟩
  · rcases ht _ (k.blk s H scope cl C' fp) rfl with ⟨rfl, rfl⟩ | ⟨cd, rfl, h⟩
    · refine ⟨fun pins s σ H Q I ⟨S, σD, G, QD, XD, R, sl, h, hQ, hX⟩ => pts_nil.run pins s σ H Q I (hQ true S H G .refl R h)⟩
    · exact pts_one h.can
  · intro x
    cases iter <;> first | rfl | exact absurd rfl (hset _ _ _)
  · refine lc_ref (z := z) ri hin S σ σD H G _ _ _ R sl h (fun v S1 H1 d G1 st1 R1 r1 h1 => ?_) (hX.at R sl)
    exact hP.nx _ _ S1 H1 G1 st1 R1 ((sl.step R st1).set r1 i) h1
mutual
theorem sS {sc : Scope} {X : Cx} {W : WX} (k : SOk C fnm clm Γ N sc X W) : ∀ (s : S) (x : Stmt), mS C N sc s x = true → JS fnm clm X W x (wS Γ s)
  | .set i e, x, h => by
    unfold mS at h
    split at h
    · rename_i y px v pos
      simp only [Bool.and_eq_true, decide_eq_true_eq] at h
      obtain ⟨⟨⟨h1, h2⟩, h3⟩, h4⟩ := h
      split at h4
      · rename_i elt gen scope p
        have sw := swap_lc (elt := elt) (gens := [gen]) (scope := scope) (p := p) (px := px) (x := y) (l := pos.line) (env := X.env) (by rw [k.hsc]; exact k.kindF)
        cases hs : swB X.env.scope scope y px p with
        | false => rw [hs] at sw; exact js_set k h1 h2 sw (sE e k.toCOk _ h3)
        | true =>
          rw [hs] at sw
          rw [k.hsc] at hs
          rw [hs] at h4
          have hyl : X.env.scope.names.lookup y = some .local := by
            rw [k.hsc]
            unfold swB at hs
            simp only [Bool.and_eq_true] at hs
            have := hs.1.1
            split at this
            · assumption
            · cases this
          cases e <;> first | exact absurd (show false = true from h4) Bool.false_ne_true | skip
          rename_i z e g it c own
          obtain ⟨tg, iter, ifs, a⟩ := gen
          have h3 : (decide (a = 0) && blkC N sc scope own && notSet iter && tIn g (own.map (·.2)) && mG N scope g tg && mI C N it sc tg iter && mC C N c (relS scope sc) ifs && mE C N e (relS scope sc) elt) = true := h3
          · simp only [Bool.and_eq_true, decide_eq_true_eq] at h3
            obtain ⟨⟨⟨⟨⟨⟨⟨h0, m1⟩, m2⟩, m3⟩, m4⟩, m5⟩, m6⟩, m7⟩ := h3
            subst h0
            exact js_setLc k (by rw [k.hN]; exact h1) hyl sw (blkOk_by m1) (set_by m2) m3 (sI it k.toCOk _ _ m5) (fun X' k' hf _ => (sG k' (comp_loc k' hf) g tg m4).1)
              (fun X' k' _ => by
                rcases mC_by m6 with q | ⟨cd, q, r⟩
                · exact .inl q
                · exact .inr ⟨cd, q, sT c k' _ r⟩) (fun X' k' _ => sE e k' _ m7)
      · simp only [Bool.not_eq_true'] at h4
        exact js_set k h1 h2 (swap_no h4 _ _ _) (sE e k.toCOk _ h3)
    · cases h
  | .asg g e, x, h => by
    unfold mS at h
    split at h
    · simp only [Bool.and_eq_true, Bool.not_eq_true'] at h
      obtain ⟨j1, j2⟩ := sG k.toCOk (scope := sc) (fun x hx => ⟨loc_of k.toCOk hx, .inl (k.fnT x)⟩) g _ h.1.2
      exact js_asg k j2 h.1.1.1 h.1.1.2 j1 (sE e k.toCOk _ h.2)
    · cases h
  | .setI o i e, x, h => by
    unfold mS at h
    split at h
    · simp only [Bool.and_eq_true, Bool.not_eq_true'] at h
      obtain ⟨⟨⟨⟨h1, h2⟩, h4⟩, h5⟩, h6⟩ := h
      exact js_setI k h1 h2 (sE o k.toCOk _ h4) (sE i k.toCOk _ h5) (sE e k.toCOk _ h6)
    · cases h
  | .setF c o f e, x, h => by
    unfold mS at h
    split at h
    · simp only [Bool.and_eq_true, decide_eq_true_eq, Bool.not_eq_true'] at h
      obtain ⟨⟨⟨⟨rfl, h2⟩, h3⟩, h4⟩, h5⟩ := h
      split at h2
      · rename_i oc q
        exact js_setF k q (of_decide_eq_true h2) h3 (sE o k.toCOk _ h4) (sE e k.toCOk _ h5)
      · cases h2
    · cases h
  | .augF c o f e, x, h => by
    unfold mS at h
    split at h
    · simp only [Bool.and_eq_true, decide_eq_true_eq] at h
      obtain ⟨⟨⟨rfl, h2⟩, h4⟩, h5⟩ := h
      split at h2
      · rename_i oc q
        exact js_augF k q (of_decide_eq_true h2) (sE o k.toCOk _ h4) (sE e k.toCOk _ h5)
      · cases h2
    · cases h
  | .aug i o e, x, h => by
    unfold mS at h
    split at h
    · simp only [Bool.and_eq_true, decide_eq_true_eq] at h
      obtain ⟨⟨⟨h1, h2⟩, h3⟩, h4⟩ := h
      exact js_aug k h1 h2 h3 (sE e k.toCOk _ h4)
    · cases h
  | .ex e, x, h => by
    unfold mS at h
    split at h
    · simp only [Bool.and_eq_true, Bool.not_eq_true'] at h
      exact js_ex k h.1 (sE e k.toCOk _ h.2)
    · cases h
  | .ret e, x, h => by
    unfold mS at h
    split at h
    · exact js_ret k (sE e k.toCOk _ h)
    · cases h
  | .retN, x, h => by
    unfold mS at h
    split at h
    · exact js_retN
    · cases h
  | .ite t a b, x, h => by
    unfold mS at h
    split at h
    · simp only [Bool.and_eq_true] at h
      exact js_ite (sT t k.toCOk _ h.1.1) (sSs k a _ h.1.2) (sSs k b _ h.2)
    · cases h
  | .for_ g it b, x, h => by
    unfold mS at h
    split at h
    · simp only [Bool.and_eq_true] at h
      obtain ⟨⟨⟨h1, h2⟩, h3⟩, h4⟩ := h
      exact js_for k (set_by h1) (sI it k.toCOk _ _ h3) (sG k.toCOk (scope := sc) (fun x hx => ⟨loc_of k.toCOk hx, .inl (k.fnT x)⟩) g _ h2).1 (sSs k b _ h4)
    · cases h
  | .forL g e b, x, h => by
    unfold mS at h
    split at h
    · simp only [Bool.and_eq_true] at h
      obtain ⟨⟨⟨h1, h2⟩, h3⟩, h4⟩ := h
      exact js_forL k (set_by h1) (sE e k.toCOk _ h3) (sG k.toCOk (scope := sc) (fun x hx => ⟨loc_of k.toCOk hx, .inl (k.fnT x)⟩) g _ h2).1 (sSs k b _ h4)
    · cases h
  | .whl t b, x, h => by
    unfold mS at h
    split at h
    · simp only [Bool.and_eq_true] at h
      exact js_whl k (sT t k.toCOk _ h.1) (sSs k b _ h.2)
    · cases h
  | .brk, x, h => by
    unfold mS at h
    split at h
    · exact js_brk
    · cases h
  | .cnt, x, h => by
    unfold mS at h
    split at h
    · exact js_cnt
    · cases h
  | .pas, x, h => by
    unfold mS at h
    split at h
    · exact js_pas
    · cases h
  | .rai i, x, h => by
    unfold mS at h
    split at h
    · simp only [Bool.and_eq_true, decide_eq_true_eq] at h
      exact js_rai k h.1.1 h.1.2 (gl_by k.toCOk h.2)
    · cases h
  | .fz _, x, h => by
    unfold mS at h
    cases h
  | .tri b xi n hh, x, h => by
    unfold mS at h
    split at h
    · simp only [Bool.and_eq_true, decide_eq_true_eq] at h
      obtain ⟨⟨⟨⟨⟨h1, h2⟩, h3⟩, h4⟩, h5⟩, h6⟩ := h
      refine js_tri k h1 h2 (gl_by k.toCOk h3) (fun pn xe W' k' => sSs k' b _ h4) h5 ?_
      split at h6
      · trivial
      · simp only [Bool.and_eq_true, decide_eq_true_eq] at h6
        refine ⟨h6.1, ?_⟩
        have := h6.2
        split at this
        · assumption
        · cases this
      · cases h6
    · cases h
theorem sSs {sc : Scope} {X : Cx} {W : WX} (k : SOk C fnm clm Γ N sc X W) : ∀ (s : Ss) (x : List Stmt), mSs C N sc s x = true → JSs fnm clm X W x (wSs Γ s)
  | .n, x, h => by
    unfold mSs at h
    cases x with
    | nil => exact jss_nil
    | cons _ _ => cases h
  | .c (.fz i) es, x, h => by
    unfold mSs at h
    exact jss_fz (sSs k es x h)
  | .c (.set i e) es, x, h => by
    unfold mSs at h
    split at h
    · simp only [Bool.and_eq_true] at h; exact jss_cons (sS k _ _ h.1) (sSs k es _ h.2)
    · cases h
  | .c (.asg g e) es, x, h => by
    unfold mSs at h
    split at h
    · simp only [Bool.and_eq_true] at h; exact jss_cons (sS k _ _ h.1) (sSs k es _ h.2)
    · cases h
  | .c (.setI o i e) es, x, h => by
    unfold mSs at h
    split at h
    · simp only [Bool.and_eq_true] at h; exact jss_cons (sS k _ _ h.1) (sSs k es _ h.2)
    · cases h
  | .c (.augF c o f e) es, x, h => by
    unfold mSs at h
    split at h
    · simp only [Bool.and_eq_true] at h; exact jss_cons (sS k _ _ h.1) (sSs k es _ h.2)
    · cases h
  | .c (.setF c o f e) es, x, h => by
    unfold mSs at h
    split at h
    · simp only [Bool.and_eq_true] at h; exact jss_cons (sS k _ _ h.1) (sSs k es _ h.2)
    · cases h
  | .c (.aug i o e) es, x, h => by
    unfold mSs at h
    split at h
    · simp only [Bool.and_eq_true] at h; exact jss_cons (sS k _ _ h.1) (sSs k es _ h.2)
    · cases h
  | .c (.ex e) es, x, h => by
    unfold mSs at h
    split at h
    · simp only [Bool.and_eq_true] at h; exact jss_cons (sS k _ _ h.1) (sSs k es _ h.2)
    · cases h
  | .c (.ret e) es, x, h => by
    unfold mSs at h
    split at h
    · simp only [Bool.and_eq_true] at h; exact jss_cons (sS k _ _ h.1) (sSs k es _ h.2)
    · cases h
  | .c .retN es, x, h => by
    unfold mSs at h
    split at h
    · simp only [Bool.and_eq_true] at h; exact jss_cons (sS k _ _ h.1) (sSs k es _ h.2)
    · cases h
  | .c (.ite t a b) es, x, h => by
    unfold mSs at h
    split at h
    · simp only [Bool.and_eq_true] at h; exact jss_cons (sS k _ _ h.1) (sSs k es _ h.2)
    · cases h
  | .c (.for_ g it b) es, x, h => by
    unfold mSs at h
    split at h
    · simp only [Bool.and_eq_true] at h; exact jss_cons (sS k _ _ h.1) (sSs k es _ h.2)
    · cases h
  | .c (.forL g e b) es, x, h => by
    unfold mSs at h
    split at h
    · simp only [Bool.and_eq_true] at h; exact jss_cons (sS k _ _ h.1) (sSs k es _ h.2)
    · cases h
  | .c (.whl t b) es, x, h => by
    unfold mSs at h
    split at h
    · simp only [Bool.and_eq_true] at h; exact jss_cons (sS k _ _ h.1) (sSs k es _ h.2)
    · cases h
  | .c .brk es, x, h => by
    unfold mSs at h
    split at h
    · simp only [Bool.and_eq_true] at h; exact jss_cons (sS k _ _ h.1) (sSs k es _ h.2)
    · cases h
  | .c .cnt es, x, h => by
    unfold mSs at h
    split at h
    · simp only [Bool.and_eq_true] at h; exact jss_cons (sS k _ _ h.1) (sSs k es _ h.2)
    · cases h
  | .c .pas es, x, h => by
    unfold mSs at h
    split at h
    · simp only [Bool.and_eq_true] at h; exact jss_cons (sS k _ _ h.1) (sSs k es _ h.2)
    · cases h
  | .c (.tri b xi n hh) es, x, h => by
    unfold mSs at h
    split at h
    · simp only [Bool.and_eq_true] at h; exact jss_cons (sS k _ _ h.1) (sSs k es _ h.2)
    · cases h
  | .c (.rai i) es, x, h => by
    unfold mSs at h
    split at h
    · simp only [Bool.and_eq_true] at h; exact jss_cons (sS k _ _ h.1) (sSs k es _ h.2)
    · cases h
end
end
end DL

namespace DL
open PySem PySem.Spec PyProof.Rows L2
/-! ## 12R. One call of a def, told by its body -/
section
variable {CX : CXT} {P : Program} {w : World} {K : PySem.W.Frag} {mg : Str → Option Value} {base : Heap}
/-- one call of a def, told by its body -/
theorem run_at {x qual : Str} {pars : Arguments} {bd : List Stmt} {scp : Scope} {dv : List V} {kw : List (Str × V)} {f : Addr} {fd : FuncData} {N ps : List Str} {k : Nat} {A : Around} {out : List Env} {s : Shared} {H : Hp} {args : Args} {us : List Value} {vs : List V} {Q : VK} {E : XK}
    (F : FunD K x qual pars bd scp dv kw f fd) (S : FnScope N ps scp) (room : Room (k + 1) A) (z : Env0 P w K mg base A out s H) (bind : BindsTo s fd args (ps.zip us)) (r : Vals vs us) (lv : vs.length = ps.length)
    (go : ∀ cdv : Value, ∃ t, PSs (cxOf CX P w K mg base N qual scp f cdv A out s H E) bd t ∧ t { nx := fun _ G => Q .non G, rt := Q } (start N vs) H) :
    codeAny (model P w) A (.call (.ref f) args) (CR CX out P w H s Q E) s := by
  obtain ⟨oc, od, dV, kV, doc, pm, an, cdv, ct, osl, rfl, lk, code, _, _⟩ := F.ex
  have below : ∀ b o, base.get? b = some o → s.heap.get? b = some o := fun b o e => (z.bs b o e).1
  have inS : K.In s.heap := z.mod.kin.keeps below
  refine codeAny_call_function room.depth (inS _ _ lk) rfl S.co S.gen rfl (PySem.W.codeRec_of inS code) (bind _ _ _ _ ?_)
  refine wpAny_newFunctionEnv_cells S.kind (fun p hp => ?_) fun env ee s1 made => ?_
  · rcases S.par p.1 (List.of_mem_zip (a := p.1) (b := p.2) hp).1 with q | q
    · exact .inl q
    · exact .inr ⟨q, PySem.W.cellsFrom_some _ _ _ (.inl q)⟩
  · cases ee
    refine ⟨(z.mod.nolimit.keeps below).keeps made.toInCall.keep, codeAny_func ?_⟩
    obtain ⟨t, walk, h⟩ := go cdv
    have J0 := inv_start (CX := CX) (E := E) S room.hd z lv r made
    refine wpAny_mono (walk.run [] s1 (start N vs) H _ J0 h) (fun fl s2 y => ?_) fun _ _ y => y
    have back : ∀ {σ : L2.St} {G : Hp} {v : V} {u : Value}, Inv (cxOf CX P w K mg base N qual scp f cdv A out s H E) [] σ G s2 → RelV v u → Q v G → CE out P w H s Q u s2 :=
      fun J rv q => ⟨_, _, J.os, J.bare, J.base, J.hok, rv, q⟩
    match fl, y with
    | .ret _, ⟨_, _, _, J, rv, q⟩ => exact back J rv q
    | .next, ⟨_, _, J, q⟩ => exact back (v := V.non) (u := Value.none) J rfl q
    | .brk, ⟨_, _, _, q⟩ => exact False.elim q
    | .cont, ⟨_, _, _, q⟩ => exact False.elim q
end
end DL

namespace DL
open PySem PySem.Spec PyProof.Rows L2
/-! ## 13. Defs -/
def startD (n : Nat) (ds : List D) : StD := ds.map some ++ List.replicate (n - ds.length) none
/-- a def: its names, its body in the short language -/
structure Df where
  x : Str
  ps : List Str
  N : List Str
  st : Stmt
  b : Ss
/-- a method's x is class.name: its class, its name there -/
def Df.m (d : Df) : Option (Str × Str) := match dotted d.x with
  | false => none
  | true => some (⟨(d.x.cps.toList.takeWhile fun c => c != 46).toArray⟩, ⟨((d.x.cps.toList.dropWhile fun c => c != 46).drop 1).toArray⟩)
def Df.nm (d : Df) : Str := match d.m with | none => d.x | some p => p.2
def Df.at_ (d : Df) : Str × Option Str := match d.m with | none => (d.x, none) | some p => (p.1, some p.2)
/-- what the world holds besides defs -/
structure Wd (P : Program) (w : World) (K : PySem.W.Frag) (mg : Str → Option Value) (clm : Nat → Option Addr) (gl : Nat → D) (sb : Nat → Nat → Bool) (gls cls : List Str) : Prop where
  exm : ∀ i j c d, clm i = some c → clm j = some d → PySem.W.exmOne K (.ref c) (.ref d) = some (sb i j)
  isx : ∀ i c, clm i = some c → L2.ExcC K c ∧ PySem.W.kitOne K (.ref c) (.type "ValueError") = some true ∧ ∀ j d, clm j = some d → PySem.W.kitOne K (.ref c) (.ref d) = some (sb i j)
  blt : ∀ x ∈ bltNames, mg x = none
  gls : ∀ i x, gls[i]? = some x → ∃ u v, mg x = some u ∧ RelV v u ∧ ∀ fnm S H G, Dat K fnm S H G v (gl i)
  cls : ∀ i x, cls[i]? = some x → ∃ c, clm i = some c ∧ mg x = some (.ref c) ∧ PySem.W.excIn K c He.veBase "ValueError.__new__" = true ∧ PySem.W.keepIn K (.ref c) = true ∧ PySem.W.subIn K (.ref c) (.type "BaseException") = some true ∧ PySem.W.typeIn K (.ref c) = some (.type "type")
section
variable {P : Program} {w : World} {K : PySem.W.Frag} {mg : Str → Option Value} {base : Heap} {fnm clm : Nat → Option Addr} {C : Cfg} {Γ : Gam}
theorem start_ok {S : Addr → Option Bool} {H : Hp} {G : HD} {N : List Str} {vs : List V} {ds : List D} (r : DatAll K fnm S H G vs ds) : SlotOk K fnm S H G (L2.start N vs) (startD N.length ds) := by
  have hl := r.length
  refine ⟨by unfold L2.start startD; simp [hl], fun i d e => ?_⟩
  unfold startD at e
  unfold L2.start
  by_cases h : i < ds.length
  · rw [List.getElem?_append_left (by simpa using h), List.getElem?_map] at e
    obtain ⟨d', e1, e2⟩ := Option.map_eq_some_iff.mp e
    cases e2
    obtain ⟨v, e3, rv⟩ := r.get e1
    refine ⟨v, ?_, rv⟩
    rw [List.getElem?_append_left (by simpa using (List.getElem?_eq_some_iff.mp e3).1), List.getElem?_map, e3]
    rfl
  · rw [List.getElem?_append_right (by simpa using h)] at e
    have := (List.getElem?_eq_some_iff.mp e).2
    simp at this
theorem fn_good (W : Wd P w K mg clm Γ.gl Γ.sb C.gls C.cls) {k : Nat} {d : Df} {f : Addr} {fd : FuncData} {sp : SpD} (F : FunD K d.nm d.x (defArgs d.st) (defBody d.st) (defScope d.st) [] [] f fd) (S : FnScope d.N d.ps (defScope d.st)) (hm : mSs C.no d.N (defScope d.st) d.b (defBody d.st) = true)
    (hoc : ∀ j o, C.ocs[j]? = some o → OcAt K mg fnm j o) (hfn : ∀ base : Heap, K.In base → base.Ns mainGlobals mg → ∀ i x, C.fns[i]? = some x → FnGood P w K mg base fnm clm k i x (Γ.sp i))
    (hsp : ∀ ds G QD XD, ds.length = d.ps.length → sp ds G QD XD → wSs Γ d.b { nx := fun _ H => QD .non H, rt := QD, ex := fun x _ H => XD x H } (startD d.N.length ds) G)
    (hb : K.In base) (hg : base.Ns mainGlobals mg) : FnOk P w K mg base (L2.CX P w) (k + 1) f fd d.ps (lift K fnm clm d.ps.length sp) := by
  refine ⟨fun vs H Q E h => h.1, fun A outer s H args us vs Q E room e0 bind rv ⟨hl, S0, G, ds, QD, XD, R, r, h, hQ, hX⟩ => run_at F S room e0 bind rv hl fun cdv => ?_⟩
  have k0 : SOk C.no fnm clm Γ d.N (defScope d.st) (cxOf (L2.CX P w) P w K mg base d.N d.x (defScope d.st) f cdv A outer s H E) (fun cls d _ H => E cls d H) := {
    hN := rfl, nd := S.nd, hsc := rfl, calm := rfl, tk := takes_of rfl rfl rfl rfl, po := passes_of rfl, fnk := ⟨k, RoomM.of room _, hfn base hb hg⟩, ocs := hoc, blt := W.blt,
    gls := fun i x e => by
      obtain ⟨u, v, h1, h2, h3⟩ := W.gls i x e
      exact ⟨u, v, h1, h2, h3 fnm⟩
    cls := fun i x e => by
      obtain ⟨c, h1, h2, h3, h4, h5, h6⟩ := W.cls i x e
      exact ⟨c, h1, h2, h3, h4, raises_own h5 h6⟩
    grd := fun z => absurd (show false = true from z) (by decide), exm := W.exm, isx := W.isx, fnT := fun _ => rfl, kindF := S.kind, stk := rfl, frm := rfl }
  obtain ⟨t, p, rf⟩ := sSs k0 d.b _ hm
  refine ⟨t, p, rf S0 _ _ H G _ _ R (start_ok r) (hsp ds G QD XD (by rw [← r.length]; exact hl) h) ?_ fun x c σ' σD' S' H' G' st R' sl hc hx => hX x c S' H' G' st R' hc hx⟩
  exact ⟨fun σ' σD' S' H' G' st R' sl h => hQ _ S' H' _ G' st R' .non h, fun _ _ _ _ _ _ _ _ h => h.elim, fun _ _ _ _ _ _ _ _ h => h.elim, hQ⟩
end
end DL

namespace DL
open PySem PySem.Spec PyProof.Rows L2
/-! ## 14. The defs of a world, one behind another -/
/-- does a def's text match? -/
def defC (C : Cfg) (d : Df) : Bool := mSs C.no d.N (defScope d.st) d.b (defBody d.st) && C8.scC d.N d.ps (defScope d.st)
def bot : SpD := fun _ _ _ _ => False
def upS (f : Nat → SpD) (i : Nat) (s : SpD) : Nat → SpD := fun j => bif Nat.beq j i then s else f j
def Gam.up (Γ : Gam) (i : Nat) (s : SpD) : Gam := { Γ with sp := upS Γ.sp i s }
theorem up_same {Γ : Gam} {i : Nat} {s : SpD} : (Γ.up i s).sp i = s := by
  show (bif Nat.beq i i then s else Γ.sp i) = s
  rw [Nat.beq_refl]; rfl
theorem up_ne {Γ : Gam} {i j : Nat} {s : SpD} (h : j ≠ i) : (Γ.up i s).sp j = Γ.sp j := by
  show (bif Nat.beq j i then s else Γ.sp j) = Γ.sp j
  cases e : Nat.beq j i with
  | true => exact absurd (Nat.eq_of_beq_eq_true e) h
  | false => rfl
theorem up_up {Γ : Gam} {i : Nat} {s t : SpD} : (Γ.up i s).up i t = Γ.up i t := by
  show Gam.mk _ _ _ _ = Gam.mk _ _ _ _
  congr 1
  funext j
  show (bif Nat.beq j i then t else (bif Nat.beq j i then s else Γ.sp j)) = (bif Nat.beq j i then t else Γ.sp j)
  cases Nat.beq j i <;> rfl
theorem up_comm {Γ : Gam} {i j : Nat} {s t : SpD} (h : i ≠ j) : (Γ.up i s).up j t = (Γ.up j t).up i s := by
  show Gam.mk _ _ _ _ = Gam.mk _ _ _ _
  congr 1
  funext k
  show (bif Nat.beq k j then t else (bif Nat.beq k i then s else Γ.sp k)) = (bif Nat.beq k i then s else (bif Nat.beq k j then t else Γ.sp k))
  cases e : Nat.beq k j with
  | false => rfl
  | true =>
    cases e2 : Nat.beq k i with
    | false => rfl
    | true => exact absurd ((Nat.eq_of_beq_eq_true e2).symm.trans (Nat.eq_of_beq_eq_true e)) h
/-- a def stands in the world -/
def DfAt (K : PySem.W.Frag) (mg : Str → Option Value) (fnm : Nat → Option Addr) (i : Nat) (d : Df) : Prop :=
  ∃ f fd, fnm i = some f ∧ (dotted d.x = false → mg d.x = some (.ref f)) ∧ Binds K fd d.ps [] ∧ FunD K d.nm d.x (defArgs d.st) (defBody d.st) (defScope d.st) [] [] f fd
def AllOk (P : Program) (w : World) (K : PySem.W.Frag) (mg : Str → Option Value) (fnm clm : Nat → Option Addr) (C : Cfg) (Γ : Gam) (k : Nat) : Prop :=
  (∀ base : Heap, K.In base → base.Ns mainGlobals mg → ∀ i x, C.fns[i]? = some x → FnGood P w K mg base fnm clm k i x (Γ.sp i)) ∧ ∀ j o, C.ocs[j]? = some o → OcAt K mg fnm j o
section
variable {P : Program} {w : World} {K : PySem.W.Frag} {mg : Str → Option Value} {fnm clm : Nat → Option Addr} {C : Cfg} {Γ : Gam} {k : Nat}
theorem all_bot {gl : Nat → D} {sb : Nat → Nat → Bool} (hd : ∀ i x, C.fns[i]? = some x → ∃ d : Df, x = (d.x, d.ps.length) ∧ DfAt K mg fnm i d) (ho : ∀ j o, C.ocs[j]? = some o → OcAt K mg fnm j o) : AllOk P w K mg fnm clm C { sp := fun _ => bot, gl := gl, sb := sb } 0 := by
  refine ⟨fun base hb hg i x e => ?_, ho⟩
  obtain ⟨d, rfl, f, fd, h1, h2, h3, h4⟩ := hd i x e
  exact ⟨f, fd, d.ps, rfl, h1, h2, h4.kp, h3, fun vs H Q E h => h.1, fun _ _ _ _ _ _ _ _ _ _ _ _ _ ⟨_, _, _, _, _, _, _, _, h, _⟩ => h.elim⟩
theorem FnGood.mono {base : Heap} {k' i : Nat} {x : Str × Nat} {sp : SpD} (h : FnGood P w K mg base fnm clm k i x sp) (hk : k ≤ k') : FnGood P w K mg base fnm clm k' i x sp := by
  obtain ⟨f, fd, ps, h1, h2, h3, h4, h5, h6⟩ := h.ex
  exact ⟨f, fd, ps, h1, h2, h3, h4, h5, h6.mono hk⟩
theorem AllOk.mono {k' : Nat} (h : AllOk P w K mg fnm clm C Γ k) (hk : k ≤ k') : AllOk P w K mg fnm clm C Γ k' := ⟨fun base hb hg i x e => (h.1 base hb hg i x e).mono hk, h.2⟩
/-- one def more, by whatever proof -/
theorem all_raw {k' i : Nat} {d : Df} {s : SpD} (h : AllOk P w K mg fnm clm C Γ k) (hk : k ≤ k') (hx : C.fns[i]? = some (d.x, d.ps.length)) (hd : DfAt K mg fnm i d)
    (F : ∀ f fd, FunD K d.nm d.x (defArgs d.st) (defBody d.st) (defScope d.st) [] [] f fd → ∀ base : Heap, K.In base → base.Ns mainGlobals mg → FnOk P w K mg base (L2.CX P w) k' f fd d.ps (lift K fnm clm d.ps.length s)) :
    AllOk P w K mg fnm clm C (Γ.up i s) k' := by
  refine ⟨fun base hb hg j x e => ?_, h.2⟩
  by_cases q : j = i
  · subst q
    rw [hx] at e; cases e
    obtain ⟨f, fd, h1, h2, h3, h4⟩ := hd
    rw [up_same]
    exact ⟨f, fd, d.ps, rfl, h1, h2, h4.kp, h3, F f fd h4 base hb hg⟩
  · rw [up_ne q]
    exact (h.1 base hb hg j x e).mono hk
/-- one def more, by its text -/
theorem all_up {i : Nat} {d : Df} {s : SpD} (h : AllOk P w K mg fnm clm C Γ k) (W : Wd P w K mg clm Γ.gl Γ.sb C.gls C.cls) (hx : C.fns[i]? = some (d.x, d.ps.length)) (hd : DfAt K mg fnm i d) (hm : defC C d = true)
    (hsp : ∀ ds G QD XD, ds.length = d.ps.length → s ds G QD XD → wSs Γ d.b { nx := fun _ H => QD .non H, rt := QD, ex := fun x _ H => XD x H } (startD d.N.length ds) G) :
    AllOk P w K mg fnm clm C (Γ.up i s) (k + 1) := by
  have hm2 : (mSs C.no d.N (defScope d.st) d.b (defBody d.st) && C8.scC d.N d.ps (defScope d.st)) = true := hm
  rw [Bool.and_eq_true] at hm2
  exact all_raw h (Nat.le_succ _) hx hd fun f fd F base hb hg => fn_good (Γ := Γ) W F (C8.fnScope_by hm2.2) hm2.1 h.2 h.1 hsp hb hg
/-- a def that calls itself: s n, what it promises with so much fuel -/
theorem all_rec {i : Nat} {d : Df} {s : Nat → SpD} (h : AllOk P w K mg fnm clm C Γ k) (W : Wd P w K mg clm Γ.gl Γ.sb C.gls C.cls) (hx : C.fns[i]? = some (d.x, d.ps.length)) (hd : DfAt K mg fnm i d) (hm : defC C d = true)
    (h0 : ∀ ds G QD XD, ¬ s 0 ds G QD XD)
    (hsp : ∀ n ds G QD XD, ds.length = d.ps.length → s (n + 1) ds G QD XD → wSs (Γ.up i (s n)) d.b { nx := fun _ H => QD .non H, rt := QD, ex := fun x _ H => XD x H } (startD d.N.length ds) G) :
    ∀ n, AllOk P w K mg fnm clm C (Γ.up i (s n)) (k + n)
  | 0 => all_raw h (Nat.le_refl _) hx hd fun f fd F base hb hg => ⟨fun vs H Q E h => h.1, fun _ _ _ _ _ _ _ _ _ _ _ _ _ ⟨_, _, _, _, _, _, _, _, h, _⟩ => (h0 _ _ _ _ h).elim⟩
  | n + 1 => by
    have := all_up (s := s (n + 1)) (all_rec h W hx hd hm h0 hsp n) W hx hd hm (hsp n)
    rw [up_up] at this
    exact this
end
section
variable {P : Program} {w : World} {K : PySem.W.Frag} {mg : Str → Option Value} {fnm clm : Nat → Option Addr} {C : Cfg} {Γ : Gam} {k : Nat}
/-- a promise that is never asked -/
theorem all_void {i : Nat} {d : Df} {s : SpD} (h : AllOk P w K mg fnm clm C Γ k) (hx : C.fns[i]? = some (d.x, d.ps.length)) (hd : DfAt K mg fnm i d) (h0 : ∀ ds G QD XD, ¬ s ds G QD XD) : AllOk P w K mg fnm clm C (Γ.up i s) k :=
  all_raw h (Nat.le_refl _) hx hd fun f fd F base hb hg => ⟨fun vs H Q E h => h.1, fun _ _ _ _ _ _ _ _ _ _ _ _ _ ⟨_, _, _, _, _, _, _, _, h, _⟩ => (h0 _ _ _ _ h).elim⟩
/-- two defs that call each other: j's n-th promise leans on i's n-th, i's next on both -/
theorem all_rec2 {i j : Nat} {d e : Df} {s t : Nat → SpD} (hij : i ≠ j) (h : AllOk P w K mg fnm clm C Γ k) (W : Wd P w K mg clm Γ.gl Γ.sb C.gls C.cls) (hx : C.fns[i]? = some (d.x, d.ps.length)) (hd : DfAt K mg fnm i d) (hm : defC C d = true)
    (hy : C.fns[j]? = some (e.x, e.ps.length)) (he : DfAt K mg fnm j e) (hn : defC C e = true) (h0 : ∀ ds G QD XD, ¬ s 0 ds G QD XD) (h1 : ∀ ds G QD XD, ¬ t 0 ds G QD XD)
    (hs : ∀ n ds G QD XD, ds.length = d.ps.length → s (n + 1) ds G QD XD → wSs ((Γ.up i (s n)).up j (t n)) d.b { nx := fun _ H => QD .non H, rt := QD, ex := fun x _ H => XD x H } (startD d.N.length ds) G)
    (ht : ∀ n ds G QD XD, ds.length = e.ps.length → t (n + 1) ds G QD XD → wSs ((Γ.up i (s (n + 1))).up j (t n)) e.b { nx := fun _ H => QD .non H, rt := QD, ex := fun x _ H => XD x H } (startD e.N.length ds) G) :
    ∀ n, AllOk P w K mg fnm clm C ((Γ.up i (s n)).up j (t n)) (k + 2 * n)
  | 0 => all_void (all_void h hx hd h0) hy he h1
  | n + 1 => by
    have a1 := all_up (s := s (n + 1)) (all_rec2 hij h W hx hd hm hy he hn h0 h1 hs ht n) W hx hd hm (hs n)
    rw [up_comm (Γ := Γ.up i (s n)) hij.symm, up_up] at a1
    have a2 := all_up (s := t (n + 1)) a1 W hy he hn (ht n)
    rw [up_up] at a2
    exact a2
end
/-! ### the walk over data: helps -/
theorem wFor_ind {g : Tgt} {body : EndsD → StD → HD → Prop} {E : EndsD} (I : List D → StD → HD → Prop) (stop : ∀ σ H, I [] σ H → E.nx σ H)
    (step : ∀ x xs, (∀ σ H, I xs σ H → wFor g body E xs σ H) → ∀ σ H, I (x :: xs) σ H → ok (asg g x σ) fun σ' => body { E with nx := wFor g body E xs, ct := wFor g body E xs, bk := E.nx } σ' H) :
    ∀ xs σ H, I xs σ H → wFor g body E xs σ H
  | [], σ, H, h => stop σ H h
  | x :: xs, σ, H, h => step x xs (wFor_ind I stop step xs) σ H h
theorem lcD_ind {step : D → HD → (Option D → HD → Prop) → Prop} {Q : List D → HD → Prop} (I : List D → List D → HD → Prop) (stop : ∀ acc H, I [] acc H → Q acc H)
    (turn : ∀ x xs acc, (∀ acc H, I xs acc H → lcD step Q xs acc H) → ∀ H, I (x :: xs) acc H → step x H fun r H1 => lcD step Q xs (match r with | some d => acc ++ [d] | none => acc) H1) :
    ∀ xs acc H, I xs acc H → lcD step Q xs acc H
  | [], acc, H, h => stop acc H h
  | x :: xs, acc, H, h => turn x xs acc (lcD_ind I stop turn xs) H h
end DL

namespace DL
open PySem PySem.Spec PyProof.Rows L2
/-! ## 15. Equations, for simp -/
/-! what is known of lists, tests, truths -/
section
variable {α β : Type} {x y d : α} {xs ys : List α} {n : Nat}
theorem c_getD0 : (x :: xs).getD 0 d = x := rfl
theorem c_getDS : (x :: xs).getD (n + 1) d = xs.getD n d := rfl
theorem c_set0 : (x :: xs).set 0 y = y :: xs := rfl
theorem c_setS : (x :: xs).set (n + 1) y = x :: xs.set n y := rfl
theorem c_lenC : (x :: xs).length = xs.length + 1 := rfl
theorem c_lenN : ([] : List α).length = 0 := rfl
theorem c_mapC {f : α → β} : (x :: xs).map f = f x :: xs.map f := rfl
theorem c_mapN {f : α → β} : ([] : List α).map f = [] := rfl
theorem c_get0 : (x :: xs)[0]? = some x := rfl
theorem c_getS : (x :: xs)[n + 1]? = xs[n]? := rfl
theorem c_appC : (x :: xs) ++ ys = x :: (xs ++ ys) := rfl
theorem c_appN : [] ++ ys = ys := rfl
theorem c_repS : List.replicate (n + 1) x = x :: List.replicate n x := rfl
theorem c_rep0 : List.replicate 0 x = [] := rfl
theorem c_anyC {f : α → Bool} : (x :: xs).any f = (f x || xs.any f) := rfl
theorem c_anyN {f : α → Bool} : ([] : List α).any f = false := rfl
theorem c_decT (h : Decidable True) : @decide True h = true := decide_true h
theorem c_decF (h : Decidable False) : @decide False h = false := decide_false h
theorem c_orF (b : Bool) : (b || false) = b := Bool.or_false b
theorem c_orT (b : Bool) : (b || true) = true := Bool.or_true b
theorem c_Tor (b : Bool) : (true || b) = true := rfl
theorem c_For (b : Bool) : (false || b) = b := Bool.false_or b
theorem c_nT : (!true) = false := rfl
theorem c_nF : (!false) = true := rfl
theorem c_Tand (p : Prop) : (True ∧ p) = p := true_and p
theorem c_andT (p : Prop) : (p ∧ True) = p := and_true p
theorem c_decE {p : Prop} [Decidable p] : (decide p = true) = p := decide_eq_true_eq
theorem c_oms {f : α → β} : Option.map f (some x) = some (f x) := rfl
theorem c_ifT {h : Decidable True} : @ite α True h x y = x := if_true x y
theorem c_ifF {h : Decidable False} : @ite α False h x y = y := if_false x y
theorem c_fT : (false = true) = False := Bool.false_eq_true
end
section
variable {z : Bool} {i j : Int} {s t : List Nat} {ds es : List D} {x y d : D} {H : HD} {Q : KD} {a : Addr} {b c : Bool} {n : Nat}
theorem q_add_ii : binD z .add (.int i) (.int j) H Q = Q (.int (i + j)) H := rfl
theorem q_add_ss : binD z .add (.str s) (.str t) H Q = (s.length + t.length ≤ lim ∧ Q (.str (s ++ t)) H) := rfl
theorem q_add_tt : binD z .add (.tup ds) (.tup es) H Q = (ds.length + es.length ≤ lim ∧ Q (.tup (ds ++ es)) H) := rfl
theorem q_add_l : binD z .add (.lst ds) y H Q = ok (seqH (.lst ds) H) fun a => ok (seqH y H) fun b => a.length + b.length ≤ lim ∧ newL z (a ++ b) H Q := by cases y <;> rfl
theorem q_add_r : binD z .add (.ref a) y H Q = ok (seqH (.ref a) H) fun a => ok (seqH y H) fun b => a.length + b.length ≤ lim ∧ newL z (a ++ b) H Q := by cases y <;> rfl
theorem q_sub : binD z .sub (.int i) (.int j) H Q = Q (.int (i - j)) H := rfl
theorem q_mul : binD z .mul (.int i) (.int j) H Q = (((-18446744073709551616 < i ∧ i < 18446744073709551616) ∨ (-18446744073709551616 < j ∧ j < 18446744073709551616)) ∧ Q (.int (i * j)) H) := rfl
theorem q_mul_l : binD z .mul (.lst ds) (.int j) H Q = ((0 ≤ j ∧ j ≤ lim) ∧ ds.length * j.toNat ≤ lim ∧ newL z (List.replicate j.toNat ds).flatten H Q) := rfl
theorem q_mul_s : binD z .mul (.str s) (.int j) H Q = ((0 ≤ j ∧ j ≤ lim) ∧ s.length * j.toNat ≤ lim ∧ Q (.str (List.replicate j.toNat s).flatten) H) := rfl
theorem q_fdiv : binD z .fdiv (.int i) (.int j) H Q = ((0 < j ∧ j < 2 ^ 200) ∧ Q (.int (i / j)) H) := rfl
theorem q_mod : binD z .mod (.int i) (.int j) H Q = (0 < j ∧ Q (.int (i % j)) H) := rfl
theorem q_pow : binD z .pow (.int i) (.int j) H Q = ((0 ≤ j ∧ j ≤ 1000000 ∧ i.natAbs < 2 ^ 64) ∧ Q (.int (i ^ j.toNat)) H) := rfl
theorem q_xor : binD z .xor (.int i) (.int j) H Q = Q (.int (Builtin.bitXor i j)) H := rfl
theorem q_bor : binD z .bor (.int i) (.int j) H Q = Q (.int (Builtin.bitOr i j)) H := rfl
theorem q_band : binD z .band (.int i) (.int j) H Q = Q (.int (Builtin.bitAnd i j)) H := rfl
theorem q_seqH_l : seqH (.lst ds) H = some ds := rfl
theorem q_seqH_r : seqH (.ref a) H = (match H a with | some (.lst ds) => some ds | _ => none) := rfl
theorem q_seq_l : seqOf (.lst ds) H = some ds := rfl
theorem q_seq_s : seqOf (.scr ds) H = some ds := rfl
theorem q_seq_r : seqOf (.ref a) H = (match H a with | some (.lst ds) => some ds | _ => none) := rfl
theorem q_seq_t : seqOf (.tup ds) H = none := rfl
theorem q_itm_t : itms (.tup ds) H = some ds := rfl
theorem q_itm_l : itms (.lst ds) H = some ds := rfl
theorem q_itm_s : itms (.scr ds) H = some ds := rfl
theorem q_itm_r : itms (.ref a) H = (match H a with | some (.lst ds) => some ds | _ => none) := rfl
theorem q_len_str : lenD (.str s) H = some s.length := rfl
theorem q_len_t : lenD (.tup ds) H = some ds.length := rfl
theorem q_len_l : lenD (.lst ds) H = some ds.length := rfl
theorem q_len_s : lenD (.scr ds) H = some ds.length := rfl
theorem q_len_r : lenD (.ref a) H = (match H a with | some (.lst ds) => some ds.length | some (.dct kvs) => some kvs.length | _ => none) := by
  simp only [lenD, seqOf]; cases H a with
  | none => rfl
  | some c => cases c <;> rfl
theorem q_tr_n : truth .non H = some false := rfl
theorem q_tr_b : truth (.bl b) H = some b := rfl
theorem q_tr_i : truth (.int i) H = some (i != 0) := rfl
theorem q_tr_str : truth (.str s) H = some (s.length != 0) := rfl
theorem q_tr_t : truth (.tup ds) H = some (ds.length != 0) := rfl
theorem q_tr_l : truth (.lst ds) H = some (ds.length != 0) := rfl
theorem q_tr_s : truth (.scr ds) H = some (ds.length != 0) := rfl
theorem q_tr_r : truth (.ref a) H = (match H a with | some (.lst ds) => some (ds.length != 0) | some (.dct kvs) => some (kvs.length != 0) | _ => none) := by
  simp only [truth, q_len_r]; cases H a with
  | none => rfl
  | some c => cases c <;> rfl
theorem q_eq : cmpD .eq x y H = eqD x y H := rfl
theorem q_ne : cmpD .ne x y H = (eqD x y H).map (!·) := rfl
theorem q_lt : cmpD .lt (.int i) (.int j) H = some (decide (i < j)) := rfl
theorem q_le : cmpD .le (.int i) (.int j) H = some (decide (i ≤ j)) := rfl
theorem q_gt : cmpD .gt (.int i) (.int j) H = some (decide (j < i)) := rfl
theorem q_ge : cmpD .ge (.int i) (.int j) H = some (decide (j ≤ i)) := rfl
theorem q_inn : cmpD .inn x y H = inD x y H := rfl
theorem q_nin : cmpD .nin x y H = (inD x y H).map (!·) := rfl
theorem q_is_n : cmpD .isn .non .non H = some true := rfl
theorem q_is_b : cmpD .isn (.bl b) .non H = some false := rfl
theorem q_is_i : cmpD .isn (.int i) .non H = some false := rfl
theorem q_is_str : cmpD .isn (.str s) .non H = some false := rfl
theorem q_is_t : cmpD .isn (.tup ds) .non H = some false := rfl
theorem q_is_l : cmpD .isn (.lst ds) .non H = some false := rfl
theorem q_is_r : cmpD .isn (.ref a) .non H = some false := rfl
theorem q_is_bb : cmpD .isn (.bl b) (.bl c) H = some (decide (b = c)) := rfl
theorem q_ns_bb : cmpD .nisn (.bl b) (.bl c) H = some (!decide (b = c)) := rfl
theorem q_ns_n : cmpD .nisn .non .non H = some false := rfl
theorem q_ns_b : cmpD .nisn (.bl b) .non H = some true := rfl
theorem q_ns_i : cmpD .nisn (.int i) .non H = some true := rfl
theorem q_ns_str : cmpD .nisn (.str s) .non H = some true := rfl
theorem q_ns_t : cmpD .nisn (.tup ds) .non H = some true := rfl
theorem q_ns_l : cmpD .nisn (.lst ds) .non H = some true := rfl
theorem q_ns_r : cmpD .nisn (.ref a) .non H = some true := rfl
theorem mkStr_eq : (mkStr s == mkStr t) = (s == t) := str_beq s t
theorem q_eq_ii : eqD (.int i) (.int j) H = some (i == j) := by simp [eqD, pyT, py, PyData.eqv, PyData.depth]
theorem q_eq_ss : eqD (.str s) (.str t) H = some (s == t) := by simp [eqD, pyT, py, PyData.eqv, PyData.depth, mkStr_eq]
theorem q_eq_bb : eqD (.bl b) (.bl c) H = some (b == c) := by cases b <;> cases c <;> simp [eqD, pyT, py, PyData.eqv, PyData.depth]
theorem q_eq_nn : eqD .non .non H = some true := by simp [eqD, pyT, py, PyData.eqv, PyData.depth]
theorem q_idx_t : idxD (.tup ds) (.int i) H = atI ds i := rfl
theorem q_idx_l : idxD (.lst ds) (.int i) H = atI ds i := rfl
theorem q_idx_s : idxD (.scr ds) (.int i) H = atI ds i := rfl
theorem q_idx_str : idxD (.str s) (.int i) H = (atI s i).map fun c => .str [c] := rfl
theorem q_idx_r : idxD (.ref a) (.int i) H = (match H a with | some (.lst ds) => atI ds i | _ => none) := by
  simp only [idxD, q_itm_r]; cases H a with
  | none => rfl
  | some c => cases c <;> rfl
theorem at_nat {α : Type} {xs : List α} {k : Nat} : atI xs (k : Int) = xs[k]? := by
  unfold atI ixN
  rw [if_pos (Int.natCast_nonneg k)]
  by_cases h : k < xs.length
  · rw [if_pos (by exact_mod_cast h)]; rfl
  · rw [if_neg (by intro q; exact h (by exact_mod_cast q)), List.getElem?_eq_none (by omega)]; rfl
theorem at_0 {α : Type} {xs : List α} : atI xs 0 = xs[0]? := at_nat (k := 0)
theorem at_1 {α : Type} {xs : List α} : atI xs 1 = xs[1]? := at_nat (k := 1)
theorem at_2 {α : Type} {xs : List α} : atI xs 2 = xs[2]? := at_nat (k := 2)
theorem at_3 {α : Type} {xs : List α} : atI xs 3 = xs[3]? := at_nat (k := 3)
theorem at_4 {α : Type} {xs : List α} : atI xs 4 = xs[4]? := at_nat (k := 4)
theorem at_5 {α : Type} {xs : List α} : atI xs 5 = xs[5]? := at_nat (k := 5)
theorem at_pos {α : Type} {xs : List α} {i : Int} (h0 : 0 ≤ i) : atI xs i = xs[i.toNat]? := by
  obtain ⟨k, rfl⟩ := Int.eq_ofNat_of_zero_le h0
  exact at_nat
theorem q_bf_len : bfD z .len [x] H Q = ok (lenD x H) fun n => Q (.int n) H := rfl
theorem q_bf_abs : bfD z .abs [.int i] H Q = Q (.int i.natAbs) H := rfl
theorem q_bf_int : bfD z .int [.int i] H Q = Q (.int i) H := rfl
theorem q_bf_intb : bfD z .int [.bl b] H Q = Q (.int (if b then 1 else 0)) H := rfl
theorem q_bf_bool : bfD z .bool [.bl b] H Q = Q (.bl b) H := rfl
theorem q_bf_tup : bfD z .tuple [x] H Q = ok (itmT x H) fun ds => Q (.tup ds) H := rfl
theorem q_imT_t : itmT (.tup ds) H = some ds := rfl
theorem q_imT_l : itmT (.lst ds) H = some ds := rfl
theorem q_imT_s : itmT (.scr ds) H = some ds := rfl
theorem q_imT_r : itmT (.ref a) H = (match H a with | some (.lst ds) => some ds | _ => none) := rfl
theorem q_itm_p : itms (.tpl ds) H = some ds := rfl
theorem q_len_p : lenD (.tpl ds) H = some ds.length := rfl
theorem q_idx_p : idxD (.tpl ds) (.int i) H = atI ds i := rfl
theorem q_walk_p : walkD (.tpl ds) = some ds := rfl
theorem q_asg_p {σ : StD} {ts : List Tgt} : asg (.t ts) (.tpl ds) σ = asgs ts ds σ := rfl
theorem q_bf_lst : bfD z .list [x] H Q = ok (itms x H) fun ds => newL z ds H Q := rfl
theorem q_bf_all : bfD z .all [x] H Q = ok (seqOf x H) fun ds => ok (blsOf ds) fun bs => Q (.bl (bs.all id)) H := rfl
theorem q_bf_any : bfD z .any [x] H Q = ok (seqOf x H) fun ds => ok (blsOf ds) fun bs => Q (.bl (bs.any id)) H := rfl
theorem q_bf_min2 : bfD z .min [.int i, .int j] H Q = Q (.int (if j < i then j else i)) H := rfl
theorem q_bf_max2 : bfD z .max [.int i, .int j] H Q = Q (.int (if j > i then j else i)) H := rfl
theorem q_bf_sum : bfD z .sum [x] H Q = ok (seqOf x H) fun ds => ok (intsOf ds) fun ns => Q (.int ns.sum) H := rfl
theorem q_bf_ord {c : Nat} : bfD z .ord [.str [c]] H Q = Q (.int c) H := rfl
theorem q_ty_n : tyD .non H = some .non := rfl
theorem q_ty_b : tyD (.bl b) H = some .bool := rfl
theorem q_ty_i : tyD (.int i) H = some .int := rfl
theorem q_ty_str : tyD (.str s) H = some .str := rfl
theorem q_ty_t : tyD (.tup ds) H = some .tuple := rfl
theorem q_ty_l : tyD (.lst ds) H = some .list := rfl
theorem q_ty_s : tyD (.scr ds) H = some .list := rfl
theorem q_ty_r : tyD (.ref a) H = (match H a with | some (.lst _) => some .list | some (.dct _) => some .dict | _ => none) := rfl
theorem q_app : mtD .append (.ref a) [d] H Q = (match H a with | some (.lst ds) => ds.length < lim ∧ Q .non (updD H a (.lst (ds ++ [d]))) | _ => False) := rfl
theorem q_ext : mtD .extend (.ref a) [x] H Q = (match H a with | some (.lst ds) => ok (seqH x H) fun es => ds.length + es.length ≤ lim ∧ Q .non (updD H a (.lst (ds ++ es))) | _ => False) := rfl
theorem q_pop : mtD .pop (.ref a) [] H Q = (match H a with | some (.lst ds) => ok ds.getLast? fun d => Q d (updD H a (.lst ds.dropLast)) | _ => False) := rfl
theorem q_popI : mtD .pop (.ref a) [.int i] H Q = (match H a with | some (.lst ds) => (0 ≤ i ∧ i < ds.length) ∧ ok (ds[i.toNat]?) fun d => Q d (updD H a (.lst (ds.eraseIdx i.toNat))) | _ => False) := rfl
theorem q_join : mtD .join (.str s) [x] H Q = ok (itms x H) fun ds => ok (strsOf ds) fun ss => (ss.map List.length).sum + ss.length * s.length ≤ lim ∧ Q (.str (joinL s ss)) H := rfl
theorem q_rcv_app : (rcv .append (.ref a) H = true) = (match H a with | some (.lst _) => True | _ => False) := by
  simp only [rcv, seqOf]; cases H a with
  | none => simp
  | some c => cases c <;> simp
theorem q_rcv_ext : (rcv .extend (.ref a) H = true) = (match H a with | some (.lst _) => True | _ => False) := by
  simp only [rcv, seqOf]; cases H a with
  | none => simp
  | some c => cases c <;> simp
theorem q_rcv_pop : (rcv .pop (.ref a) H = true) = (match H a with | some (.lst _) => True | _ => False) := by
  simp only [rcv, seqOf]; cases H a with
  | none => simp
  | some c => cases c <;> simp
theorem q_rcv_join : (rcv .join (.str s) H = true) = True := by simp [rcv]
theorem q_rcv_sidx : (rcv .sindex (.str s) H = true) = True := by simp [rcv]
theorem q_rcv_scnt : (rcv .scount (.str s) H = true) = True := by simp [rcv]
theorem q_rcv_sfnd : (rcv .sfind (.str s) H = true) = True := by simp [rcv]
theorem q_sidx : mtD .sindex (.str s) [.str t] H Q = ok (Txt.index0 (mkStr s) (mkStr t)) fun i => Q (.int (i : Nat)) H := rfl
theorem q_scnt : mtD .scount (.str s) [.str t] H Q = Q (.int (Txt.count (mkStr s) (mkStr t))) H := rfl
theorem q_sfnd : mtD .sfind (.str s) [.str t] H Q = Q (.int (Txt.find (mkStr s) (mkStr t))) H := rfl
theorem q_sl_str {lo hi : Option Int} : slD z (.str s) lo hi H Q = Q (.str (cutL s lo hi)) H := rfl
theorem q_sl_t {lo hi : Option Int} : slD z (.tup ds) lo hi H Q = Q (.tup (cutL ds lo hi)) H := rfl
theorem q_sl_l {lo hi : Option Int} : slD z (.lst ds) lo hi H Q = newL z (cutL ds lo hi) H Q := rfl
theorem q_sl_r {lo hi : Option Int} : slD z (.ref a) lo hi H Q = (match H a with | some (.lst ds) => newL z (cutL ds lo hi) H Q | _ => False) := by
  show ok (match H a with | some (.lst ds) => some ds | _ => none) _ = _
  cases H a with
  | none => rfl
  | some c => cases c <;> rfl
theorem q_sl_s {lo hi : Option Int} : slD z (.scr ds) lo hi H Q = newL z (cutL ds lo hi) H Q := rfl
theorem q_frz_r : frzD (.ref a) H Q = (match H a with | some (.lst ds) => Q (.lst ds) (delD H a) | _ => False) := rfl
theorem q_frz_l : frzD (.lst ds) H Q = Q (.lst ds) H := rfl
theorem q_frz_str : frzD (.str s) H Q = Q (.str s) H := rfl
theorem q_frz_t : frzD (.tup ds) H Q = Q (.tup ds) H := rfl
theorem q_frz_b : frzD (.bl b) H Q = Q (.bl b) H := rfl
theorem q_frz_n : frzD .non H Q = Q .non H := rfl
theorem q_frz_i : frzD (.int i) H Q = Q (.int i) H := rfl
theorem q_walk_t : walkD (.tup ds) = some ds := rfl
theorem q_walk_l : walkD (.lst ds) = some ds := rfl
theorem q_walk_s : walkD (.scr ds) = some ds := rfl
theorem q_walk_str : walkD (.str s) = some (s.map fun c => .str [c]) := rfl
theorem q_fix_t : fixD (.tup ds) = some ds := rfl
theorem q_fix_l : fixD (.lst ds) = some ds := rfl
theorem q_asg_n {σ : StD} {k : Nat} : asg (.n k) d σ = some (σ.set k (some d)) := rfl
theorem q_asg_t {σ : StD} {ts : List Tgt} : asg (.t ts) (.tup ds) σ = asgs ts ds σ := rfl
theorem q_asgs_n {σ : StD} : asgs [] [] σ = some σ := rfl
theorem q_asgs_c {σ : StD} {g : Tgt} {gs : List Tgt} : asgs (g :: gs) (d :: ds) σ = (match asg g d σ with | some σ' => asgs gs ds σ' | none => none) := rfl
theorem q_rg_t {i j : Int} : rgD z true i j H Q = (((-4611686018427387904 ≤ i ∧ i < 4611686018427387904) ∧ (-4611686018427387904 ≤ j ∧ j < 4611686018427387904)) ∧ (j - i).toNat ≤ lim ∧ Q (.tup (rngL (i, (j - i).toNat, 1))) H) := rfl
theorem q_rg_f {i j : Int} : rgD z false i j H Q = (((-4611686018427387904 ≤ i ∧ i < 4611686018427387904) ∧ (-4611686018427387904 ≤ j ∧ j < 4611686018427387904)) ∧ (j - i).toNat ≤ lim ∧ newL z (rngL (i, (j - i).toNat, 1)) H Q) := rfl
/-- range -/
theorem q_rng1 {j : Int} (h : -4611686018427387904 ≤ j ∧ j < 4611686018427387904) : rngD [.int j] = some (0, j.toNat, 1) := by simp only [rngD, h, and_self, if_true]
end
end DL

local macro_rules
  | `(tactic| simp_arith [$ls,*]) => `(tactic| simp -implicitDefEqProofs only [DL.Gam.isb, DL.ok_some, DL.ok_none, DL.newL_t, DL.newL_f, DL.isTy, DL.wipeD, DL.isNo, DL.wPart, DL.wE, DL.wEs, DL.wBo, DL.wT, DL.wTs, DL.wI, DL.wSU, DL.offD, DL.onD, DL.wS, DL.wSs, DL.startD, DL.c_getD0, DL.c_getDS, DL.c_set0, DL.c_setS, DL.c_lenC, DL.c_lenN, DL.c_mapC, DL.c_mapN, DL.c_get0, DL.c_getS, DL.c_appC, DL.c_appN, DL.c_repS, DL.c_rep0, DL.c_anyC, DL.c_anyN, DL.c_decT, DL.c_decF, DL.c_orF, DL.c_orT, DL.c_Tor, DL.c_For, DL.c_nT, DL.c_nF, DL.c_Tand, DL.c_andT, DL.c_decE, DL.c_oms, DL.c_ifT, DL.c_ifF, DL.c_fT, DL.q_add_ii, DL.q_add_ss, DL.q_add_tt, DL.q_add_l, DL.q_add_r, DL.q_sub, DL.q_mul, DL.q_mul_l, DL.q_mul_s, DL.q_fdiv, DL.q_mod, DL.q_pow, DL.q_xor, DL.q_bor, DL.q_band, DL.q_seqH_l, DL.q_seqH_r, DL.q_seq_l, DL.q_seq_s, DL.q_seq_r, DL.q_seq_t, DL.q_itm_t, DL.q_itm_l, DL.q_itm_s, DL.q_itm_r, DL.q_len_str, DL.q_len_t, DL.q_len_l, DL.q_len_s, DL.q_len_r, DL.q_tr_n, DL.q_tr_b, DL.q_tr_i, DL.q_tr_str, DL.q_tr_t, DL.q_tr_l, DL.q_tr_s, DL.q_tr_r, DL.q_eq, DL.q_ne, DL.q_lt, DL.q_le, DL.q_gt, DL.q_ge, DL.q_inn, DL.q_nin, DL.q_is_n, DL.q_is_b, DL.q_is_i, DL.q_is_str, DL.q_is_t, DL.q_is_l, DL.q_is_r, DL.q_is_bb, DL.q_ns_bb, DL.q_ns_n, DL.q_ns_b, DL.q_ns_i, DL.q_ns_str, DL.q_ns_t, DL.q_ns_l, DL.q_ns_r, DL.q_eq_ii, DL.q_eq_ss, DL.q_eq_bb, DL.q_eq_nn, DL.q_idx_t, DL.q_idx_l, DL.q_idx_s, DL.q_idx_str, DL.q_idx_r, DL.at_0, DL.at_1, DL.at_2, DL.at_3, DL.at_4, DL.at_5, DL.q_bf_len, DL.q_bf_abs, DL.q_bf_int, DL.q_bf_intb, DL.q_bf_bool, DL.q_bf_tup, DL.q_imT_t, DL.q_imT_l, DL.q_imT_s, DL.q_imT_r, DL.q_itm_p, DL.q_len_p, DL.q_idx_p, DL.q_walk_p, DL.q_asg_p, DL.q_bf_lst, DL.q_bf_all, DL.q_bf_any, DL.q_bf_min2, DL.q_bf_max2, DL.q_bf_sum, DL.q_bf_ord, DL.q_ty_n, DL.q_ty_b, DL.q_ty_i, DL.q_ty_str, DL.q_ty_t, DL.q_ty_l, DL.q_ty_s, DL.q_ty_r, DL.q_app, DL.q_ext, DL.q_pop, DL.q_popI, DL.q_join, DL.q_rcv_app, DL.q_rcv_ext, DL.q_rcv_pop, DL.q_rcv_join, DL.q_rcv_sidx, DL.q_rcv_scnt, DL.q_rcv_sfnd, DL.q_sidx, DL.q_scnt, DL.q_sfnd, DL.q_sl_str, DL.q_sl_t, DL.q_sl_l, DL.q_sl_r, DL.q_sl_s, DL.q_frz_r, DL.q_frz_l, DL.q_frz_str, DL.q_frz_t, DL.q_frz_b, DL.q_frz_n, DL.q_frz_i, DL.q_walk_t, DL.q_walk_l, DL.q_walk_s, DL.q_walk_str, DL.q_fix_t, DL.q_fix_l, DL.q_asg_n, DL.q_asg_t, DL.q_asgs_n, DL.q_asgs_c, DL.q_rg_t, DL.q_rg_f, Nat.reduceAdd, Nat.reduceSub, reduceCtorEq, Int.reduceToNat, Int.reduceLT, Int.reduceLE, Int.reduceNeg, $ls,*])
  | `(tactic| simp_arith [$ls,*] $loc:location) => `(tactic| simp -implicitDefEqProofs only [DL.Gam.isb, DL.ok_some, DL.ok_none, DL.newL_t, DL.newL_f, DL.isTy, DL.wipeD, DL.isNo, DL.wPart, DL.wE, DL.wEs, DL.wBo, DL.wT, DL.wTs, DL.wI, DL.wSU, DL.offD, DL.onD, DL.wS, DL.wSs, DL.startD, DL.c_getD0, DL.c_getDS, DL.c_set0, DL.c_setS, DL.c_lenC, DL.c_lenN, DL.c_mapC, DL.c_mapN, DL.c_get0, DL.c_getS, DL.c_appC, DL.c_appN, DL.c_repS, DL.c_rep0, DL.c_anyC, DL.c_anyN, DL.c_decT, DL.c_decF, DL.c_orF, DL.c_orT, DL.c_Tor, DL.c_For, DL.c_nT, DL.c_nF, DL.c_Tand, DL.c_andT, DL.c_decE, DL.c_oms, DL.c_ifT, DL.c_ifF, DL.c_fT, DL.q_add_ii, DL.q_add_ss, DL.q_add_tt, DL.q_add_l, DL.q_add_r, DL.q_sub, DL.q_mul, DL.q_mul_l, DL.q_mul_s, DL.q_fdiv, DL.q_mod, DL.q_pow, DL.q_xor, DL.q_bor, DL.q_band, DL.q_seqH_l, DL.q_seqH_r, DL.q_seq_l, DL.q_seq_s, DL.q_seq_r, DL.q_seq_t, DL.q_itm_t, DL.q_itm_l, DL.q_itm_s, DL.q_itm_r, DL.q_len_str, DL.q_len_t, DL.q_len_l, DL.q_len_s, DL.q_len_r, DL.q_tr_n, DL.q_tr_b, DL.q_tr_i, DL.q_tr_str, DL.q_tr_t, DL.q_tr_l, DL.q_tr_s, DL.q_tr_r, DL.q_eq, DL.q_ne, DL.q_lt, DL.q_le, DL.q_gt, DL.q_ge, DL.q_inn, DL.q_nin, DL.q_is_n, DL.q_is_b, DL.q_is_i, DL.q_is_str, DL.q_is_t, DL.q_is_l, DL.q_is_r, DL.q_is_bb, DL.q_ns_bb, DL.q_ns_n, DL.q_ns_b, DL.q_ns_i, DL.q_ns_str, DL.q_ns_t, DL.q_ns_l, DL.q_ns_r, DL.q_eq_ii, DL.q_eq_ss, DL.q_eq_bb, DL.q_eq_nn, DL.q_idx_t, DL.q_idx_l, DL.q_idx_s, DL.q_idx_str, DL.q_idx_r, DL.at_0, DL.at_1, DL.at_2, DL.at_3, DL.at_4, DL.at_5, DL.q_bf_len, DL.q_bf_abs, DL.q_bf_int, DL.q_bf_intb, DL.q_bf_bool, DL.q_bf_tup, DL.q_imT_t, DL.q_imT_l, DL.q_imT_s, DL.q_imT_r, DL.q_itm_p, DL.q_len_p, DL.q_idx_p, DL.q_walk_p, DL.q_asg_p, DL.q_bf_lst, DL.q_bf_all, DL.q_bf_any, DL.q_bf_min2, DL.q_bf_max2, DL.q_bf_sum, DL.q_bf_ord, DL.q_ty_n, DL.q_ty_b, DL.q_ty_i, DL.q_ty_str, DL.q_ty_t, DL.q_ty_l, DL.q_ty_s, DL.q_ty_r, DL.q_app, DL.q_ext, DL.q_pop, DL.q_popI, DL.q_join, DL.q_rcv_app, DL.q_rcv_ext, DL.q_rcv_pop, DL.q_rcv_join, DL.q_rcv_sidx, DL.q_rcv_scnt, DL.q_rcv_sfnd, DL.q_sidx, DL.q_scnt, DL.q_sfnd, DL.q_sl_str, DL.q_sl_t, DL.q_sl_l, DL.q_sl_r, DL.q_sl_s, DL.q_frz_r, DL.q_frz_l, DL.q_frz_str, DL.q_frz_t, DL.q_frz_b, DL.q_frz_n, DL.q_frz_i, DL.q_walk_t, DL.q_walk_l, DL.q_walk_s, DL.q_walk_str, DL.q_fix_t, DL.q_fix_l, DL.q_asg_n, DL.q_asg_t, DL.q_asgs_n, DL.q_asgs_c, DL.q_rg_t, DL.q_rg_f, Nat.reduceAdd, Nat.reduceSub, reduceCtorEq, Int.reduceToNat, Int.reduceLT, Int.reduceLE, Int.reduceNeg, $ls,*] $loc)

namespace DL
open PySem PySem.Spec PyProof.Rows L2
/-! ## 16. A law's stream -/
def b_draw : Ss :=
 (.c (.ite (.bo true (.c (.cmp .eq (.idx (.var 0) (.con (.int 1))) (.con (.int 0))) (.c (.cmp .lt (.idx (.var 0) (.con (.int 2))) (.bf true .len (.c (.idx (.var 0) (.con (.int 0))) .n))) .n))) (.c (.setI (.var 0) (.con (.int 1)) (.bf true .abs (.c (.bf true .int (.c (.idx (.idx (.var 0) (.con (.int 0))) (.idx (.var 0) (.con (.int 2)))) .n)) .n)))
 (.c (.setI (.var 0) (.con (.int 2)) (.bin true .add (.idx (.var 0) (.con (.int 2))) (.con (.int 1))))
 .n)) .n)
 (.c (.ite (.cmp .eq (.idx (.var 0) (.con (.int 1))) (.con (.int 0))) (.c (.setI (.var 0) (.con (.int 3)) (.bin true .mod (.bf true .int (.c (.bin true .add (.bin true .mul (.idx (.var 0) (.con (.int 3))) (.con (.int 48271))) (.con (.int 11))) .n)) (.con (.int 2147483647))))
 (.c (.ret (.bin true .mod (.bf true .int (.c (.bin true .fdiv (.idx (.var 0) (.con (.int 3))) (.con (.int 97))) .n)) (.var 1)))
 .n)) .n)
 (.c (.set 2 (.bin true .mod (.bf true .int (.c (.idx (.var 0) (.con (.int 1))) .n)) (.var 1)))
 (.c (.setI (.var 0) (.con (.int 1)) (.bin true .fdiv (.idx (.var 0) (.con (.int 1))) (.var 1)))
 (.c (.ret (.var 2))
 .n)))))
def b_stream : Ss :=
 (.c (.set 1 (.con (.int 17)))
 (.c (.for_ (.n 2) (.of (.var 0)) (.c (.set 1 (.bin true .mod (.bf true .int (.c (.bin true .add (.bin true .add (.bin true .mul (.var 1) (.con (.int 48271))) (.bin true .mod (.bf true .int (.c (.var 2) .n)) (.con (.int 65521)))) (.con (.int 1))) .n)) (.con (.int 2147483647))))
 .n))
 (.c (.ret (.lst false (.c (.bf false .list (.c (.var 0) .n)) (.c (.con (.int 0)) (.c (.con (.int 0)) (.c (.var 1) .n))))))
 .n)))
/-- a stream laid bare -/
def rawG (a q : Addr) (ns : List D) (x k m : Int) : HD := updD (updD emp q (.lst ns)) a (.lst [.ref q, .int x, .int k, .int m])
theorem draw_run {Γ : Gam} {a q : Addr} {ns : List D} {x k m n : Int} {E : EndsD} (hq : q ≠ a) (hns : ∀ d ∈ ns, ∃ i, d = .int i) (hn : 0 < n ∧ n < 2 ^ 200) (hx : 0 ≤ x) (hk : 0 ≤ k ∧ k ≤ ns.length) (hm : 0 ≤ m ∧ m < 2147483647)
    (h : ∀ (r x' k' m' : Int), 0 ≤ r → r < n → 0 ≤ x' → 0 ≤ k' → k' ≤ ns.length → 0 ≤ m' → m' < 2147483647 → E.rt (.int r) (rawG a q ns x' k' m')) :
    wSs Γ b_draw E [some (.ref a), some (.int n), none] (rawG a q ns x k m) := by
  have ga : ∀ x k m, rawG a q ns x k m a = some (.lst [.ref q, .int x, .int k, .int m]) := fun x k m => updD_same
  have gq : ∀ x k m, rawG a q ns x k m q = some (.lst ns) := fun x k m => (updD_ne hq).trans updD_same
  have gu : ∀ x k m x' k' m', updD (rawG a q ns x k m) a (.lst [.ref q, .int x', .int k', .int m']) = rawG a q ns x' k' m' := fun x k m x' k' m' => updD_updD
  have rest : ∀ (x k : Int), 0 ≤ x → 0 ≤ k → k ≤ ns.length → wSs Γ (match b_draw with | .c _ r => r | .n => .n) E [some (.ref a), some (.int n), none] (rawG a q ns x k m) := by
    intro x k hx hk hk2
    simp only [b_draw, Gam.isb, ok_some, ok_none, newL_t, newL_f, isTy, wipeD, isNo, wPart, wE, wEs, wBo, wT, wTs, wI, wSU, offD, onD, wS, wSs, startD, c_getD0, c_getDS, c_set0, c_setS, c_lenC, c_lenN, c_mapC, c_mapN, c_get0, c_getS, c_appC, c_appN, c_repS, c_rep0, c_anyC, c_anyN, c_decT, c_decF, c_orF, c_orT, c_Tor, c_For, c_nT, c_nF, c_Tand, c_andT, c_decE, c_oms, c_ifT, c_ifF, c_fT, q_add_ii, q_add_ss, q_add_tt, q_add_l, q_add_r, q_sub, q_mul, q_mul_l, q_mul_s, q_fdiv, q_mod, q_pow, q_xor, q_bor, q_band, q_seqH_l, q_seqH_r, q_seq_l, q_seq_s, q_seq_r, q_seq_t, q_itm_t, q_itm_l, q_itm_s, q_itm_r, q_len_str, q_len_t, q_len_l, q_len_s, q_len_r, q_tr_n, q_tr_b, q_tr_i, q_tr_str, q_tr_t, q_tr_l, q_tr_s, q_tr_r, q_eq, q_ne, q_lt, q_le, q_gt, q_ge, q_inn, q_nin, q_is_n, q_is_b, q_is_i, q_is_str, q_is_t, q_is_l, q_is_r, q_is_bb, q_ns_bb, q_ns_n, q_ns_b, q_ns_i, q_ns_str, q_ns_t, q_ns_l, q_ns_r, q_eq_ii, q_eq_ss, q_eq_bb, q_eq_nn, q_idx_t, q_idx_l, q_idx_s, q_idx_str, q_idx_r, at_0, at_1, at_2, at_3, at_4, at_5, q_bf_len, q_bf_abs, q_bf_int, q_bf_intb, q_bf_bool, q_bf_tup, q_imT_t, q_imT_l, q_imT_s, q_imT_r, q_itm_p, q_len_p, q_idx_p, q_walk_p, q_asg_p, q_bf_lst, q_bf_all, q_bf_any, q_bf_min2, q_bf_max2, q_bf_sum, q_bf_ord, q_ty_n, q_ty_b, q_ty_i, q_ty_str, q_ty_t, q_ty_l, q_ty_s, q_ty_r, q_app, q_ext, q_pop, q_popI, q_join, q_rcv_app, q_rcv_ext, q_rcv_pop, q_rcv_join, q_rcv_sidx, q_rcv_scnt, q_rcv_sfnd, q_sidx, q_scnt, q_sfnd, q_sl_str, q_sl_t, q_sl_l, q_sl_r, q_sl_s, q_frz_r, q_frz_l, q_frz_str, q_frz_t, q_frz_b, q_frz_n, q_frz_i, q_walk_t, q_walk_l, q_walk_s, q_walk_str, q_fix_t, q_fix_l, q_asg_n, q_asg_t, q_asgs_n, q_asgs_c, q_rg_t, q_rg_f, Nat.reduceAdd, Nat.reduceSub, reduceCtorEq, Int.reduceToNat, Int.reduceLT, Int.reduceLE, Int.reduceNeg, ga, gq, gu]
    cases h0 : (x == 0) with
    | true =>
      have hm2 : 0 ≤ (m * 48271 + 11) % 2147483647 ∧ (m * 48271 + 11) % 2147483647 < 2147483647 := ⟨Int.emod_nonneg _ (by decide), Int.emod_lt_of_pos _ (by decide)⟩
      have : 0 < n := hn.1
      refine ⟨by omega, by decide, by decide, this, ?_⟩
      exact h _ _ _ _ (Int.emod_nonneg _ (by omega)) (Int.emod_lt_of_pos _ this) hx hk hk2 hm2.1 hm2.2
    | false =>
      exact ⟨hn.1, hn, by omega, h _ _ _ _ (Int.emod_nonneg _ (by omega)) (Int.emod_lt_of_pos _ hn.1) (Int.ediv_nonneg hx (by omega)) hk hk2 hm.1 hm.2⟩
  simp only [b_draw, Gam.isb, ok_some, ok_none, newL_t, newL_f, isTy, wipeD, isNo, wPart, wE, wEs, wBo, wT, wTs, wI, wSU, offD, onD, wS, wSs, startD, c_getD0, c_getDS, c_set0, c_setS, c_lenC, c_lenN, c_mapC, c_mapN, c_get0, c_getS, c_appC, c_appN, c_repS, c_rep0, c_anyC, c_anyN, c_decT, c_decF, c_orF, c_orT, c_Tor, c_For, c_nT, c_nF, c_Tand, c_andT, c_decE, c_oms, c_ifT, c_ifF, c_fT, q_add_ii, q_add_ss, q_add_tt, q_add_l, q_add_r, q_sub, q_mul, q_mul_l, q_mul_s, q_fdiv, q_mod, q_pow, q_xor, q_bor, q_band, q_seqH_l, q_seqH_r, q_seq_l, q_seq_s, q_seq_r, q_seq_t, q_itm_t, q_itm_l, q_itm_s, q_itm_r, q_len_str, q_len_t, q_len_l, q_len_s, q_len_r, q_tr_n, q_tr_b, q_tr_i, q_tr_str, q_tr_t, q_tr_l, q_tr_s, q_tr_r, q_eq, q_ne, q_lt, q_le, q_gt, q_ge, q_inn, q_nin, q_is_n, q_is_b, q_is_i, q_is_str, q_is_t, q_is_l, q_is_r, q_is_bb, q_ns_bb, q_ns_n, q_ns_b, q_ns_i, q_ns_str, q_ns_t, q_ns_l, q_ns_r, q_eq_ii, q_eq_ss, q_eq_bb, q_eq_nn, q_idx_t, q_idx_l, q_idx_s, q_idx_str, q_idx_r, at_0, at_1, at_2, at_3, at_4, at_5, q_bf_len, q_bf_abs, q_bf_int, q_bf_intb, q_bf_bool, q_bf_tup, q_imT_t, q_imT_l, q_imT_s, q_imT_r, q_itm_p, q_len_p, q_idx_p, q_walk_p, q_asg_p, q_bf_lst, q_bf_all, q_bf_any, q_bf_min2, q_bf_max2, q_bf_sum, q_bf_ord, q_ty_n, q_ty_b, q_ty_i, q_ty_str, q_ty_t, q_ty_l, q_ty_s, q_ty_r, q_app, q_ext, q_pop, q_popI, q_join, q_rcv_app, q_rcv_ext, q_rcv_pop, q_rcv_join, q_rcv_sidx, q_rcv_scnt, q_rcv_sfnd, q_sidx, q_scnt, q_sfnd, q_sl_str, q_sl_t, q_sl_l, q_sl_r, q_sl_s, q_frz_r, q_frz_l, q_frz_str, q_frz_t, q_frz_b, q_frz_n, q_frz_i, q_walk_t, q_walk_l, q_walk_s, q_walk_str, q_fix_t, q_fix_l, q_asg_n, q_asg_t, q_asgs_n, q_asgs_c, q_rg_t, q_rg_f, Nat.reduceAdd, Nat.reduceSub, reduceCtorEq, Int.reduceToNat, Int.reduceLT, Int.reduceLE, Int.reduceNeg, ga, gq, gu]
  simp only [b_draw, Gam.isb, ok_some, ok_none, newL_t, newL_f, isTy, wipeD, isNo, wPart, wE, wEs, wBo, wT, wTs, wI, wSU, offD, onD, wS, wSs, startD, c_getD0, c_getDS, c_set0, c_setS, c_lenC, c_lenN, c_mapC, c_mapN, c_get0, c_getS, c_appC, c_appN, c_repS, c_rep0, c_anyC, c_anyN, c_decT, c_decF, c_orF, c_orT, c_Tor, c_For, c_nT, c_nF, c_Tand, c_andT, c_decE, c_oms, c_ifT, c_ifF, c_fT, q_add_ii, q_add_ss, q_add_tt, q_add_l, q_add_r, q_sub, q_mul, q_mul_l, q_mul_s, q_fdiv, q_mod, q_pow, q_xor, q_bor, q_band, q_seqH_l, q_seqH_r, q_seq_l, q_seq_s, q_seq_r, q_seq_t, q_itm_t, q_itm_l, q_itm_s, q_itm_r, q_len_str, q_len_t, q_len_l, q_len_s, q_len_r, q_tr_n, q_tr_b, q_tr_i, q_tr_str, q_tr_t, q_tr_l, q_tr_s, q_tr_r, q_eq, q_ne, q_lt, q_le, q_gt, q_ge, q_inn, q_nin, q_is_n, q_is_b, q_is_i, q_is_str, q_is_t, q_is_l, q_is_r, q_is_bb, q_ns_bb, q_ns_n, q_ns_b, q_ns_i, q_ns_str, q_ns_t, q_ns_l, q_ns_r, q_eq_ii, q_eq_ss, q_eq_bb, q_eq_nn, q_idx_t, q_idx_l, q_idx_s, q_idx_str, q_idx_r, at_0, at_1, at_2, at_3, at_4, at_5, q_bf_len, q_bf_abs, q_bf_int, q_bf_intb, q_bf_bool, q_bf_tup, q_imT_t, q_imT_l, q_imT_s, q_imT_r, q_itm_p, q_len_p, q_idx_p, q_walk_p, q_asg_p, q_bf_lst, q_bf_all, q_bf_any, q_bf_min2, q_bf_max2, q_bf_sum, q_bf_ord, q_ty_n, q_ty_b, q_ty_i, q_ty_str, q_ty_t, q_ty_l, q_ty_s, q_ty_r, q_app, q_ext, q_pop, q_popI, q_join, q_rcv_app, q_rcv_ext, q_rcv_pop, q_rcv_join, q_rcv_sidx, q_rcv_scnt, q_rcv_sfnd, q_sidx, q_scnt, q_sfnd, q_sl_str, q_sl_t, q_sl_l, q_sl_r, q_sl_s, q_frz_r, q_frz_l, q_frz_str, q_frz_t, q_frz_b, q_frz_n, q_frz_i, q_walk_t, q_walk_l, q_walk_s, q_walk_str, q_fix_t, q_fix_l, q_asg_n, q_asg_t, q_asgs_n, q_asgs_c, q_rg_t, q_rg_f, Nat.reduceAdd, Nat.reduceSub, reduceCtorEq, Int.reduceToNat, Int.reduceLT, Int.reduceLE, Int.reduceNeg, ga, gq, gu] at rest
  by_cases h0 : (x == 0) = true
  · rw [if_pos h0]
    by_cases h1 : k < ns.length
    · rw [decide_eq_true h1]
      obtain ⟨i, hi⟩ : ∃ i, atI ns k = some (.int i) := by
        rw [at_pos hk.1]
        have hl : k.toNat < ns.length := by omega
        obtain ⟨i, hi⟩ := hns _ (List.getElem_mem hl)
        exact ⟨i, by rw [List.getElem?_eq_getElem hl, hi]⟩
      simp only [hi, Gam.isb, ok_some, ok_none, newL_t, newL_f, isTy, wipeD, isNo, wPart, wE, wEs, wBo, wT, wTs, wI, wSU, offD, onD, wS, wSs, startD, c_getD0, c_getDS, c_set0, c_setS, c_lenC, c_lenN, c_mapC, c_mapN, c_get0, c_getS, c_appC, c_appN, c_repS, c_rep0, c_anyC, c_anyN, c_decT, c_decF, c_orF, c_orT, c_Tor, c_For, c_nT, c_nF, c_Tand, c_andT, c_decE, c_oms, c_ifT, c_ifF, c_fT, q_add_ii, q_add_ss, q_add_tt, q_add_l, q_add_r, q_sub, q_mul, q_mul_l, q_mul_s, q_fdiv, q_mod, q_pow, q_xor, q_bor, q_band, q_seqH_l, q_seqH_r, q_seq_l, q_seq_s, q_seq_r, q_seq_t, q_itm_t, q_itm_l, q_itm_s, q_itm_r, q_len_str, q_len_t, q_len_l, q_len_s, q_len_r, q_tr_n, q_tr_b, q_tr_i, q_tr_str, q_tr_t, q_tr_l, q_tr_s, q_tr_r, q_eq, q_ne, q_lt, q_le, q_gt, q_ge, q_inn, q_nin, q_is_n, q_is_b, q_is_i, q_is_str, q_is_t, q_is_l, q_is_r, q_is_bb, q_ns_bb, q_ns_n, q_ns_b, q_ns_i, q_ns_str, q_ns_t, q_ns_l, q_ns_r, q_eq_ii, q_eq_ss, q_eq_bb, q_eq_nn, q_idx_t, q_idx_l, q_idx_s, q_idx_str, q_idx_r, at_0, at_1, at_2, at_3, at_4, at_5, q_bf_len, q_bf_abs, q_bf_int, q_bf_intb, q_bf_bool, q_bf_tup, q_imT_t, q_imT_l, q_imT_s, q_imT_r, q_itm_p, q_len_p, q_idx_p, q_walk_p, q_asg_p, q_bf_lst, q_bf_all, q_bf_any, q_bf_min2, q_bf_max2, q_bf_sum, q_bf_ord, q_ty_n, q_ty_b, q_ty_i, q_ty_str, q_ty_t, q_ty_l, q_ty_s, q_ty_r, q_app, q_ext, q_pop, q_popI, q_join, q_rcv_app, q_rcv_ext, q_rcv_pop, q_rcv_join, q_rcv_sidx, q_rcv_scnt, q_rcv_sfnd, q_sidx, q_scnt, q_sfnd, q_sl_str, q_sl_t, q_sl_l, q_sl_r, q_sl_s, q_frz_r, q_frz_l, q_frz_str, q_frz_t, q_frz_b, q_frz_n, q_frz_i, q_walk_t, q_walk_l, q_walk_s, q_walk_str, q_fix_t, q_fix_l, q_asg_n, q_asg_t, q_asgs_n, q_asgs_c, q_rg_t, q_rg_f, Nat.reduceAdd, Nat.reduceSub, reduceCtorEq, Int.reduceToNat, Int.reduceLT, Int.reduceLE, Int.reduceNeg, ga, gq, gu]
      refine ⟨by omega, by omega, ?_⟩
      exact rest _ _ (by omega) (by omega) (by omega)
    · rw [decide_eq_false h1]
      exact rest _ _ hx hk.1 hk.2
  · rw [if_neg h0]
    exact rest _ _ hx hk.1 hk.2
theorem allInts {ns : List Int} : ∀ d ∈ ns.map D.int, ∃ i, d = .int i := by
  intro d h
  obtain ⟨i, _, rfl⟩ := List.mem_map.mp h
  exact ⟨i, rfl⟩
theorem stream_run {Γ : Gam} {ns : List D} {G : HD} {E : EndsD} (hns : ∀ d ∈ ns, ∃ i, d = .int i)
    (h : ∀ p q m, G q = none → (updD G q (.lst ns)) p = none → 0 ≤ m → m < 2147483647 → E.rt (.ref p) (updD (updD G q (.lst ns)) p (.lst [.ref q, .int 0, .int 0, .int m]))) :
    wSs Γ b_stream E [some (.scr ns), none, none] G := by
  simp only [b_stream, Gam.isb, ok_some, ok_none, newL_t, newL_f, isTy, wipeD, isNo, wPart, wE, wEs, wBo, wT, wTs, wI, wSU, offD, onD, wS, wSs, startD, c_getD0, c_getDS, c_set0, c_setS, c_lenC, c_lenN, c_mapC, c_mapN, c_get0, c_getS, c_appC, c_appN, c_repS, c_rep0, c_anyC, c_anyN, c_decT, c_decF, c_orF, c_orT, c_Tor, c_For, c_nT, c_nF, c_Tand, c_andT, c_decE, c_oms, c_ifT, c_ifF, c_fT, q_add_ii, q_add_ss, q_add_tt, q_add_l, q_add_r, q_sub, q_mul, q_mul_l, q_mul_s, q_fdiv, q_mod, q_pow, q_xor, q_bor, q_band, q_seqH_l, q_seqH_r, q_seq_l, q_seq_s, q_seq_r, q_seq_t, q_itm_t, q_itm_l, q_itm_s, q_itm_r, q_len_str, q_len_t, q_len_l, q_len_s, q_len_r, q_tr_n, q_tr_b, q_tr_i, q_tr_str, q_tr_t, q_tr_l, q_tr_s, q_tr_r, q_eq, q_ne, q_lt, q_le, q_gt, q_ge, q_inn, q_nin, q_is_n, q_is_b, q_is_i, q_is_str, q_is_t, q_is_l, q_is_r, q_is_bb, q_ns_bb, q_ns_n, q_ns_b, q_ns_i, q_ns_str, q_ns_t, q_ns_l, q_ns_r, q_eq_ii, q_eq_ss, q_eq_bb, q_eq_nn, q_idx_t, q_idx_l, q_idx_s, q_idx_str, q_idx_r, at_0, at_1, at_2, at_3, at_4, at_5, q_bf_len, q_bf_abs, q_bf_int, q_bf_intb, q_bf_bool, q_bf_tup, q_imT_t, q_imT_l, q_imT_s, q_imT_r, q_itm_p, q_len_p, q_idx_p, q_walk_p, q_asg_p, q_bf_lst, q_bf_all, q_bf_any, q_bf_min2, q_bf_max2, q_bf_sum, q_bf_ord, q_ty_n, q_ty_b, q_ty_i, q_ty_str, q_ty_t, q_ty_l, q_ty_s, q_ty_r, q_app, q_ext, q_pop, q_popI, q_join, q_rcv_app, q_rcv_ext, q_rcv_pop, q_rcv_join, q_rcv_sidx, q_rcv_scnt, q_rcv_sfnd, q_sidx, q_scnt, q_sfnd, q_sl_str, q_sl_t, q_sl_l, q_sl_r, q_sl_s, q_frz_r, q_frz_l, q_frz_str, q_frz_t, q_frz_b, q_frz_n, q_frz_i, q_walk_t, q_walk_l, q_walk_s, q_walk_str, q_fix_t, q_fix_l, q_asg_n, q_asg_t, q_asgs_n, q_asgs_c, q_rg_t, q_rg_f, Nat.reduceAdd, Nat.reduceSub, reduceCtorEq, Int.reduceToNat, Int.reduceLT, Int.reduceLE, Int.reduceNeg]
  refine wFor_ind (fun xs σ H => (∀ d ∈ xs, ∃ i, d = .int i) ∧ H = G ∧ ∃ m o, σ = [some (.scr ns), some (.int m), o] ∧ 0 ≤ m ∧ m < 2147483647) ?_ ?_ _ _ _ ⟨hns, rfl, 17, none, rfl, by decide, by decide⟩
  · rintro σ H ⟨_, rfl, m, o, rfl, h1, h2⟩
    simp only [Gam.isb, ok_some, ok_none, newL_t, newL_f, isTy, wipeD, isNo, wPart, wE, wEs, wBo, wT, wTs, wI, wSU, offD, onD, wS, wSs, startD, c_getD0, c_getDS, c_set0, c_setS, c_lenC, c_lenN, c_mapC, c_mapN, c_get0, c_getS, c_appC, c_appN, c_repS, c_rep0, c_anyC, c_anyN, c_decT, c_decF, c_orF, c_orT, c_Tor, c_For, c_nT, c_nF, c_Tand, c_andT, c_decE, c_oms, c_ifT, c_ifF, c_fT, q_add_ii, q_add_ss, q_add_tt, q_add_l, q_add_r, q_sub, q_mul, q_mul_l, q_mul_s, q_fdiv, q_mod, q_pow, q_xor, q_bor, q_band, q_seqH_l, q_seqH_r, q_seq_l, q_seq_s, q_seq_r, q_seq_t, q_itm_t, q_itm_l, q_itm_s, q_itm_r, q_len_str, q_len_t, q_len_l, q_len_s, q_len_r, q_tr_n, q_tr_b, q_tr_i, q_tr_str, q_tr_t, q_tr_l, q_tr_s, q_tr_r, q_eq, q_ne, q_lt, q_le, q_gt, q_ge, q_inn, q_nin, q_is_n, q_is_b, q_is_i, q_is_str, q_is_t, q_is_l, q_is_r, q_is_bb, q_ns_bb, q_ns_n, q_ns_b, q_ns_i, q_ns_str, q_ns_t, q_ns_l, q_ns_r, q_eq_ii, q_eq_ss, q_eq_bb, q_eq_nn, q_idx_t, q_idx_l, q_idx_s, q_idx_str, q_idx_r, at_0, at_1, at_2, at_3, at_4, at_5, q_bf_len, q_bf_abs, q_bf_int, q_bf_intb, q_bf_bool, q_bf_tup, q_imT_t, q_imT_l, q_imT_s, q_imT_r, q_itm_p, q_len_p, q_idx_p, q_walk_p, q_asg_p, q_bf_lst, q_bf_all, q_bf_any, q_bf_min2, q_bf_max2, q_bf_sum, q_bf_ord, q_ty_n, q_ty_b, q_ty_i, q_ty_str, q_ty_t, q_ty_l, q_ty_s, q_ty_r, q_app, q_ext, q_pop, q_popI, q_join, q_rcv_app, q_rcv_ext, q_rcv_pop, q_rcv_join, q_rcv_sidx, q_rcv_scnt, q_rcv_sfnd, q_sidx, q_scnt, q_sfnd, q_sl_str, q_sl_t, q_sl_l, q_sl_r, q_sl_s, q_frz_r, q_frz_l, q_frz_str, q_frz_t, q_frz_b, q_frz_n, q_frz_i, q_walk_t, q_walk_l, q_walk_s, q_walk_str, q_fix_t, q_fix_l, q_asg_n, q_asg_t, q_asgs_n, q_asgs_c, q_rg_t, q_rg_f, Nat.reduceAdd, Nat.reduceSub, reduceCtorEq, Int.reduceToNat, Int.reduceLT, Int.reduceLE, Int.reduceNeg]
    intro q hq p hp
    exact h p q m hq hp h1 h2
  · rintro x xs ih σ H ⟨hx, rfl, m, o, rfl, h1, h2⟩
    obtain ⟨i, rfl⟩ := hx x List.mem_cons_self
    simp only [Gam.isb, ok_some, ok_none, newL_t, newL_f, isTy, wipeD, isNo, wPart, wE, wEs, wBo, wT, wTs, wI, wSU, offD, onD, wS, wSs, startD, c_getD0, c_getDS, c_set0, c_setS, c_lenC, c_lenN, c_mapC, c_mapN, c_get0, c_getS, c_appC, c_appN, c_repS, c_rep0, c_anyC, c_anyN, c_decT, c_decF, c_orF, c_orT, c_Tor, c_For, c_nT, c_nF, c_Tand, c_andT, c_decE, c_oms, c_ifT, c_ifF, c_fT, q_add_ii, q_add_ss, q_add_tt, q_add_l, q_add_r, q_sub, q_mul, q_mul_l, q_mul_s, q_fdiv, q_mod, q_pow, q_xor, q_bor, q_band, q_seqH_l, q_seqH_r, q_seq_l, q_seq_s, q_seq_r, q_seq_t, q_itm_t, q_itm_l, q_itm_s, q_itm_r, q_len_str, q_len_t, q_len_l, q_len_s, q_len_r, q_tr_n, q_tr_b, q_tr_i, q_tr_str, q_tr_t, q_tr_l, q_tr_s, q_tr_r, q_eq, q_ne, q_lt, q_le, q_gt, q_ge, q_inn, q_nin, q_is_n, q_is_b, q_is_i, q_is_str, q_is_t, q_is_l, q_is_r, q_is_bb, q_ns_bb, q_ns_n, q_ns_b, q_ns_i, q_ns_str, q_ns_t, q_ns_l, q_ns_r, q_eq_ii, q_eq_ss, q_eq_bb, q_eq_nn, q_idx_t, q_idx_l, q_idx_s, q_idx_str, q_idx_r, at_0, at_1, at_2, at_3, at_4, at_5, q_bf_len, q_bf_abs, q_bf_int, q_bf_intb, q_bf_bool, q_bf_tup, q_imT_t, q_imT_l, q_imT_s, q_imT_r, q_itm_p, q_len_p, q_idx_p, q_walk_p, q_asg_p, q_bf_lst, q_bf_all, q_bf_any, q_bf_min2, q_bf_max2, q_bf_sum, q_bf_ord, q_ty_n, q_ty_b, q_ty_i, q_ty_str, q_ty_t, q_ty_l, q_ty_s, q_ty_r, q_app, q_ext, q_pop, q_popI, q_join, q_rcv_app, q_rcv_ext, q_rcv_pop, q_rcv_join, q_rcv_sidx, q_rcv_scnt, q_rcv_sfnd, q_sidx, q_scnt, q_sfnd, q_sl_str, q_sl_t, q_sl_l, q_sl_r, q_sl_s, q_frz_r, q_frz_l, q_frz_str, q_frz_t, q_frz_b, q_frz_n, q_frz_i, q_walk_t, q_walk_l, q_walk_s, q_walk_str, q_fix_t, q_fix_l, q_asg_n, q_asg_t, q_asgs_n, q_asgs_c, q_rg_t, q_rg_f, Nat.reduceAdd, Nat.reduceSub, reduceCtorEq, Int.reduceToNat, Int.reduceLT, Int.reduceLE, Int.reduceNeg]
    refine ⟨.inr trivial, ih _ _ ⟨fun d hd => hx d (List.mem_cons_of_mem _ hd), rfl, _, _, rfl, Int.emod_nonneg _ (by decide), Int.emod_lt_of_pos _ (by decide)⟩⟩
def spDraw : SpD := fun ds G Q _ => ∃ n : Int, ds = [.rnd, .int n] ∧ (0 < n ∧ n < 2 ^ 200) ∧ ∀ r, 0 ≤ r → r < n → Q (.int r) G
def spStream : SpD := fun ds G Q _ => ∃ ns : List Int, ds = [.scr (ns.map .int)] ∧ Q .rnd G
def spDraw0 : SpD := fun ds G Q _ => ∃ (a q : Addr) (ns : List Int) (x k m n : Int), ds = [.ref a, .int n] ∧ q ≠ a ∧ G = rawG a q (ns.map .int) x k m ∧ (0 < n ∧ n < 2 ^ 200) ∧ 0 ≤ x ∧ (0 ≤ k ∧ k ≤ (ns.map D.int).length) ∧ (0 ≤ m ∧ m < 2147483647) ∧
  ∀ (r x' k' m' : Int), 0 ≤ r → r < n → 0 ≤ x' → 0 ≤ k' → k' ≤ (ns.map D.int).length → 0 ≤ m' → m' < 2147483647 → Q (.int r) (rawG a q (ns.map .int) x' k' m')
def spStream0 : SpD := fun ds G Q _ => ∃ ns : List Int, ds = [.scr (ns.map .int)] ∧ G = emp ∧ ∀ p q m, p ≠ q → 0 ≤ m → m < 2147483647 → Q (.ref p) (rawG p q (ns.map .int) 0 0 m)
def d_stream (st : Stmt) : Df := ⟨"_law_stream", ["script"], ["script", "mixed", "cell"], st, b_stream⟩
def d_draw (st : Stmt) : Df := ⟨"_law_draw", ["stream", "many"], ["stream", "many", "value"], st, b_draw⟩
theorem draw0_ok {Γ : Gam} {st : Stmt} (ds : List D) (G : HD) (QD : KD) (XD : KX) (h : spDraw0 ds G QD XD) :
    wSs Γ (d_draw st).b { nx := fun _ H => QD .non H, rt := QD, ex := fun x _ H => XD x H } (startD (d_draw st).N.length ds) G := by
  obtain ⟨a, q, ns, x, k, m, n, rfl, h1, rfl, h2, h3, h4, h5, h6⟩ := h
  exact draw_run h1 allInts h2 h3 h4 h5 h6
theorem stream0_ok {Γ : Gam} {st : Stmt} (ds : List D) (G : HD) (QD : KD) (XD : KX) (h : spStream0 ds G QD XD) :
    wSs Γ (d_stream st).b { nx := fun _ H => QD .non H, rt := QD, ex := fun x _ H => XD x H } (startD (d_stream st).N.length ds) G := by
  obtain ⟨ns, rfl, rfl, h⟩ := h
  exact stream_run allInts fun p q m hq hp h1 h2 => h p q m (fun e => by rw [e, updD_same] at hp; cases hp) h1 h2
section
variable {K : PySem.W.Frag} {fnm clm : Nat → Option Addr} {S S' : Addr → Option Bool} {H H' : Hp} {G G' : HD}
abbrev noS : Addr → Option Bool := fun _ => none
theorem ints_dat : ∀ {ns : List Int}, DatAll K fnm S H G (ns.map V.int) (ns.map D.int)
  | [] => .nil
  | n :: ns => .cons (.int n) ints_dat
theorem ints_back : ∀ {ns : List Int} {vs : List V}, DatAll K fnm S H G vs (ns.map D.int) → vs = ns.map V.int
  | [], _, .nil => rfl
  | n :: ns, _, .cons r t => by cases r; rw [ints_back t]; rfl
/-- a piece of code that saw the stream bare: back into the whole -/
theorem frame_draw {a q : Addr} {ns : List Int} {x k m : Int} (R : Hel K fnm clm S H G) (ha : S a = some true) (hq : G q = none) (sq : S q = none) (hz : ns.length ≤ sizeLine)
    {x' k' m' : Int} (hx : 0 ≤ x') (hk : 0 ≤ k') (hk2 : k' ≤ (ns.map D.int).length) (hm : 0 ≤ m') (hm2 : m' < 2147483647) (hqa : q ≠ a) (Hq : H q = some (.lst (ns.map V.int)))
    (st : Step noS H (rawG a q (ns.map .int) x k m) S' H' (rawG a q (ns.map .int) x' k' m')) (R' : Hel K fnm clm S' H' (rawG a q (ns.map .int) x' k' m')) : Step S H G S H' G ∧ Hel K fnm clm S H' G := by
  have g0 : ∀ b, b ≠ a → b ≠ q → rawG a q (ns.map .int) x k m b = none := fun b h1 h2 => (updD_ne h1).trans ((updD_ne h2).trans rfl)
  have stay : ∀ b o, b ≠ a → H b = some o → H' b = some o := fun b o h1 e => by
    by_cases h2 : b = q
    · subst h2
      obtain ⟨vs, e1, e2, e3⟩ := R'.cell b (.lst (ns.map .int)) ((updD_ne h1).trans updD_same)
      rw [e1, ints_back e3, ← Hq, e]
    · exact st.stay b o e (g0 b h1 h2) (by simp [noS])
  have S0 : Step S H G S H' G := ⟨fun b o e g s => stay b o (fun z => by rw [z] at s; exact s ha) e, fun _ _ h => h, fun _ h => h.elim .inl fun x => .inr (.inl x), fun _ h => .inl h, st.there⟩
  refine ⟨S0, fun b c e => ?_, fun b e => ?_, fun b e => ?_⟩
  · have h1 : b ≠ a := fun z => by rw [z, (R.rnd a ha).1] at e; cases e
    have hb := R.there (a := b) (.inl (by rw [e]; simp))
    refine (R.cell b c e).step R S0 ?_
    cases hh : H b with
    | none => exact absurd hh hb
    | some o => rw [stay b o h1 hh]
  · refine ⟨(R.rnd b e).1, ?_⟩
    by_cases h1 : b = a
    · subst h1
      obtain ⟨vs, e1, e2, e3⟩ := R'.cell b _ updD_same
      cases e3 with
      | cons r1 t =>
        cases t with
        | cons r2 t =>
          cases t with
          | cons r3 t =>
            cases t with
            | cons r4 t =>
              cases t
              cases r1; cases r2; cases r3; cases r4
              refine ⟨q, ns, x', k', m', e1, stay q _ hqa Hq, hq, sq, hx, hk, by simpa using hk2, hm, hm2, hz⟩
    · have hb := R.there (a := b) (.inr (by rw [e]; simp))
      refine (R.rnd b e).2.step R S0 ?_
      cases hh : H b with
      | none => exact absurd hh hb
      | some o => rw [stay b o h1 hh]
  · obtain ⟨g, r⟩ := R.res b e
    exact ⟨g, fun z => r (st.there b z)⟩
def addS (S : Addr → Option Bool) (p : Addr) : Addr → Option Bool := fun a => if a = p then some true else S a
theorem frame_stream {p q : Addr} {ns : List Int} {m : Int} (R : Hel K fnm clm S H G) (hz : ns.length ≤ sizeLine) (hm : 0 ≤ m) (hm2 : m < 2147483647) (hpq : p ≠ q)
    (st : Step noS H emp S' H' (rawG p q (ns.map .int) 0 0 m)) (R' : Hel K fnm clm S' H' (rawG p q (ns.map .int) 0 0 m)) : Step S H G (addS S p) H' G ∧ Hel K fnm clm (addS S p) H' G := by
  have Hp : H p = none := by
    rcases st.own p (.inl (by rw [show rawG p q (ns.map .int) 0 0 m p = _ from updD_same]; simp)) with h | h | h
    · exact absurd rfl h
    · cases h
    · exact h
  have Hq : H q = none := by
    rcases st.own q (.inl (by rw [show rawG p q (ns.map .int) 0 0 m q = _ from (updD_ne hpq.symm).trans updD_same]; simp)) with h | h | h
    · exact absurd rfl h
    · cases h
    · exact h
  have fp := R.free Hp
  have fq := R.free Hq
  have stay : ∀ b o, H b = some o → H' b = some o := fun b o e => st.stay b o e rfl (by simp [noS])
  have S0 : Step S H G (addS S p) H' G := by
    refine ⟨fun b o e g s => stay b o e, fun b v h => ?_, fun b h => ?_, fun b h => ?_, st.there⟩
    · unfold addS; rw [if_neg (fun z => by rw [z, fp.2] at h; cases h)]; exact h
    · rcases h with h | h
      · exact .inl h
      · unfold addS at h
        split at h
        · rename_i z; exact .inr (.inr (by rw [z]; exact Hp))
        · exact .inr (.inl h)
    · unfold addS at h
      split at h
      · cases h
      · exact .inl h
  have same : ∀ b, H b ≠ none → H' b = H b := fun b h => by
    cases hh : H b with
    | none => exact absurd hh h
    | some o => exact stay b o hh
  refine ⟨S0, fun b c e => (R.cell b c e).step R S0 (same b (R.there (.inl (by rw [e]; simp)))), fun b e => ?_, fun b e => ?_⟩
  · by_cases h1 : b = p
    · subst h1
      refine ⟨fp.1, ?_⟩
      obtain ⟨vs, e1, e2, e3⟩ := R'.cell b _ updD_same
      obtain ⟨ws, j1, j2, j3⟩ := R'.cell q (.lst (ns.map .int)) ((updD_ne hpq.symm).trans updD_same)
      cases e3 with
      | cons r1 t =>
        cases t with
        | cons r2 t =>
          cases t with
          | cons r3 t =>
            cases t with
            | cons r4 t =>
              cases t
              cases r1; cases r2; cases r3; cases r4
              rw [ints_back j3] at j1
              refine ⟨q, ns, 0, 0, m, e1, j1, fq.1, by unfold addS; rw [if_neg hpq.symm]; exact fq.2, by decide, by decide, by omega, hm, hm2, hz⟩
    · have e' : S b = some true := by unfold addS at e; rw [if_neg h1] at e; exact e
      exact ⟨(R.rnd b e').1, (R.rnd b e').2.step R S0 (same b (R.there (.inr (by rw [e']; simp))))⟩
  · have h1 : b ≠ p := fun z => by unfold addS at e; rw [if_pos z] at e; cases e
    have e' : S b = some false := by unfold addS at e; rw [if_neg h1] at e; exact e
    obtain ⟨g, r⟩ := R.res b e'
    exact ⟨g, fun z => r (st.there b z)⟩
theorem draw_imp {vs : List V} {Q : VK} {E : XK} (h : lift K fnm clm 2 spDraw vs H Q E) : lift K fnm clm 2 spDraw0 vs H Q E := by
  obtain ⟨hl, S, G, ds, QD, XD, R, r, ⟨n, rfl, hn, h⟩, hQ, hX⟩ := h
  cases r with
  | cons r1 t =>
    cases t with
    | cons r2 t =>
      cases t
      cases r1; cases r2
      rename_i a ha
      obtain ⟨g, q, ns, x, k, m, e1, e2, gq, sq, hx, hk, hk2, hm, hm2, hz⟩ := R.rnd a ha
      have hqa : q ≠ a := fun z => by rw [z, ha] at sq; cases sq
      refine ⟨hl, noS, rawG a q (ns.map .int) x k m, [.ref a, .int n], fun d G' => ∃ (r x' k' m' : Int), d = .int r ∧ G' = rawG a q (ns.map .int) x' k' m' ∧ 0 ≤ r ∧ r < n ∧ 0 ≤ x' ∧ 0 ≤ k' ∧ k' ≤ (ns.map D.int).length ∧ 0 ≤ m' ∧ m' < 2147483647, fun _ _ => False,
        ⟨fun b c e => ?_, fun b e => (by cases e), fun b e => (by cases e)⟩, .cons (.ref a) (.cons (.int n) .nil), ⟨a, q, ns, x, k, m, n, rfl, hqa, rfl, hn, hx, ⟨hk, by simpa using hk2⟩, ⟨hm, hm2⟩, fun r x' k' m' h1 h2 h3 h4 h5 h6 h7 => ⟨r, x', k', m', rfl, rfl, h1, h2, h3, h4, h5, h6, h7⟩⟩, ?_, fun x c S' H' G' _ _ _ z => z.elim⟩
      · by_cases h1 : b = a
        · subst h1
          rw [show rawG b q (ns.map .int) x k m b = _ from updD_same] at e
          cases e
          exact ⟨_, e1, by rw [lim_eq]; show 4 ≤ lim; decide, .cons (.ref q) (.cons (.int _) (.cons (.int _) (.cons (.int _) .nil)))⟩
        · have e : updD emp q (.lst (ns.map .int)) b = some c := (updD_ne h1).symm.trans e
          by_cases h2 : b = q
          · subst h2
            rw [updD_same] at e
            cases e
            exact ⟨_, e2, by rw [List.length_map]; exact hz, ints_dat⟩
          · rw [updD_ne h2] at e; cases e
      · rintro v S' H' d G' st R' rv ⟨r, x', k', m', rfl, rfl, h1, h2, h3, h4, h5, h6, h7⟩
        cases rv
        obtain ⟨k1, k2⟩ := frame_draw R ha gq sq hz h3 h4 h5 h6 h7 hqa e2 st R'
        exact hQ _ S H' _ G k1 k2 (.int r) (h r h1 h2)
theorem stream_imp {vs : List V} {Q : VK} {E : XK} (h : lift K fnm clm 1 spStream vs H Q E) : lift K fnm clm 1 spStream0 vs H Q E := by
  obtain ⟨hl, S, G, ds, QD, XD, R, r, ⟨ns, rfl, h⟩, hQ, hX⟩ := h
  cases r with
  | cons r1 t =>
    cases t
    obtain ⟨a, vs, rfl, e1, e2, e3⟩ := dat_scr r1
    have ev := ints_back e3
    subst ev
    have hz : ns.length ≤ sizeLine := by rw [List.length_map] at e2; exact e2
    have r1' : Dat K fnm noS H emp (.ref a) (.scr (ns.map .int)) := by
      cases r1 with
      | scr h1 h2 h3 => exact .scr h1 h2 (by cases ints_back h3; exact ints_dat)
    refine ⟨hl, noS, emp, [.scr (ns.map .int)], fun d G' => ∃ p q m, d = .ref p ∧ G' = rawG p q (ns.map .int) 0 0 m ∧ p ≠ q ∧ 0 ≤ m ∧ m < 2147483647, fun _ _ => False,
      ⟨fun b c e => (by cases e), fun b e => (by cases e), fun b e => (by cases e)⟩, .cons r1' .nil, ⟨ns, rfl, rfl, fun p q m h1 h2 h3 => ⟨p, q, m, rfl, rfl, h1, h2, h3⟩⟩, ?_, fun x c S' H' G' _ _ _ z => z.elim⟩
    rintro v S' H' d G' st R' rv ⟨p, q, m, rfl, rfl, h1, h2, h3⟩
    cases rv
    obtain ⟨k1, k2⟩ := frame_stream R hz h2 h3 h1 st R'
    exact hQ _ _ H' _ G k1 k2 (.rnd p (by unfold addS; rw [if_pos rfl])) h
end
section
variable {P : Program} {w : World} {K : PySem.W.Frag} {mg : Str → Option Value} {fnm clm : Nat → Option Addr} {C : Cfg} {Γ : Gam} {k : Nat}
theorem all_draw {i : Nat} {st : Stmt} (h : AllOk P w K mg fnm clm C Γ k) (W : Wd P w K mg clm Γ.gl Γ.sb C.gls C.cls) (hx : C.fns[i]? = some (("_law_draw" : Str), 2)) (hd : DfAt K mg fnm i (d_draw st)) (hm : defC C (d_draw st) = true) :
    AllOk P w K mg fnm clm C (Γ.up i spDraw) (k + 1) := by
  have hm2 : (mSs C (d_draw st).N (defScope st) (d_draw st).b (defBody st) && C8.scC (d_draw st).N (d_draw st).ps (defScope st)) = true := hm
  rw [Bool.and_eq_true] at hm2
  exact all_raw (d := d_draw st) h (Nat.le_succ _) hx hd fun f fd F base hb hg => (fn_good (Γ := Γ) (sp := spDraw0) W F (C8.fnScope_by hm2.2) hm2.1 h.2 h.1 (fun ds G QD XD _ h => draw0_ok ds G QD XD h) hb hg).imp fun vs H Q E h => draw_imp h
theorem all_stream {i : Nat} {st : Stmt} (h : AllOk P w K mg fnm clm C Γ k) (W : Wd P w K mg clm Γ.gl Γ.sb C.gls C.cls) (hx : C.fns[i]? = some (("_law_stream" : Str), 1)) (hd : DfAt K mg fnm i (d_stream st)) (hm : defC C (d_stream st) = true) :
    AllOk P w K mg fnm clm C (Γ.up i spStream) (k + 1) := by
  have hm2 : (mSs C (d_stream st).N (defScope st) (d_stream st).b (defBody st) && C8.scC (d_stream st).N (d_stream st).ps (defScope st)) = true := hm
  rw [Bool.and_eq_true] at hm2
  exact all_raw (d := d_stream st) h (Nat.le_succ _) hx hd fun f fd F base hb hg => (fn_good (Γ := Γ) (sp := spStream0) W F (C8.fnScope_by hm2.2) hm2.1 h.2 h.1 (fun ds G QD XD _ h => stream0_ok ds G QD XD h) hb hg).imp fun vs H Q E h => stream_imp h
end
end DL

namespace DL
open PySem PySem.Spec PyProof.Rows L2
/-! ## 17. The head -/
mutual
/-- is what stands at u this? -/
def datB (K : PySem.W.Frag) : D → Value → Bool
  | .non => fun u => match u with | .none => true | _ => false
  | .bl b => fun u => match u with | .bool c => b == c | _ => false
  | .int i => fun u => match u with | .int j _ => decide (j = i) | _ => false
  | .str s => fun u => match u with | .str x _ => decide (x = mkStr s) && PyData.strOk x && decide (s.length ≤ lim) | _ => false
  | .tup ds => fun u => match u with
    | .ref a => (match K.lookup a with
      | some ⟨.type c, none, .seq its _, _⟩ => decide (c = "tuple") && (decide (its.size ≤ 1000) && datsB K ds its.toList)
      | _ => false)
    | _ => false
  | .scr ds => fun u => match u with
    | .ref a => (match K.lookup a with
      | some ⟨.type c, none, .seq its _, _⟩ => decide (c = "list") && (decide (its.size ≤ 1000) && datsB K ds its.toList)
      | _ => false)
    | _ => false
  | _ => fun _ => false
def datsB (K : PySem.W.Frag) : List D → List Value → Bool
  | [] => fun us => us.isEmpty
  | d :: ds => fun us => match us with
    | u :: us => datB K d u && datsB K ds us
    | [] => false
end
section
variable {K : PySem.W.Frag}
theorem size_lim {n : Nat} (h : n ≤ 1000) : n ≤ sizeLine := by rw [lim_eq]; unfold lim; omega
mutual
theorem datB_ok : ∀ (d : D) (u : Value), datB K d u = true → ∃ v, RelV v u ∧ ∀ fnm S H G, Dat K fnm S H G v d
  | .non, u, h => by
    unfold datB at h
    split at h
    · exact ⟨.non, rfl, fun _ _ _ _ => .non⟩
    · cases h
  | .bl b, u, h => by
    unfold datB at h
    split at h
    · exact ⟨.bl b, by rw [beq_iff_eq] at h; subst h; rfl, fun _ _ _ _ => .bl b⟩
    · cases h
  | .int i, u, h => by
    unfold datB at h
    split at h
    · cases of_decide_eq_true h
      exact ⟨.int i, ⟨_, rfl⟩, fun _ _ _ _ => .int i⟩
    · cases h
  | .str s, u, h => by
    unfold datB at h
    split at h
    · simp only [Bool.and_eq_true, decide_eq_true_eq] at h
      obtain ⟨⟨rfl, h2⟩, h3⟩ := h
      exact ⟨.str (mkStr s), ⟨_, rfl⟩, fun _ _ _ _ => .str s h2 (by rw [lim_eq]; exact h3)⟩
    · cases h
  | .tup ds, u, h => by
    unfold datB at h
    split at h
    · split at h
      · rename_i a _ c its n sl e
        simp only [Bool.and_eq_true, decide_eq_true_eq] at h
        obtain ⟨h1, h2, h3⟩ := h
        subst h1
        obtain ⟨vs, r, q⟩ := datsB_ok ds its.toList h3
        have hl : vs.length ≤ 1000 := by rw [r.length]; simpa using h2
        exact ⟨.ref a, rfl, fun fnm S H G => .tup (.inr ⟨_, its, n, e, rfl, rfl, rfl, size_lim h2, r⟩) (size_lim hl) (q fnm S H G)⟩
      · cases h
    · cases h
  | .scr ds, u, h => by
    unfold datB at h
    split at h
    · split at h
      · rename_i a _ c its n sl e
        simp only [Bool.and_eq_true, decide_eq_true_eq] at h
        obtain ⟨h1, h2, h3⟩ := h
        subst h1
        obtain ⟨vs, r, q⟩ := datsB_ok ds its.toList h3
        have hl : vs.length ≤ 1000 := by rw [r.length]; simpa using h2
        exact ⟨.ref a, rfl, fun fnm S H G => .scr (.inr ⟨_, its, n, e, rfl, rfl, rfl, size_lim h2, r⟩) (size_lim hl) (q fnm S H G)⟩
      · cases h
    · cases h
  | .lst _, u, h => by unfold datB at h; cases h
  | .ref _, u, h => by unfold datB at h; cases h
  | .rnd, u, h => by unfold datB at h; cases h
  | .ty _, u, h => by unfold datB at h; cases h
  | .fn _, u, h => by unfold datB at h; cases h
theorem datsB_ok : ∀ (ds : List D) (us : List Value), datsB K ds us = true → ∃ vs, Vals vs us ∧ ∀ fnm S H G, DatAll K fnm S H G vs ds
  | [], us, h => by
    unfold datsB at h
    cases us with
    | nil => exact ⟨[], .nil, fun _ _ _ _ => .nil⟩
    | cons _ _ => cases h
  | d :: ds, us, h => by
    unfold datsB at h
    split at h
    · rename_i u us
      simp only [Bool.and_eq_true] at h
      obtain ⟨v, r, q⟩ := datB_ok d u h.1
      obtain ⟨vs, rs, qs⟩ := datsB_ok ds us h.2
      exact ⟨v :: vs, .cons r rs, fun fnm S H G => .cons (q fnm S H G) (qs fnm S H G)⟩
    · cases h
end
end
/-- is this an own exception class, plain in all that isinstance asks? -/
def excB (K : PySem.W.Frag) (c : Addr) : Bool :=
  He.eqO (PySem.W.findIn K (.ref c) "__getattribute__") (some (some (.builtin "BaseException.__getattribute__"))) && (He.eqO (PySem.W.findIn K (.ref c) "__getattr__") (some none) &&
  (decide (PySem.W.subIn K (.ref c) (.type "BaseException") = some true) && (PySem.W.hasDictIn K c && (He.eqO (PySem.W.findIn K (.ref c) "__class__") (some (some (.builtin "object.__class__"))) &&
  (He.eqO (PySem.W.specialIn K (.builtin "object.__class__") "__get__") (some (some (.builtin "getset_descriptor.__get__"))) && (decide (PySem.W.takesIn K (.builtin "object.__class__") = some true) && (decide (PySem.W.mroIn K c (.type "object") = some true) &&
  decide (PySem.W.kitOne K (.ref c) (.type "ValueError") = some true))))))))
theorem excB_ok {K : PySem.W.Frag} {c : Addr} (h : excB K c = true) : L2.ExcC K c ∧ PySem.W.kitOne K (.ref c) (.type "ValueError") = some true := by
  unfold excB at h
  simp only [Bool.and_eq_true, decide_eq_true_eq] at h
  obtain ⟨h1, h2, h3, h4, h5, h6, h7, h8, h9⟩ := h
  exact ⟨⟨He.eqO_ok h1, He.eqO_ok h2, h3, h4, He.eqO_ok h5, He.eqO_ok h6, h7, h8⟩, h9⟩
/-- the exception classes, each below which -/
def xcB (cls : List Str) (sb : Nat → Nat → Bool) (K : PySem.W.Frag) : Bool := cls.all (fun x => excB K (He.ga K x)) && (List.range cls.length).all fun i => (List.range cls.length).all fun j =>
  decide (PySem.W.exmOne K (.ref (He.ga K (cls.getD i ""))) (.ref (He.ga K (cls.getD j ""))) = some (sb i j)) && decide (PySem.W.kitOne K (.ref (He.ga K (cls.getD i ""))) (.ref (He.ga K (cls.getD j ""))) = some (sb i j))
def glsB (gl : List (Str × D)) (K : PySem.W.Frag) : Bool := gl.all fun p => match PySem.W.nsIn K mainGlobals p.1 with
  | some (some u) => datB K p.2 u
  | _ => false
abbrev AlX : Type := He.AlD × Bool
def obX (n : Nat) (fa : List He.Fa) (fn : List He.DefD) (gl : List (Str × D)) (cls : List Str) (sb : Nat → Nat → Bool) (g : Addr → Option Obj) : AlX := (fun K => (He.obsD fa fn K, glsB gl K && xcB cls sb K)) (He.frG g (He.asD g n))
def hookX (n : Nat) (fa : List He.Fa) (fn : List He.DefD) (gl : List (Str × D)) (cls : List Str) (sb : Nat → Nat → Bool) : PySem.W.Hook where
  α := AlX
  obs := fun s => obX n fa fn gl cls sb s.heap.get?
  val := fun _ => (He.valD fn, true)
  says := fun _ h => ∃ K : PySem.W.Frag, K.In h ∧ He.SaysD fa fn K ∧ (glsB gl K && xcB cls sb K) = true
  of := fun _ _ e => ⟨_, He.frG_in, congrArg Prod.fst e, congrArg Prod.snd e⟩
  keeps := fun _ _ _ ⟨K, hK, c⟩ k => ⟨K, PySem.W.Frag.In.keeps hK k, c⟩
theorem obX_eq {n : Nat} {fa : List He.Fa} {fn : List He.DefD} {gl : List (Str × D)} {cls : List Str} {sb : Nat → Nat → Bool} {g : Addr → Option Obj} {s : Shared} (h : ∀ a, g a = s.heap.get? a) : obX n fa fn gl cls sb g = (hookX n fa fn gl cls sb).obs s := by
  have e : g = s.heap.get? := funext h
  rw [e] <;> rfl
/-- a def as the head looks at it -/
def Df.he (d : Df) : He.DefD := ⟨d.at_, d.nm, d.x, defArgs d.st, defBody d.st, defScope d.st, [], []⟩
def Df.fa (d : Df) : He.Fa := match d.m with | none => .glo d.x | some p => .meth p.1 p.2
def Oc.fa (o : Oc) : List He.Fa := .glo o.x :: .cls o.x :: (o.fds.map (He.Fa.noat o.x) ++ (o.mts.map (fun p => He.Fa.meth o.x p.1) ++ (match o.ini with | none => [] | some _ => [.mkr o.x])))
def faOf (dfs : List Df) (cls : List Str) (ocs : List Oc) : List He.Fa := (dfs.map Df.fa) ++ (bltNames.map He.Fa.free ++ (cls.map He.Fa.glo ++ (cls.map He.Fa.exc ++ ocs.flatMap Oc.fa)))
/-- the methods' defs stand where the classes say -/
def ocsB (dfs : List Df) (ocs : List Oc) : Bool := decide (dfs.length < 1000) && (ocs.all fun o => o.mts.all (fun p => decide ((dfs[p.2]?).map Df.m = some (some (o.x, p.1)))) && (match o.ini with | none => true | some i => decide ((dfs[i]?).map Df.m = some (some (o.x, ("__init__" : Str))))))
def BindsH (d : Df) : Prop := ∀ (kV doc pm : Value) (an : Option Addr) (cdv ct : Value) (us : List Value), us.length = d.ps.length →
  bindArgs (PySem.W.fnOf d.nm d.x (defArgs d.st) (defBody d.st) (defScope d.st) .none kV doc pm an cdv ct) ⟨us, []⟩ = pure (d.ps.zip us)
def fnmOf (K : PySem.W.Frag) (dfs : List Df) (ocs : List Oc) (i : Nat) : Option Addr := match dfs[i]? with | some d => some (He.fAd K d.at_) | none => (ocs[i - 1000]?).map fun o => He.ga K o.x
def clmOf (K : PySem.W.Frag) (cls : List Str) (i : Nat) : Option Addr := (cls[i]?).map (He.ga K)
section
variable {P : Program} {w : World} {K : PySem.W.Frag} {h : Heap} {mg : Str → Option Value} {dfs : List Df} {cls : List Str} {ocs : List Oc} {gl : List (Str × D)} {sb : Nat → Nat → Bool} {n : Nat}
theorem fact_in (c : He.SaysD (faOf dfs cls ocs) (dfs.map Df.he) K) {f : He.Fa} (hf : f ∈ faOf dfs cls ocs) : f.ok K = true := by
  obtain ⟨i, hi, e⟩ := List.mem_iff_getElem.mp hf
  exact c.fact i (f := f) (by rw [List.getElem?_eq_getElem hi, e])
theorem glv_of (p : Nat → D) (i : Nat) {x : Str} {gl : List (Str × D)} (e : (gl.map (·.1))[i]? = some x) : ∃ d, gl[i]? = some (x, d) := by
  rw [List.getElem?_map] at e
  obtain ⟨q, h1, h2⟩ := Option.map_eq_some_iff.mp e
  exact ⟨q.2, by rw [h1, ← h2]⟩
def glD (gl : List (Str × D)) (i : Nat) : D := match gl[i]? with | some p => p.2 | none => .non
theorem wd_of (X : K.In h) (G : h.Ns mainGlobals mg) (c : He.SaysD (faOf dfs cls ocs) (dfs.map Df.he) K) (gx : (glsB gl K && xcB cls sb K) = true) : Wd P w K mg (clmOf K cls) (glD gl) sb (gl.map (·.1)) cls := by
  rw [Bool.and_eq_true] at gx
  obtain ⟨g, gc⟩ := gx
  unfold xcB at gc
  rw [Bool.and_eq_true] at gc
  have at_ : ∀ {i : Nat} {c : Addr}, clmOf K cls i = some c → i < cls.length ∧ cls.getD i "" ∈ cls ∧ c = He.ga K (cls.getD i "") := fun {i c} e => by
    unfold clmOf at e
    obtain ⟨x, h1, h2⟩ := Option.map_eq_some_iff.mp e
    have hd : cls.getD i "" = x := by rw [List.getD_eq_getElem?_getD, h1]; rfl
    rw [hd]
    exact ⟨(List.getElem?_eq_some_iff.mp h1).1, List.mem_of_getElem? h1, h2.symm⟩
  have pair : ∀ {i j : Nat} {c d : Addr}, clmOf K cls i = some c → clmOf K cls j = some d → PySem.W.exmOne K (.ref c) (.ref d) = some (sb i j) ∧ PySem.W.kitOne K (.ref c) (.ref d) = some (sb i j) := fun {i j c d} e1 e2 => by
    obtain ⟨l1, _, rfl⟩ := at_ e1
    obtain ⟨l2, _, rfl⟩ := at_ e2
    have q := List.all_eq_true.mp (List.all_eq_true.mp gc.2 i (List.mem_range.mpr l1)) j (List.mem_range.mpr l2)
    simp only [Bool.and_eq_true, decide_eq_true_eq] at q
    exact q
  refine ⟨fun i j c d e1 e2 => (pair e1 e2).1, fun i c e => ?_, fun x hx => He.free_ok X G (fact_in c (List.mem_append_right _ (List.mem_append_left _ (List.mem_map_of_mem hx)))), fun i x e => ?_, fun i x e => ?_⟩
  · obtain ⟨_, m, rfl⟩ := at_ e
    obtain ⟨q1, q2⟩ := excB_ok (List.all_eq_true.mp gc.1 _ m)
    exact ⟨q1, q2, fun j d e2 => (pair e e2).2⟩
  · obtain ⟨d, e2⟩ := glv_of (glD gl) i e
    have q := List.all_eq_true.mp g _ (List.mem_of_getElem? e2)
    cases e3 : PySem.W.nsIn K mainGlobals x with
    | none => simp [e3] at q
    | some o =>
      cases o with
      | none => simp [e3] at q
      | some u =>
        simp only [e3] at q
        obtain ⟨v, r, hd⟩ := datB_ok d u q
        refine ⟨u, v, PySem.W.mg_of X G e3, r, fun fnm S H G => ?_⟩
        unfold glD
        rw [e2]
        exact hd fnm S H G
  · have m : x ∈ cls := List.mem_of_getElem? e
    obtain ⟨h1, h2, h3, h4⟩ := He.exc_ok (fact_in c (List.mem_append_right _ (List.mem_append_right _ (List.mem_append_right _ (List.mem_append_left _ (List.mem_map_of_mem m))))))
    refine ⟨He.ga K x, by unfold clmOf; rw [e]; rfl, He.glo_ok X G (fact_in c (List.mem_append_right _ (List.mem_append_right _ (List.mem_append_left _ (List.mem_map_of_mem m))))), h1, h2, h3, h4⟩
theorem df_at (X : K.In h) (G : h.Ns mainGlobals mg) (c : He.SaysD (faOf dfs cls ocs) (dfs.map Df.he) K) (ob : ocsB dfs ocs = true) (b : ∀ d ∈ dfs, BindsH d) {i : Nat} {d : Df} (e : dfs[i]? = some d) : DfAt K mg (fnmOf K dfs ocs) i d := by
  have m : d ∈ dfs := List.mem_of_getElem? e
  obtain ⟨fd, F⟩ := c.def_ i (d := d.he) (by rw [List.getElem?_map, e]; rfl)
  have F : FunD K d.nm d.x (defArgs d.st) (defBody d.st) (defScope d.st) [] [] (He.fAd K d.at_) fd := F
  refine ⟨_, fd, by unfold fnmOf; rw [e], fun nd => ?_, F.bindsN (b d m), F⟩
  have hf := fact_in c (List.mem_append_left _ (List.mem_map_of_mem (f := Df.fa) m))
  have q : d.m = none := by unfold Df.m; rw [nd]
  have e1 : d.fa = .glo d.x := by unfold Df.fa; rw [q]
  have e2 : d.at_ = (d.x, none) := by unfold Df.at_; rw [q]
  rw [e1] at hf
  rw [e2]
  exact He.glo_ok X G hf
theorem oc_at (X : K.In h) (G : h.Ns mainGlobals mg) (c : He.SaysD (faOf dfs cls ocs) (dfs.map Df.he) K) (ob : ocsB dfs ocs = true) {j : Nat} {o : Oc} (e : ocs[j]? = some o) : OcAt K mg (fnmOf K dfs ocs) j o := by
  have m : o ∈ ocs := List.mem_of_getElem? e
  have fs : ∀ f ∈ o.fa, f.ok K = true := fun f hf => fact_in c (List.mem_append_right _ (List.mem_append_right _ (List.mem_append_right _ (List.mem_append_right _ (List.mem_flatMap.mpr ⟨o, m, hf⟩)))))
  unfold ocsB at ob
  simp only [Bool.and_eq_true, decide_eq_true_eq] at ob
  obtain ⟨o1, o3⟩ := ob
  have o4 := List.all_eq_true.mp o3 o m
  simp only [Bool.and_eq_true] at o4
  have meth : ∀ (i : Nat) (s : Str), (dfs[i]?).map Df.m = some (some (o.x, s)) → fnmOf K dfs ocs i = some (He.ma K (He.ga K o.x) s) := fun i s q => by
    obtain ⟨d, q1, q2⟩ := Option.map_eq_some_iff.mp q
    unfold fnmOf
    rw [q1]
    show some (He.fAd K d.at_) = _
    have : d.at_ = (o.x, some s) := by unfold Df.at_; rw [q2]
    rw [this]
    rfl
  refine ⟨He.ga K o.x, ?_, He.glo_ok X G (fs _ List.mem_cons_self), He.cls_ok (fs _ (List.mem_cons_of_mem _ List.mem_cons_self)), fun f hf => He.noat_ok (fs _ (List.mem_cons_of_mem _ (List.mem_cons_of_mem _ (List.mem_append_left _ (List.mem_map_of_mem hf))))), fun p hp => ?_, fun i hi => ?_⟩
  · unfold fnmOf
    rw [List.getElem?_eq_none (by omega)]
    show (ocs[1000 + j - 1000]?).map _ = _
    rw [Nat.add_sub_cancel_left, e]
    rfl
  · exact ⟨_, meth p.2 p.1 (of_decide_eq_true (List.all_eq_true.mp o4.1 p hp)), He.meth_ok (fs _ (List.mem_cons_of_mem _ (List.mem_cons_of_mem _ (List.mem_append_right _ (List.mem_append_left _ (List.mem_map_of_mem (f := fun p => He.Fa.meth o.x p.1) hp))))))⟩
  · have o5 := o4.2
    rw [hi] at o5
    refine ⟨_, meth i "__init__" (of_decide_eq_true o5), He.mkr_ok (fs _ (List.mem_cons_of_mem _ (List.mem_cons_of_mem _ (List.mem_append_right _ (List.mem_append_right _ ?_)))))⟩
    rw [hi]
    exact List.mem_cons_self
theorem bot_of (X : K.In h) (G : h.Ns mainGlobals mg) (c : He.SaysD (faOf dfs cls ocs) (dfs.map Df.he) K) (b : ∀ d ∈ dfs, BindsH d) (ob : ocsB dfs ocs = true) {C : Cfg} (hC : C.fns = dfs.map fun d => (d.x, d.ps.length)) (hO : C.ocs = ocs) {g : Nat → D} :
    AllOk P w K mg (fnmOf K dfs ocs) (clmOf K cls) C { sp := fun _ => bot, gl := g, sb := sb } 0 := by
  refine all_bot (fun i x e => ?_) fun j o e => oc_at X G c ob (by rw [← hO]; exact e)
  rw [hC, List.getElem?_map] at e
  obtain ⟨d, e1, e2⟩ := Option.map_eq_some_iff.mp e
  exact ⟨d, e2.symm, df_at X G c ob b e1⟩
end
/-! ### the end -/
def spLaw : SpD := fun ds G Q _ => ∃ ns : List Int, ds = [.scr (ns.map .int)] ∧ G = emp ∧ ∀ G', Q (.bl true) G'
theorem noX {P : Program} {w : World} {K : PySem.W.Frag} {mg : Str → Option Value} {base : Heap} {k : Nat} {f : Addr} {fd : FuncData} {ps : List Str} {sp : Sp} (F : FnOk P w K mg base (L2.CX P w) k f fd ps sp) :
    FnOk P w K mg base CX0 k f fd ps (fun vs H Q _ => sp vs H Q fun _ _ _ => False) :=
  ⟨fun vs H Q E h => F.len _ _ _ _ h, fun A outer s H args us vs Q E hr he hb hv hs => codeAny_mono (F.run A outer s H args us vs Q (fun _ _ _ => False) hr he hb hv hs) fun r s' c => by
    cases r with
    | ok x => cases x <;> first | exact c | exact c.elim
    | error e => obtain ⟨_, _, _, _, _, _, _, _, _, _, _, _, z⟩ := c; exact z⟩
theorem law_sp {K : PySem.W.Frag} {fnm clm : Nat → Option Addr} (H : Hp) (a : Addr) (ns : List Int) (hl : ns.length ≤ 63) (hO : Only H) (hS : SqL K H a (ns.map V.int)) : lift K fnm clm 1 spLaw [.ref a] H (fun v _ => v = .bl true) fun _ _ _ => False := by
  have hz : (ns.map V.int).length ≤ sizeLine := by rw [List.length_map, lim_eq]; unfold lim; omega
  have r : Dat K fnm noS H emp (.ref a) (.scr (ns.map .int)) := by
    rcases hS with (h | ⟨o, h⟩) | h
    · rcases hO a with q | ⟨o, xs, q⟩ <;> (rw [q] at h; cases h)
    · exact .scr (.inl ⟨o, h⟩) hz ints_dat
    · exact .scr (.inr h) hz ints_dat
  refine ⟨rfl, noS, emp, [.scr (ns.map .int)], fun d _ => d = .bl true, fun _ _ => False, ⟨fun b c e => (by cases e), fun b e => (by cases e), fun b e => (by cases e)⟩, .cons r .nil, ⟨ns, rfl, rfl, fun _ => rfl⟩, ?_, fun _ _ _ _ _ _ _ _ z => z.elim⟩
  rintro v S' H' d G' st R' rv rfl
  cases rv
  rfl
end DL

namespace DL
open PySem PySem.Spec PyProof.Rows L2
/-! ## 18. Helps for laws -/
theorem get_in {rows : List D} {r : Int} (h0 : 0 ≤ r) (h1 : r < rows.length) : ∃ d ∈ rows, atI rows r = some d := by
  have hl : r.toNat < rows.length := by omega
  exact ⟨rows[r.toNat], List.getElem_mem hl, by rw [at_pos h0, List.getElem?_eq_getElem hl]⟩
theorem get_inS {s : List Nat} {r : Int} (h0 : 0 ≤ r) (h1 : r < s.length) : ∃ c ∈ s, atI s r = some c := by
  have hl : r.toNat < s.length := by omega
  exact ⟨s[r.toNat], List.getElem_mem hl, by rw [at_pos h0, List.getElem?_eq_getElem hl]⟩
theorem rngF_mem : ∀ {n : Nat} {lo : Int} {x : D}, x ∈ rngF 1 n lo → ∃ k : Nat, x = .int (lo + k) ∧ k < n
  | 0, _, _, h => by cases h
  | n + 1, lo, x, h => by
    rcases List.mem_cons.mp h with rfl | h
    · exact ⟨0, by simp, by omega⟩
    · obtain ⟨k, rfl, hk⟩ := rngF_mem h
      exact ⟨k + 1, by congr 1; omega, by omega⟩
theorem rng_mem {n : Nat} {x : D} (h : x ∈ rngL (0, n, 1)) : ∃ k : Nat, x = .int k ∧ k < n := by
  obtain ⟨k, rfl, hk⟩ := rngF_mem h
  exact ⟨k, by congr 1; omega, hk⟩
theorem all_true : ∀ {ds : List D}, (∀ d ∈ ds, d = .bl true) → ∃ bs, blsOf ds = some bs ∧ bs.all id = true
  | [], _ => ⟨[], rfl, rfl⟩
  | d :: ds, h => by
    obtain ⟨bs, h1, h2⟩ := all_true (ds := ds) fun x hx => h x (List.mem_cons_of_mem _ hx)
    have := h d List.mem_cons_self
    subst this
    exact ⟨true :: bs, by show (blsOf ds).map (true :: ·) = _; rw [h1]; rfl, by simpa using h2⟩
theorem cut_pre {α : Type} {xs : List α} {i : Int} (h : 0 ≤ i ∧ i ≤ xs.length) : cutL xs none (some i) = xs.take i.toNat := by
  obtain ⟨k, rfl⟩ := Int.eq_ofNat_of_zero_le h.1
  unfold cutL
  rw [HT.sIx_none, HT.sIx_nat, List.drop_zero, Nat.sub_zero, Nat.min_eq_left (by omega)]
  rfl
theorem cut_suf {α : Type} {xs : List α} {i : Int} (h : 0 ≤ i ∧ i ≤ xs.length) : cutL xs (some i) none = xs.drop i.toNat := by
  obtain ⟨k, rfl⟩ := Int.eq_ofNat_of_zero_le h.1
  unfold cutL
  rw [HT.sIx_none, HT.sIx_nat, Nat.min_eq_left (by omega)]
  show (xs.drop k).take _ = xs.drop k
  rw [List.take_of_length_le (by rw [List.length_drop]; omega)]
/-! ### pick -/
def spPick : SpD := fun ds G Q _ => ∃ rows, ds = [.rnd, .lst rows] ∧ (0 < rows.length ∧ rows.length < 1000) ∧ ∀ d ∈ rows, Q d G
def b_pick (dr : Nat) : Ss := (.c (.ret (.idx (.var 1) (.call dr (.c (.var 0) (.c (.bf true .len (.c (.var 1) .n)) .n))))) .n)
theorem pick_ok {Γ : Gam} {dr : Nat} (h2 : Γ.sp dr = spDraw) (ds : List D) (G : HD) (QD : KD) (XD : KX) (h : spPick ds G QD XD) : wSs Γ (b_pick dr) { nx := fun _ H => QD .non H, rt := QD, ex := fun x _ H => XD x H } (startD 2 ds) G := by
  obtain ⟨rows, rfl, hl, h⟩ := h
  simp_arith [b_pick, h2]
  refine ⟨_, rfl, ⟨by omega, by omega⟩, fun r h0 h1 => ?_⟩
  obtain ⟨d, hd, e⟩ := get_in h0 h1
  simp_arith [e]
  exact h d hd
/-! ### same -/
def Pl : Nat → D → Prop
  | 0, _ => False
  | n + 1, d => match d with
    | .non | .bl _ | .int _ | .str _ => True
    | .tup ds => ds.length ≤ lim ∧ ∀ x ∈ ds, Pl n x
    | .lst ds => ds.length ≤ lim ∧ ∀ x ∈ ds, Pl n x
    | _ => False
theorem Pl.mono : ∀ {n m : Nat} {d : D}, n ≤ m → Pl n d → Pl m d
  | 0, _, _, _, h => h.elim
  | n + 1, 0, _, hm, _ => by omega
  | n + 1, m + 1, d, hm, h => by
    cases d <;> first | trivial | exact h.elim | exact ⟨h.1, fun x hx => Pl.mono (by omega) (h.2 x hx)⟩
def b_same (sm : Nat) : Ss :=
 (.c (.ite (.of (.isi (.var 1) [.list])) (.c (.ite (.bo false (.c (.nt (.of (.isi (.var 0) [.list]))) (.c (.cmp .ne (.bf true .len (.c (.var 0) .n)) (.bf true .len (.c (.var 1) .n))) .n))) (.c (.ret (.con (.bl false)))
 .n) .n)
 (.c (.ret (.bf true .all (.c (.lc true (.call sm (.c (.idx (.var 0) (.var 2)) (.c (.idx (.var 1) (.var 2)) .n))) (.n 2) (.rng (.c (.bf true .len (.c (.var 1) .n)) .n)) .yes [("k", 2)]) .n)))
 .n)) .n)
 (.c (.ite (.of (.isi (.var 1) [.tuple])) (.c (.ite (.bo false (.c (.nt (.of (.isi (.var 0) [.tuple]))) (.c (.cmp .ne (.bf true .len (.c (.var 0) .n)) (.bf true .len (.c (.var 1) .n))) .n))) (.c (.ret (.con (.bl false)))
 .n) .n)
 (.c (.ret (.bf true .all (.c (.lc true (.call sm (.c (.idx (.var 0) (.var 2)) (.c (.idx (.var 1) (.var 2)) .n))) (.n 2) (.rng (.c (.bf true .len (.c (.var 1) .n)) .n)) .yes [("k", 2)]) .n)))
 .n)) .n)
 (.c (.ite (.cmp .isn (.var 1) (.con .non)) (.c (.ret (.cmp .isn (.var 0) (.con .non)))
 .n) .n)
 (.c (.ite (.of (.isi (.var 1) [.bool])) (.c (.ret (.boo true (.c (.isi (.var 0) [.bool]) (.c (.cmp .eq (.var 0) (.var 1)) .n))))
 .n) .n)
 (.c (.ite (.of (.isi (.var 1) [.str])) (.c (.ret (.boo true (.c (.isi (.var 0) [.str]) (.c (.cmp .eq (.var 0) (.var 1)) .n))))
 .n) .n)
 (.c (.ret (.boo true (.c (.isi (.var 0) [.int]) (.c (.nt (.isi (.var 0) [.bool])) (.c (.cmp .eq (.var 0) (.var 1)) .n)))))
 .n))))))
/-! ### name -/
def abc : List Nat := [97, 98, 99, 100, 101, 102, 103, 104, 105, 106, 107, 108, 109, 110, 111, 112, 113, 114, 115, 116, 117, 118, 119, 120, 121, 122]
def Low (s : List Nat) : Prop := (s ≠ [] ∧ s.length ≤ 12) ∧ ∀ c ∈ s, c ∈ abc
def b_name2 (dr : Nat) : Ss :=
 (.c (.set 5 (.call dr (.c (.var 0) (.c (.bf true .len (.c (.var 4) .n)) .n))))
 (.c (.for_ (.n 6) (.rng (.c (.con (.int 26)) .n)) (.c (.ite (.cmp .nin (.var 4) (.var 1)) (.c (.ret (.var 4))
 .n) .n)
 (.c (.set 4 (.bin true .add (.bin true .add (.sl true (.var 4) .no (.var 5)) (.idx (.var 2) (.bin true .mod (.bin true .add (.mt .sindex (.var 2) (.c (.idx (.var 4) (.var 5)) .n)) (.con (.int 1))) (.con (.int 26))))) (.sl true (.var 4) (.bin true .add (.var 5) (.con (.int 1))) .no)))
 .n)))
 (.c (.ret (.var 4))
 .n)))
def b_name (dr : Nat) : Ss :=
 (.c (.set 2 (.con (.str abc)))
 (.c (.set 3 (.idx (.lst true (.c (.con (.int 1)) (.c (.con (.int 1)) (.c (.con (.int 2)) (.c (.con (.int 3)) (.c (.con (.int 5)) (.c (.con (.int 11)) (.c (.con (.int 12)) .n)))))))) (.call dr (.c (.var 0) (.c (.con (.int 7)) .n)))))
 (.c (.set 4 (.mt .join (.con (.str [])) (.c (.lc true (.idx (.var 2) (.call dr (.c (.var 0) (.c (.con (.int 26)) .n)))) (.n 6) (.rng (.c (.var 3) .n)) .yes [("k", 6)]) .n)))
 (.c (.ite (.bo true (.c (.of (.var 1)) (.c (.cmp .eq (.call dr (.c (.var 0) (.c (.con (.int 2)) .n))) (.con (.int 0))) .n))) (.c (.set 4 (.idx (.var 1) (.call dr (.c (.var 0) (.c (.bf true .len (.c (.var 1) .n)) .n)))))
 .n) .n)
 (b_name2 dr)))))
/-- u is a list, whether live or not -/
def SeqIs (u : D) (us : List D) (G : HD) : Prop := u = .lst us ∨ ∃ a, u = .ref a ∧ G a = some (.lst us)
theorem SeqIs.tr {u : D} {us : List D} {G : HD} (h : SeqIs u us G) : truth u G = some (us.length != 0) := by
  rcases h with rfl | ⟨a, rfl, h⟩
  · rfl
  · rw [q_tr_r, h]
theorem SeqIs.len {u : D} {us : List D} {G : HD} (h : SeqIs u us G) : lenD u G = some us.length := by
  rcases h with rfl | ⟨a, rfl, h⟩
  · rfl
  · rw [q_len_r, h]
theorem SeqIs.idx {u : D} {us : List D} {G : HD} (h : SeqIs u us G) (i : Int) : idxD u (.int i) G = atI us i := by
  rcases h with rfl | ⟨a, rfl, h⟩
  · rfl
  · rw [q_idx_r, h]
theorem SeqIs.itm {u : D} {us : List D} {G : HD} (h : SeqIs u us G) : itms u G = some us := by
  rcases h with rfl | ⟨a, rfl, h⟩
  · rfl
  · rw [q_itm_r, h]
def spName : SpD := fun ds G Q _ => ∃ n us, ds = [.rnd, n] ∧ SeqIs n us G ∧ us.length < 26 ∧ (∀ u ∈ us, ∃ s, u = .str s ∧ Low s) ∧ ∀ s, Low s → D.str s ∉ us → Q (.str s) G
theorem pigeon : ∀ {l us : List (List Nat)}, l.Nodup → (∀ x ∈ l, x ∈ us) → l.length ≤ us.length
  | [], _, _, _ => Nat.zero_le _
  | x :: l, us, nd, h => by
    obtain ⟨h1, h2⟩ := List.nodup_cons.mp nd
    have hx := h x List.mem_cons_self
    have := pigeon (l := l) (us := us.erase x) h2 fun y hy => by
      have hne : y ≠ x := fun e => h1 (by rw [← e]; exact hy)
      exact (List.mem_erase_of_ne hne).mpr (h y (List.mem_cons_of_mem _ hy))
    rw [List.length_erase_of_mem hx] at this
    have := List.length_pos_of_mem hx
    rw [List.length_cons]; omega
theorem in_strs {us : List D} {G : HD} {n : D} {s : List Nat} (ha : SeqIs n us G) (h : ∀ u ∈ us, ∃ s, u = .str s) : ∃ b, inD (.str s) n G = some b ∧ (b = true ↔ D.str s ∈ us) := by
  refine ⟨us.any fun z => eqF z (.str s), ?_, ?_⟩
  · have : us.all flatD = true := List.all_eq_true.mpr fun u hu => by obtain ⟨t, rfl⟩ := h u hu; rfl
    have e : inD (.str s) n G = (match itms n G with | some ds => if (flatD (.str s) && ds.all flatD) = true then some (ds.any fun z => eqF z (.str s)) else none | none => none) := by
      rcases ha with rfl | ⟨a, rfl, _⟩ <;> rfl
    rw [e, ha.itm]
    show (if (flatD (.str s) && us.all flatD) = true then _ else _) = _
    rw [this]
    rfl
  · rw [List.any_eq_true]
    constructor
    · rintro ⟨z, hz, e⟩
      obtain ⟨t, rfl⟩ := h z hz
      have : t = s := by simpa [eqF] using e
      rw [← this]; exact hz
    · exact fun hm => ⟨_, hm, by simp [eqF]⟩
def ltr (m : Nat) : Nat := abc.getD (m % 26) 0
theorem abc_at : ∀ c ∈ abc, ∃ k : Nat, k < 26 ∧ Txt.index0 (mkStr abc) (mkStr [c]) = some k ∧ c = ltr k := by
  have : ∀ c ∈ abc, (match Txt.index0 (mkStr abc) (mkStr [c]) with | some k => decide (k < 26) && decide (c = ltr k) | none => false) = true := by decide +kernel
  intro c hc
  have := this c hc
  split at this
  · rename_i k e
    simp only [Bool.and_eq_true, decide_eq_true_eq] at this
    exact ⟨k, this.1, e, this.2⟩
  · cases this
def cand (p q : List Nat) (j k : Nat) : List Nat := p ++ [ltr (j + k)] ++ q
theorem ltr_mem (m : Nat) : ltr m ∈ abc := by
  have : ∀ i, i < 26 → abc.getD i 0 ∈ abc := by decide
  exact this _ (Nat.mod_lt _ (by decide))
theorem ltr_inj {j a b : Nat} (ha : a < 26) (hb : b < 26) (h : ltr (j + a) = ltr (j + b)) : a = b := by
  have : ∀ x, x < 26 → ∀ y, y < 26 → abc.getD x 0 = abc.getD y 0 → x = y := by decide
  have := this _ (Nat.mod_lt (j + a) (by decide)) _ (Nat.mod_lt (j + b) (by decide)) h
  omega
theorem cand_inj {p q : List Nat} {j a b : Nat} (ha : a < 26) (hb : b < 26) (h : cand p q j a = cand p q j b) : a = b := by
  unfold cand at h
  have := List.append_cancel_right h
  have := List.append_cancel_left this
  exact ltr_inj ha hb (by simpa using this)
theorem strs_all : ∀ {us : List D}, (∀ u ∈ us, ∃ s, u = .str s) → ∃ ss : List (List Nat), us = ss.map D.str
  | [], _ => ⟨[], rfl⟩
  | u :: us, h => by
    obtain ⟨ss, e⟩ := strs_all (us := us) fun x hx => h x (List.mem_cons_of_mem _ hx)
    obtain ⟨s, rfl⟩ := h u List.mem_cons_self
    exact ⟨s :: ss, by rw [e]; rfl⟩
theorem cand_out {us : List D} {p q : List Nat} {j : Nat} (hu : ∀ u ∈ us, ∃ s, u = .str s) (hl : us.length < 26) : ¬ ∀ i, i < 26 → D.str (cand p q j i) ∈ us := by
  intro h
  obtain ⟨ss, rfl⟩ := strs_all hu
  have nd : ((List.range 26).map (cand p q j)).Nodup := by
    show List.Pairwise (· ≠ ·) _
    rw [List.pairwise_map]
    exact List.Pairwise.imp_of_mem (fun ha hb hne e => hne (cand_inj (List.mem_range.mp ha) (List.mem_range.mp hb) e)) (List.nodup_range (n := 26))
  have := pigeon (us := ss) nd fun x hx => by
    obtain ⟨i, hi, rfl⟩ := List.mem_map.mp hx
    obtain ⟨t, ht, e⟩ := List.mem_map.mp (h i (List.mem_range.mp hi))
    cases e
    exact ht
  rw [List.length_map] at hl this
  rw [List.length_range] at this
  omega
theorem name2_ok {Γ : Gam} {dr : Nat} (h2 : Γ.sp dr = spDraw) {E : EndsD} {n : D} {us : List D} {G : HD} {s : List Nat} {m o1 o2 : Option D} (ha : SeqIs n us G) (hu : ∀ u ∈ us, ∃ s, u = .str s) (hl : us.length < 26) (hs : Low s) (h : ∀ s, Low s → D.str s ∉ us → E.rt (.str s) G) :
    wSs Γ (b_name2 dr) E [some .rnd, some n, some (.str abc), m, some (.str s), o1, o2] G := by
  have hp : 0 < s.length := List.length_pos_iff.mpr hs.1.1
  have h12 := hs.1.2
  simp_arith [b_name2, h2]
  refine ⟨_, rfl, ⟨by omega, by omega⟩, fun r h0 h1 => ?_⟩
  obtain ⟨c0, hc0, e0⟩ := get_inS h0 h1
  obtain ⟨j, hj, _, ej⟩ := abc_at c0 (hs.2 c0 hc0)
  have hr : r.toNat < s.length := by omega
  have s0 : s = cand (s.take r.toNat) (s.drop (r.toNat + 1)) j 0 := by
    unfold cand
    rw [Nat.add_zero, ← ej]
    rw [at_pos h0] at e0
    have := (List.getElem?_eq_some_iff.mp e0)
    obtain ⟨hlt, hget⟩ := this
    rw [← hget, List.append_assoc, List.singleton_append, ← List.drop_eq_getElem_cons hlt, List.take_append_drop]
  have pl : (s.take r.toNat).length = r.toNat := by rw [List.length_take]; omega
  have lowc : ∀ k, Low (cand (s.take r.toNat) (s.drop (r.toNat + 1)) j k) ∧ (cand (s.take r.toNat) (s.drop (r.toNat + 1)) j k).length = s.length := fun k => by
    have hlen : (cand (s.take r.toNat) (s.drop (r.toNat + 1)) j k).length = s.length := by
      unfold cand; rw [List.length_append, List.length_append, pl, List.length_drop, List.length_singleton]; omega
    refine ⟨⟨⟨fun z => by rw [z] at hlen; simp at hlen; omega, by omega⟩, fun x hx => ?_⟩, hlen⟩
    unfold cand at hx
    rcases List.mem_append.mp hx with hx | hx
    · rcases List.mem_append.mp hx with hx | hx
      · exact hs.2 x (List.mem_of_mem_take hx)
      · rw [List.mem_singleton] at hx; rw [hx]; exact ltr_mem _
    · exact hs.2 x (List.mem_of_mem_drop hx)
  generalize hP : s.take r.toNat = p at s0 pl lowc
  generalize hQ' : s.drop (r.toNat + 1) = q at s0 lowc
  refine And.intro (by decide) ?_
  refine wFor_ind (fun xs σ H => H = G ∧ ∃ k o2, xs.length = 26 - k ∧ k ≤ 26 ∧ σ = [some .rnd, some n, some (.str abc), m, some (.str (cand p q j k)), some (.int r), o2] ∧ ∀ i, i < k → D.str (cand p q j i) ∈ us) ?_ ?_ _ _ _ ⟨rfl, 0, o2, rfl, by decide, by rw [← s0], fun i hi => absurd hi (Nat.not_lt_zero _)⟩
  · rintro σ H ⟨rfl, k, o2, k1, k2, rfl, k3⟩
    have : k = 26 := by simp at k1; omega
    subst this
    exact absurd k3 (cand_out hu hl)
  · rintro x xs ih σ H ⟨rfl, k, o2, k1, k2, rfl, k3⟩
    obtain ⟨b, hb, hb2⟩ := in_strs (s := cand p q j k) ha hu
    simp_arith [hb]
    cases b with
    | false => exact h _ (lowc k).1 fun z => by simpa using hb2.mpr z
    | true =>
      have eat : atI (cand p q j k) r = some (ltr (j + k)) := by
        rw [at_pos h0]
        unfold cand
        rw [List.append_assoc, List.getElem?_append_right (by omega), pl, Nat.sub_self]; rfl
      have hrl : r < (cand p q j k).length := by rw [(lowc k).2]; exact h1
      obtain ⟨i, hi, ei, el⟩ := abc_at _ (ltr_mem (j + k))
      have hij : i = (j + k) % 26 := by
        have : ∀ x, x < 26 → ∀ y, y < 26 → abc.getD x 0 = abc.getD y 0 → x = y := by decide
        refine (this _ (Nat.mod_lt (j + k) (by decide)) i hi ?_).symm
        have el : abc.getD ((j + k) % 26) 0 = abc.getD (i % 26) 0 := el
        rw [Nat.mod_eq_of_lt hi] at el
        exact el
      have e2 : atI abc ((((i : Nat) : Int) + 1) % 26) = some (ltr (j + (k + 1))) := by
        have e3 : (((i : Nat) : Int) + 1) % 26 = (((j + (k + 1)) % 26 : Nat) : Int) := by omega
        rw [e3, at_nat]
        have hlt : (j + (k + 1)) % 26 < abc.length := Nat.mod_lt _ (by decide)
        unfold ltr
        rw [List.getD_eq_getElem?_getD, List.getElem?_eq_getElem hlt]; rfl
      have cl := (lowc k).2
      have c1 : cutL (cand p q j k) none (some r) = p := by
        rw [cut_pre ⟨h0, by omega⟩, ← pl]; unfold cand; rw [List.append_assoc, List.take_left]
      have c2 : cutL (cand p q j k) (some (r + 1)) none = q := by
        rw [cut_suf ⟨by omega, by omega⟩, show (r + 1).toNat = (p ++ [ltr (j + k)]).length by rw [List.length_append, pl, List.length_singleton]; omega]
        unfold cand; rw [List.drop_left]
      simp_arith [eat, ei, e2, c1, c2]
      have hlim : lim = 16777216 := rfl
      have ln := (lowc (k + 1)).2
      have ln2 := ln
      unfold cand at ln2
      rw [List.length_append, List.length_append, List.length_singleton] at ln2
      refine ⟨by omega, by rw [List.length_append, List.length_singleton]; omega, ih _ _ ⟨rfl, k + 1, _, by simp at k1; omega, by simp at k1; omega, rfl, fun x hx => ?_⟩⟩
      by_cases hxk : x < k
      · exact k3 x hxk
      · have : x = k := by omega
        subst this
        exact hb2.mp rfl
theorem strs_one : ∀ {ds : List D}, (∀ d ∈ ds, ∃ c, d = .str [c] ∧ c ∈ abc) → ∃ cs : List Nat, strsOf ds = some (cs.map fun c => [c]) ∧ cs.length = ds.length ∧ ∀ c ∈ cs, c ∈ abc
  | [], _ => ⟨[], rfl, rfl, fun _ h => (nomatch h)⟩
  | d :: ds, h => by
    obtain ⟨cs, h1, h2, h3⟩ := strs_one (ds := ds) fun x hx => h x (List.mem_cons_of_mem _ hx)
    obtain ⟨c, rfl, hc⟩ := h d List.mem_cons_self
    refine ⟨c :: cs, by show (strsOf ds).map ([c] :: ·) = _; rw [h1]; rfl, by simp [h2], fun x hx => ?_⟩
    rcases List.mem_cons.mp hx with rfl | hx
    · exact hc
    · exact h3 x hx
theorem join_one : ∀ cs : List Nat, joinL [] (cs.map fun c => [c]) = cs
  | [] => rfl
  | [c] => rfl
  | c :: d :: cs => by
    show [c] ++ [] ++ joinL [] ((d :: cs).map fun c => [c]) = _
    rw [join_one (d :: cs)]
    rfl
theorem sum_one : ∀ cs : List Nat, ((cs.map fun c => [c]).map List.length).sum = cs.length
  | [] => rfl
  | c :: cs => by
    show 1 + ((cs.map fun c => [c]).map List.length).sum = cs.length + 1
    rw [sum_one cs]; omega
theorem name_ok {Γ : Gam} {dr : Nat} (h2 : Γ.sp dr = spDraw) (ds : List D) (G : HD) (QD : KD) (XD : KX) (h : spName ds G QD XD) : wSs Γ (b_name dr) { nx := fun _ H => QD .non H, rt := QD, ex := fun x _ H => XD x H } (startD 7 ds) G := by
  obtain ⟨n, us, rfl, ha, hl, hu, h⟩ := h
  have hu2 : ∀ u ∈ us, ∃ s, u = .str s := fun u hx => let ⟨s, e, _⟩ := hu u hx; ⟨s, e⟩
  simp_arith [b_name, h2]
  refine ⟨_, rfl, by decide, fun r h0 h1 => ?_⟩
  obtain ⟨d, hd, e⟩ := get_in (rows := [.int 1, .int 1, .int 2, .int 3, .int 5, .int 11, .int 12]) h0 h1
  have hm : ∃ m : Int, d = .int m ∧ 1 ≤ m ∧ m ≤ 12 := by
    simp only [List.mem_cons, List.not_mem_nil, or_false] at hd
    rcases hd with rfl | rfl | rfl | rfl | rfl | rfl | rfl <;> exact ⟨_, rfl, by decide, by decide⟩
  obtain ⟨m, rfl, m1, m2⟩ := hm
  simp_arith [e]
  rw [q_rng1 ⟨by omega, by omega⟩, ok_some]
  have hlim : lim = 16777216 := rfl
  refine And.intro (by show m.toNat ≤ lim; omega) ?_
  refine lcD_ind (fun xs acc H => H = G ∧ (∀ d ∈ acc, ∃ c, d = .str [c] ∧ c ∈ abc) ∧ acc.length + xs.length = m.toNat) ?_ ?_ _ _ _ ⟨rfl, fun _ h => (nomatch h), by show 0 + (rngF 1 m.toNat 0).length = _; rw [rngF_len, Nat.zero_add]⟩
  · rintro acc H ⟨rfl, k1, k2⟩
    obtain ⟨cs, j1, j2, j3⟩ := strs_one k1
    have hz : cs.length = m.toNat := by simpa [j2] using k2
    have hs : Low cs := ⟨⟨fun z => by rw [z] at hz; simp at hz; omega, by omega⟩, j3⟩
    simp_arith [j1, join_one, sum_one]
    refine And.intro (by show cs.length + _ * 0 ≤ lim; omega) ?_
    have go : ∀ (s : List Nat), Low s → wSs Γ (b_name2 dr) { nx := fun _ H => QD .non H, rt := QD, ex := fun x _ H => XD x H } [some .rnd, some n, some (.str abc), some (.int m), some (.str s), none, none] H := fun s hs => name2_ok h2 ha hu2 hl hs h
    rw [ha.tr]
    show (if (us.length != 0) = true then _ else _ : Prop)
    by_cases hn : (us.length != 0) = true
    · rw [if_pos hn]
      refine ⟨_, rfl, by decide, fun r2 k0 k1 => ?_⟩
      simp_arith [ha.len]
      cases (r2 == 0) with
      | false => exact go cs hs
      | true =>
        have hp : 0 < us.length := by simp at hn; exact List.length_pos_iff.mpr hn
        refine ⟨_, rfl, ⟨by omega, by omega⟩, fun r3 k0 k1 => ?_⟩
        obtain ⟨d, hd, e⟩ := get_in k0 k1
        obtain ⟨s, rfl, hs⟩ := hu d hd
        simp_arith [ha.idx, e]
        exact go s hs
    · rw [if_neg hn]
      exact go cs hs
  · rintro x xs acc ih H ⟨rfl, k1, k2⟩
    simp_arith []
    refine ⟨_, rfl, by decide, fun r h0 h1 => ?_⟩
    obtain ⟨c, hc, e⟩ := get_inS (s := abc) h0 h1
    simp_arith [e]
    refine ih _ _ ⟨rfl, fun d hd => ?_, by simp at k2 ⊢; omega⟩
    rcases List.mem_append.mp hd with hd | hd
    · exact k1 d hd
    · rw [List.mem_singleton] at hd; exact ⟨c, hd, hc⟩
end DL

namespace DL
open PySem PySem.Spec PyProof.Rows L2
/-! ## 19. Kinds of a schema -/
theorem two_a {G : HD} {a b : Addr} {x y : HC} (h : a ≠ b) : (updD (updD G a x) b y) a = some x := (updD_ne h).trans updD_same
theorem two_da {G : HD} {a b : Addr} {x y : HC} (h : a ≠ b) (g : G a = none) : delD (updD (updD G a x) b y) a = updD G b y := by
  rw [updD_comm h, delD_updD ((updD_ne h).trans g)]
theorem two_ua {G : HD} {a b : Addr} {x y x' : HC} (h : a ≠ b) : updD (updD (updD G a x) b y) a x' = updD (updD G a x') b y := by
  rw [updD_comm h.symm, updD_updD]
mutual
inductive Kd where
  | leaf (k : List Nat) | one (o : Bool) (a : Kd) | recd (fs : Fs)
inductive Fs where
  | nil | cons (n : List Nat) (k : Kd) (fs : Fs)
end
def sRec : List Nat := [114, 101, 99]
def sOpt : List Nat := [111, 112, 116]
def sList : List Nat := [108, 105, 115, 116]
def sInt : List Nat := [105, 110, 116]
def sText : List Nat := [116, 101, 120, 116]
def sBool : List Nat := [98, 111, 111, 108]
def sOne (o : Bool) : List Nat := if o then sOpt else sList
mutual
def enc : Kd → D
  | .leaf k => .tup [.str k]
  | .one o a => .tup [.str (sOne o), enc a]
  | .recd fs => .tup [.str sRec, .tup (encs fs)]
def encs : Fs → List D
  | .nil => []
  | .cons n k fs => .tup [.str n, enc k] :: encs fs
end
structure Lf where
  p : List (List Nat)
  s : List (List Nat)
  k : List Nat
def Lf.d (l : Lf) : D := .tup [.tup (l.p.map .str), .tup (l.s.map .str), .str l.k]
mutual
def lv : Kd → List Lf
  | .leaf k => [⟨[], [], k⟩]
  | .one o a => (lv a).map fun l => ⟨l.p, sOne o :: l.s, l.k⟩
  | .recd fs => lvs fs
def lvs : Fs → List Lf
  | .nil => []
  | .cons n k fs => ((lv k).map fun l => ⟨n :: l.p, l.s, l.k⟩) ++ lvs fs
end
mutual
def dp : Kd → Nat
  | .leaf _ => 1
  | .one _ a => dp a + 1
  | .recd fs => dps fs + 1
def dps : Fs → Nat
  | .nil => 0
  | .cons _ k fs => max (dp k) (dps fs)
end
def toL : Fs → List (List Nat × Kd)
  | .nil => []
  | .cons n k fs => (n, k) :: toL fs
def isOpt : Kd → Bool
  | .one true _ => true
  | _ => false
mutual
def Wf : Kd → Prop
  | .leaf k => k ∈ [sInt, sText, sBool]
  | .one o a => (o = true → isOpt a = false) ∧ Wf a
  | .recd fs => (fs ≠ .nil ∧ ((toL fs).map Prod.fst).Nodup ∧ (toL fs).length ≤ 8) ∧ Wfs fs
def Wfs : Fs → Prop
  | .nil => True
  | .cons n k fs => Low n ∧ Wf k ∧ Wfs fs
end
def fsOf : List (List Nat × Kd) → Fs
  | [] => .nil
  | p :: r => .cons p.1 p.2 (fsOf r)
theorem encs_of : ∀ l : List (List Nat × Kd), encs (fsOf l) = l.map fun p => .tup [.str p.1, enc p.2]
  | [] => by simp [fsOf, encs]
  | p :: r => by simp [fsOf, encs, encs_of r]
theorem toL_of : ∀ l : List (List Nat × Kd), toL (fsOf l) = l
  | [] => rfl
  | p :: r => by simp [fsOf, toL, toL_of r]
theorem wfs_of : ∀ {l : List (List Nat × Kd)}, (∀ p ∈ l, Low p.1 ∧ Wf p.2) → Wfs (fsOf l)
  | [], _ => by simp [fsOf, Wfs]
  | p :: r, h => by
    have h1 := h p List.mem_cons_self
    simp only [fsOf, Wfs]
    exact ⟨h1.1, h1.2, wfs_of fun q hq => h q (List.mem_cons_of_mem _ hq)⟩
theorem dps_of_le : ∀ {l : List (List Nat × Kd)} {n : Nat}, (∀ p ∈ l, dp p.2 ≤ n) → dps (fsOf l) ≤ n
  | [], n, _ => by simp [fsOf, dps]
  | p :: r, n, h => by
    have h1 := h p List.mem_cons_self
    have h2 := dps_of_le (l := r) fun q hq => h q (List.mem_cons_of_mem _ hq)
    simp only [fsOf, dps]
    omega
theorem lvs_len : ∀ {l : List (List Nat × Kd)} {m : Nat}, (∀ p ∈ l, (lv p.2).length ≤ m) → (lvs (fsOf l)).length ≤ l.length * m
  | [], m, _ => by simp [fsOf, lvs]
  | p :: r, m, h => by
    have h1 := h p List.mem_cons_self
    have h2 := lvs_len (l := r) (m := m) fun q hq => h q (List.mem_cons_of_mem _ hq)
    simp only [fsOf, lvs, List.length_append, List.length_map, List.length_cons, Nat.add_mul]
    omega
def spKind (n : Nat) : SpD := fun ds G Q _ => ∃ dep most : Int, ds = [.rnd, .int dep, .int most] ∧ (dep < n ∧ 0 < n) ∧ (1 ≤ most ∧ most ≤ 1000) ∧ ∀ k, Wf k → (dp k ≤ n ∧ ((dp k : Int) ≤ dep ∨ dp k ≤ 1)) → ((lv k).length : Int) ≤ most → Q (enc k) G
def spRecord (n : Nat) : SpD := fun ds G Q _ => ∃ dep most : Int, ds = [.rnd, .int dep, .int most] ∧ (dep ≤ n ∧ 0 < n) ∧ (1 ≤ most ∧ most ≤ 1000) ∧ ∀ fs, Wf (.recd fs) → (dp (.recd fs) ≤ n + 1 ∧ ((dp (.recd fs) : Int) ≤ dep ∨ dp (.recd fs) ≤ 2)) → ((lv (.recd fs)).length : Int) ≤ most → Q (enc (.recd fs)) G
def b_record (dr nm kd : Nat) : Ss :=
 (.c (.set 3 (.bin true .add (.con (.int 1)) (.call dr (.c (.var 0) (.c (.bf true .min (.c (.var 2) (.c (.idx (.lst true (.c (.con (.int 1)) (.c (.con (.int 2)) (.c (.con (.int 4)) (.c (.con (.int 8)) .n))))) (.call dr (.c (.var 0) (.c (.con (.int 4)) .n)))) .n))) .n)))))
 (.c (.set 4 (.lst false .n))
 (.c (.set 5 (.lst false .n))
 (.c (.for_ (.n 6) (.rng (.c (.var 3) .n)) (.c (.set 7 (.call nm (.c (.var 0) (.c (.var 4) .n))))
 (.c (.ex (.mt .append (.var 4) (.c (.var 7) .n)))
 (.c (.ex (.mt .append (.var 5) (.c (.tup (.c (.var 7) (.c (.call kd (.c (.var 0) (.c (.bin true .sub (.var 1) (.con (.int 1))) (.c (.bin true .fdiv (.var 2) (.var 3)) .n)))) .n))) .n)))
 .n))))
 (.c (.fz 4) (.c (.fz 5) (.c (.ret (.tup (.c (.con (.str sRec)) (.c (.bf true .tuple (.c (.var 5) .n)) .n))))
 .n)))))))
theorem record_ok {Γ : Gam} {dr nm kd n : Nat} (h2 : Γ.sp dr = spDraw) (h5 : Γ.sp nm = spName) (h6 : Γ.sp kd = spKind n) (ds : List D) (G : HD) (QD : KD) (XD : KX) (h : spRecord n ds G QD XD) :
    wSs Γ (b_record dr nm kd) { nx := fun _ H => QD .non H, rt := QD, ex := fun x _ H => XD x H } (startD 8 ds) G := by
  obtain ⟨dep, most, rfl, hd, hm, hQ⟩ := h
  simp_arith [b_record, h2, h5, h6]
  refine ⟨_, rfl, by decide, fun r h0 h1 => ?_⟩
  obtain ⟨d, hd4, e⟩ := get_in (rows := [.int 1, .int 2, .int 4, .int 8]) h0 h1
  have hc : ∃ m : Int, d = .int m ∧ 1 ≤ m ∧ m ≤ 8 := by
    simp only [List.mem_cons, List.not_mem_nil, or_false] at hd4
    rcases hd4 with rfl | rfl | rfl | rfl <;> exact ⟨_, rfl, by decide, by decide⟩
  obtain ⟨c, rfl, c1, c2⟩ := hc
  simp_arith [e]
  refine ⟨_, rfl, ⟨by split <;> omega, by split <;> omega⟩, fun r k0 k1 => ?_⟩
  have hmany : 1 ≤ 1 + r ∧ 1 + r ≤ most ∧ 1 + r ≤ 8 := by split at k1 <;> omega
  simp_arith []
  generalize 1 + r = many at hmany ⊢
  clear k0 k1 h0 h1 e hd4
  intro a ha b hb
  have hab : a ≠ b := fun z => by rw [z, updD_same] at hb; cases hb
  have gb : G b = none := by rw [updD_ne hab.symm] at hb; exact hb
  rw [q_rng1 ⟨by omega, by omega⟩, ok_some]
  have hlim : lim = 16777216 := rfl
  refine And.intro (by show many.toNat ≤ lim; omega) ?_
  have hq1 : 1 ≤ most / many := by rw [Int.le_ediv_iff_mul_le (by omega)]; omega
  have hq2 : most / many ≤ most := Int.ediv_le_self _ (by omega)
  have e1 : ∀ x y : HC, (updD (updD G a x) b y) a = some x := fun x y => two_a hab
  have e2 : ∀ x y : HC, (updD (updD G a x) b y) b = some y := fun x y => updD_same
  have e3 : ∀ x y x' : HC, updD (updD (updD G a x) b y) a x' = updD (updD G a x') b y := fun x y x' => two_ua hab
  have e4 : ∀ x y y' : HC, updD (updD (updD G a x) b y) b y' = updD (updD G a x) b y' := fun x y y' => updD_updD
  refine wFor_ind (fun xs σ H => ∃ (l : List (List Nat × Kd)) (o6 o7 : Option D), H = updD (updD G a (.lst (l.map fun p => .str p.1))) b (.lst (l.map fun p => .tup [.str p.1, enc p.2])) ∧
    σ = [some .rnd, some (.int dep), some (.int most), some (.int many), some (.ref a), some (.ref b), o6, o7] ∧ l.length + xs.length = many.toNat ∧ (l.map Prod.fst).Nodup ∧ ∀ p ∈ l, (Low p.1 ∧ Wf p.2) ∧ (dp p.2 ≤ n ∧ ((dp p.2 : Int) ≤ dep - 1 ∨ dp p.2 ≤ 1)) ∧ ((lv p.2).length : Int) ≤ most / many) ?_ ?_ _ _ _
    ⟨[], none, none, rfl, rfl, by show 0 + (rngF 1 many.toNat 0).length = _; rw [rngF_len, Nat.zero_add], .nil, fun _ h => (nomatch h)⟩
  · rintro σ H ⟨l, o6, o7, rfl, rfl, k2, k3, k4⟩
    have e5 : ∀ x y : HC, delD (updD (updD G a x) b y) a = updD G b y := fun x y => two_da hab ha
    have e6 : ∀ x : HC, delD (updD G b x) b = G := fun x => delD_updD gb
    simp_arith [e1, e2, e5, e6, updD_same]
    have hl : l.length = many.toNat := by simpa using k2
    have hm2 : ((lvs (fsOf l)).length : Int) ≤ most := by
      have := lvs_len (l := l) (m := (most / many).toNat) fun p hp => by have := (k4 p hp).2.2; omega
      have h3 : many * (most / many) ≤ most := Int.mul_ediv_self_le (by omega)
      have h4 : ((l.length * (most / many).toNat : Nat) : Int) = many * (most / many) := by rw [hl, Int.natCast_mul, Int.toNat_of_nonneg (by omega), Int.toNat_of_nonneg (by omega)]
      omega
    have := hQ (fsOf l) ⟨⟨by cases l <;> first | (simp at hl; omega) | (simp [fsOf]), by rw [toL_of]; exact k3, by rw [toL_of]; omega⟩, wfs_of fun p hp => (k4 p hp).1⟩ (by
        simp only [dp]
        have h5 := dps_of_le (l := l) (n := n) fun p hp => (k4 p hp).2.1.1
        have h6 := dps_of_le (l := l) (n := max (dep - 1).toNat 1) fun p hp => by have := (k4 p hp).2.1.2; omega
        omega) (by simp only [lv]; exact hm2)
    rw [← encs_of]
    simpa only [enc] using this
  · rintro x xs ih σ H ⟨l, o6, o7, rfl, rfl, k2, k3, k4⟩
    simp_arith []
    have hl8 : l.length + 1 ≤ many.toNat := by simp at k2; omega
    refine ⟨.ref a, _, rfl, .inr ⟨a, rfl, e1 _ _⟩, by rw [List.length_map]; omega, fun u hu => ?_, fun s hs hn => ?_⟩
    · obtain ⟨p, hp, rfl⟩ := List.mem_map.mp hu
      exact ⟨_, rfl, (k4 p hp).1.1⟩
    simp_arith [e1, e2, e3, e4]
    refine ⟨by rw [List.length_map]; omega, ⟨by omega, Int.lt_of_le_of_lt hmany.2.2 (by decide)⟩, _, _, rfl, ⟨by omega, hd.2⟩, ⟨hq1, by omega⟩, fun k w1 w2 w3 => ?_⟩
    simp_arith [e2, e4]
    refine ⟨by rw [List.length_map]; omega, ih _ _ ⟨l ++ [(s, k)], _, _, by rw [List.map_append, List.map_append]; rfl, rfl, by simp at k2 ⊢; omega, ?_, fun p hp => ?_⟩⟩
    · rw [List.map_append, List.nodup_append]
      refine ⟨k3, by simp, fun x hx y hy => ?_⟩
      simp at hy; subst hy
      rintro rfl
      obtain ⟨p, hp, e⟩ := List.mem_map.mp hx
      exact hn (List.mem_map.mpr ⟨p, hp, by rw [e]⟩)
    · rcases List.mem_append.mp hp with hp | hp
      · exact k4 p hp
      · rw [List.mem_singleton] at hp; subst hp; exact ⟨⟨hs, w1⟩, w2, w3⟩
/-! ### kind -/
def b_kind (dr pk kd rc : Nat) : Ss :=
 (.c (.set 3 (.call dr (.c (.var 0) (.c (.con (.int 7)) .n))))
 (.c (.ite (.bo false (.c (.cmp .lt (.var 1) (.con (.int 2))) (.c (.cmp .lt (.var 3) (.con (.int 2))) .n))) (.c (.ret (.tup (.c (.call pk (.c (.var 0) (.c (.lst true (.c (.con (.str sInt)) (.c (.con (.str sText)) (.c (.con (.str sBool)) .n)))) .n))) .n)))
 .n) .n)
 (.c (.ite (.cmp .lt (.var 3) (.con (.int 4))) (.c (.set 4 (.call kd (.c (.var 0) (.c (.bin true .sub (.var 1) (.con (.int 1))) (.c (.var 2) .n)))))
 (.c (.ite (.cmp .eq (.idx (.var 4) (.con (.int 0))) (.con (.str sOpt))) (.c (.ret (.var 4))
 .n) .n)
 (.c (.ret (.tup (.c (.con (.str sOpt)) (.c (.var 4) .n))))
 .n))) .n)
 (.c (.ite (.cmp .lt (.var 3) (.con (.int 6))) (.c (.ret (.tup (.c (.con (.str sList)) (.c (.call kd (.c (.var 0) (.c (.bin true .sub (.var 1) (.con (.int 1))) (.c (.var 2) .n)))) .n))))
 .n) .n)
 (.c (.ret (.call rc (.c (.var 0) (.c (.var 1) (.c (.var 2) .n)))))
 .n)))))
def hd (k : Kd) : List Nat := match k with
  | .leaf k => k
  | .one o _ => sOne o
  | .recd _ => sRec
theorem enc_hd (k : Kd) : ∃ r, enc k = .tup (.str (hd k) :: r) := by
  cases k <;> simp only [enc, hd] <;> exact ⟨_, rfl⟩
theorem hd_opt {k : Kd} (w : Wf k) : (hd k == sOpt) = isOpt k := by
  cases k with
  | leaf k =>
    simp only [Wf, List.mem_cons, List.not_mem_nil, or_false] at w
    rcases w with rfl | rfl | rfl <;> rfl
  | one o a => cases o <;> rfl
  | recd fs => rfl
theorem kind_ok {Γ : Gam} {dr pk kd rc n : Nat} (h2 : Γ.sp dr = spDraw) (h3 : Γ.sp pk = spPick) (h6 : Γ.sp kd = spKind n) (h7 : Γ.sp rc = spRecord n) (ds : List D) (G : HD) (QD : KD) (XD : KX) (h : spKind (n + 1) ds G QD XD) :
    wSs Γ (b_kind dr pk kd rc) { nx := fun _ H => QD .non H, rt := QD, ex := fun x _ H => XD x H } (startD 5 ds) G := by
  obtain ⟨dep, most, rfl, hd', hm, hQ⟩ := h
  simp_arith [b_kind, h2, h3, h6, h7]
  refine ⟨_, rfl, by decide, fun r h0 h1 => ?_⟩
  have leaf : spPick [.rnd, .lst [.str sInt, .str sText, .str sBool]] G (fun d H1 => QD (.tup [d]) H1) fun x H1 => XD x H1 := by
    refine ⟨_, rfl, by decide, fun d hd => ?_⟩
    simp only [List.mem_cons, List.not_mem_nil, or_false] at hd
    rcases hd with rfl | rfl | rfl
    · simpa only [enc] using hQ (.leaf sInt) (by simp [Wf]) ⟨by simp [dp], .inr (by simp [dp])⟩ (by simp [lv]; omega)
    · simpa only [enc] using hQ (.leaf sText) (by simp [Wf]) ⟨by simp [dp], .inr (by simp [dp])⟩ (by simp [lv]; omega)
    · simpa only [enc] using hQ (.leaf sBool) (by simp [Wf]) ⟨by simp [dp], .inr (by simp [dp])⟩ (by simp [lv]; omega)
  simp_arith []
  by_cases c0 : dep < 2
  · rw [decide_eq_true c0]
    exact leaf
  rw [decide_eq_false c0, if_pos rfl]
  have inner : ∀ k, Wf k → (dp k ≤ n ∧ ((dp k : Int) ≤ dep - 1 ∨ dp k ≤ 1)) → ((lv k).length : Int) ≤ most → ∀ o, (o = true → isOpt k = false) → QD (.tup [.str (sOne o), enc k]) G := fun k w1 w2 w3 o ho => by
    have := hQ (.one o k) (by simp only [Wf]; exact ⟨ho, w1⟩) (by simp only [dp]; omega) (by simp only [lv, List.length_map]; exact w3)
    simpa only [enc] using this
  cases decide (r < 2) with
  | true => exact leaf
  | false =>
    cases decide (r < 4) with
    | true =>
      refine ⟨_, _, rfl, ⟨by omega, by omega⟩, hm, fun k w1 w2 w3 => ?_⟩
      obtain ⟨rest, e⟩ := enc_hd k
      rw [e]
      simp_arith []
      rw [hd_opt w1]
      cases ho : isOpt k with
      | true => rw [← e]; exact hQ k w1 ⟨by omega, by omega⟩ w3
      | false => rw [← e]; exact inner k w1 w2 w3 true fun _ => ho
    | false =>
      cases decide (r < 6) with
      | true => exact ⟨_, _, rfl, ⟨by omega, by omega⟩, hm, fun k w1 w2 w3 => inner k w1 w2 w3 false fun z => (nomatch z)⟩
      | false => exact ⟨_, _, rfl, ⟨by omega, by omega⟩, hm, fun fs w1 w2 w3 => hQ _ w1 ⟨w2.1, by omega⟩ w3⟩
/-! ### schema -/
def spSchema : SpD := fun ds G Q _ => ds = [.rnd] ∧ ∀ fs, Wf (.recd fs) → dp (.recd fs) ≤ 8 → (lv (.recd fs)).length ≤ 24 → Q (enc (.recd fs)) G
def b_schema (dr rc : Nat) : Ss :=
 (.c (.ret (.call rc (.c (.var 0) (.c (.idx (.lst true (.c (.con (.int 3)) (.c (.con (.int 4)) (.c (.con (.int 5)) (.c (.con (.int 8)) .n))))) (.call dr (.c (.var 0) (.c (.con (.int 4)) .n)))) (.c (.idx (.lst true (.c (.con (.int 2)) (.c (.con (.int 3)) (.c (.con (.int 6)) (.c (.con (.int 24)) .n))))) (.call dr (.c (.var 0) (.c (.con (.int 4)) .n)))) .n)))))
 .n)
theorem schema_ok {Γ : Gam} {dr rc : Nat} (h2 : Γ.sp dr = spDraw) (h7 : Γ.sp rc = spRecord 8) (ds : List D) (G : HD) (QD : KD) (XD : KX) (h : spSchema ds G QD XD) :
    wSs Γ (b_schema dr rc) { nx := fun _ H => QD .non H, rt := QD, ex := fun x _ H => XD x H } (startD 1 ds) G := by
  obtain ⟨rfl, hQ⟩ := h
  simp_arith [b_schema, h2, h7]
  refine ⟨_, rfl, by decide, fun r h0 h1 => ?_⟩
  obtain ⟨d, hd4, e⟩ := get_in (rows := [.int 3, .int 4, .int 5, .int 8]) h0 h1
  have hc : ∃ m : Int, d = .int m ∧ m ≤ 8 := by
    simp only [List.mem_cons, List.not_mem_nil, or_false] at hd4
    rcases hd4 with rfl | rfl | rfl | rfl <;> exact ⟨_, rfl, by decide⟩
  obtain ⟨c, rfl, c1⟩ := hc
  simp_arith [e]
  refine ⟨_, rfl, by decide, fun r h0 h1 => ?_⟩
  obtain ⟨d, hd4, e⟩ := get_in (rows := [.int 2, .int 3, .int 6, .int 24]) h0 h1
  have hc : ∃ m : Int, d = .int m ∧ 1 ≤ m ∧ m ≤ 24 := by
    simp only [List.mem_cons, List.not_mem_nil, or_false] at hd4
    rcases hd4 with rfl | rfl | rfl | rfl <;> exact ⟨_, rfl, by decide, by decide⟩
  obtain ⟨c', rfl, c2, c3⟩ := hc
  simp_arith [e]
  exact ⟨_, _, rfl, ⟨c1, by decide⟩, ⟨c2, by omega⟩, fun fs w1 w2 w3 => hQ fs w1 (by omega) (by omega)⟩
end DL

namespace DL
open PySem PySem.Spec PyProof.Rows L2
/-! ## 20. The leaves of a kind -/
def enc1 (p : List Nat × Kd) : D := .tup [.str p.1, enc p.2]
def addP (n : List Nat) (l : Lf) : Lf := ⟨n :: l.p, l.s, l.k⟩
def addS' (n : List Nat) (l : Lf) : Lf := ⟨l.p, n :: l.s, l.k⟩
def lv1 (p : List Nat × Kd) : List Lf := (lv p.2).map (addP p.1)
theorem encs_eq : ∀ fs, encs fs = (toL fs).map enc1
  | .nil => by simp [encs, toL]
  | .cons n k fs => by simp [encs, toL, encs_eq fs, enc1]
theorem lvs_eq : ∀ fs, lvs fs = (toL fs).flatMap lv1
  | .nil => by simp [lvs, toL]
  | .cons n k fs => by simp [lvs, toL, lvs_eq fs, lv1, addP]
theorem wfs_eq : ∀ {fs}, Wfs fs → ∀ p ∈ toL fs, Low p.1 ∧ Wf p.2
  | .nil, _, _, h => nomatch h
  | .cons n k fs, w, p, h => by
    simp only [Wfs] at w
    rcases List.mem_cons.mp h with rfl | h
    · exact ⟨w.1, w.2.1⟩
    · exact wfs_eq w.2.2 p h
theorem dps_eq : ∀ {fs}, ∀ p ∈ toL fs, dp p.2 ≤ dps fs
  | .nil, _, h => nomatch h
  | .cons n k fs, p, h => by
    simp only [dps]
    rcases List.mem_cons.mp h with rfl | h
    · show dp k ≤ _; omega
    · have := dps_eq p h; omega
mutual
theorem lv_pos : ∀ k, Wf k → 1 ≤ (lv k).length
  | .leaf _, _ => by simp [lv]
  | .one _ a, w => by simp only [Wf] at w; simpa [lv] using lv_pos a w.2
  | .recd fs, w => by simp only [Wf] at w; simp only [lv]; exact lvs_pos fs w.1.1 w.2
theorem lvs_pos : ∀ fs, fs ≠ .nil → Wfs fs → 1 ≤ (lvs fs).length
  | .nil, h, _ => absurd rfl h
  | .cons n k fs, _, w => by
    simp only [Wfs] at w
    have := lv_pos k w.2.1
    simp only [lvs, List.length_append, List.length_map]; omega
end
mutual
theorem lv_dp : ∀ k, ∀ l ∈ lv k, l.p.length + l.s.length < dp k
  | .leaf k, l, h => by simp only [lv, List.mem_singleton] at h; subst h; simp [dp]
  | .one o a, l, h => by
    simp only [lv, List.mem_map] at h
    obtain ⟨x, hx, rfl⟩ := h
    have := lv_dp a x hx
    simp only [dp, List.length_cons]; omega
  | .recd fs, l, h => by
    simp only [lv] at h
    have := lvs_dp fs l h
    simp only [dp]; omega
theorem lvs_dp : ∀ fs, ∀ l ∈ lvs fs, l.p.length + l.s.length ≤ dps fs
  | .nil, l, h => by simp [lvs] at h
  | .cons n k fs, l, h => by
    simp only [lvs, List.mem_append, List.mem_map] at h
    simp only [dps]
    rcases h with ⟨x, hx, rfl⟩ | h
    · have := lv_dp k x hx
      simp only [List.length_cons]; omega
    · have := lvs_dp fs l h; omega
end
theorem leaf_in {k : List Nat} (w : Wf (.leaf k)) (G : HD) : inD (.str k) (.tup [.str sInt, .str sText, .str sBool]) G = some true := by
  simp only [Wf, List.mem_cons, List.not_mem_nil, or_false] at w
  rcases w with rfl | rfl | rfl <;> rfl
theorem one_in (o : Bool) (G : HD) : inD (.str (sOne o)) (.tup [.str sInt, .str sText, .str sBool]) G = some false := by cases o <;> rfl
theorem rec_in (G : HD) : inD (.str sRec) (.tup [.str sInt, .str sText, .str sBool]) G = some false := rfl
theorem leaf_nr {k : List Nat} (w : Wf (.leaf k)) : (k == sRec) = false := by
  simp only [Wf, List.mem_cons, List.not_mem_nil, or_false] at w
  rcases w with rfl | rfl | rfl <;> rfl
theorem one_nr (o : Bool) : (sOne o == sRec) = false := by cases o <;> rfl
/-! ### the law's own reading -/
def spLv (n : Nat) : SpD := fun ds G Q _ => ∃ k, ds = [enc k] ∧ Wf k ∧ dp k ≤ n ∧ dp k ≤ 100 ∧ (lv k).length ≤ 1000 ∧ Q (.lst ((lv k).map Lf.d)) G
def b_lv (lf : Nat) : Ss :=
 (.c (.ite (.cmp .inn (.idx (.var 0) (.con (.int 0))) (.tup (.c (.con (.str sInt)) (.c (.con (.str sText)) (.c (.con (.str sBool)) .n))))) (.c (.ret (.lst true (.c (.tup (.c (.tup .n) (.c (.tup .n) (.c (.idx (.var 0) (.con (.int 0))) .n)))) .n)))
 .n) .n)
 (.c (.set 1 (.lst false .n))
 (.c (.ite (.cmp .eq (.idx (.var 0) (.con (.int 0))) (.con (.str sRec))) (.c (.for_ (.n 2) (.of (.idx (.var 0) (.con (.int 1)))) (.c (.for_ (.n 3) (.of (.call lf (.c (.idx (.var 2) (.con (.int 1))) .n))) (.c (.ex (.mt .append (.var 1) (.c (.tup (.c (.bin true .add (.tup (.c (.idx (.var 2) (.con (.int 0))) .n)) (.idx (.var 3) (.con (.int 0)))) (.c (.idx (.var 3) (.con (.int 1))) (.c (.idx (.var 3) (.con (.int 2))) .n)))) .n)))
 .n))
 .n))
 (.c (.ret (.frz (.var 1)))
 .n)) .n)
 (.c (.for_ (.n 3) (.of (.call lf (.c (.idx (.var 0) (.con (.int 1))) .n))) (.c (.ex (.mt .append (.var 1) (.c (.tup (.c (.idx (.var 3) (.con (.int 0))) (.c (.bin true .add (.tup (.c (.idx (.var 0) (.con (.int 0))) .n)) (.idx (.var 3) (.con (.int 1)))) (.c (.idx (.var 3) (.con (.int 2))) .n)))) .n)))
 .n))
 (.c (.ret (.frz (.var 1)))
 .n)))))
theorem lv_ok {Γ : Gam} {lf n : Nat} (h9 : Γ.sp lf = spLv n) (ds : List D) (G : HD) (QD : KD) (XD : KX) (h : spLv (n + 1) ds G QD XD) :
    wSs Γ (b_lv lf) { nx := fun _ H => QD .non H, rt := QD, ex := fun x _ H => XD x H } (startD 4 ds) G := by
  obtain ⟨k, rfl, w, hn, h100, hl, hQ⟩ := h
  have hlim : lim = 16777216 := rfl
  cases k with
  | leaf k =>
    have e := leaf_in w G
    have hQ : QD (.lst [.tup [.tup [], .tup [], .str k]]) G := by simpa [lv, Lf.d] using hQ
    simp_arith [b_lv, h9, enc, e]
    exact hQ
  | one o a =>
    have e := one_in o G
    have e2 := one_nr o
    simp only [Wf] at w
    simp only [dp] at hn h100
    simp_arith [b_lv, h9, enc, e, e2]
    intro p hp
    simp only [lv, List.length_map] at hl
    have e3 : ∀ x, delD (updD G p x) p = G := fun x => delD_updD hp
    refine ⟨a, rfl, w.2, by omega, by omega, hl, ?_⟩
    simp_arith []
    refine wFor_ind (fun xs σ H => ∃ (acc ls : List Lf) (o3 : Option D), xs = ls.map Lf.d ∧ σ = [some (.tup [.str (sOne o), enc a]), some (.ref p), none, o3] ∧ H = updD G p (.lst (acc.map Lf.d)) ∧ acc ++ ls.map (addS' (sOne o)) = lv (.one o a) ∧ ∀ l ∈ ls, l ∈ lv a) ?_ ?_ _ _ _
      ⟨[], lv a, none, rfl, rfl, rfl, by simp [lv, addS'], fun _ h => h⟩
    · rintro σ H ⟨acc, ls, o3, hx, rfl, rfl, h1, _⟩
      have : ls = [] := by cases ls <;> first | rfl | cases hx
      subst this
      rw [List.map_nil, List.append_nil] at h1
      simp_arith [updD_same, e3]
      rw [h1]
      exact hQ
    · rintro x xs ih σ H ⟨acc, ls, o3, hx, rfl, rfl, h1, h2⟩
      cases ls with
      | nil => cases hx
      | cons l ls =>
        rw [List.map_cons] at hx
        injection hx with hx1 hx2
        subst hx1; subst hx2
        have hd := lv_dp a l (h2 l List.mem_cons_self)
        have hacc : acc.length < 1000 := by
          have := congrArg List.length h1
          simp [lv] at this; omega
        simp_arith [Lf.d, updD_same, updD_updD]
        refine ⟨by rw [List.length_map]; omega, by rw [List.length_map]; omega, ih _ _ ⟨acc ++ [addS' (sOne o) l], ls, _, rfl, rfl, by simp [Lf.d, addS'], ?_, fun x hx => h2 x (List.mem_cons_of_mem _ hx)⟩⟩
        rw [← h1]; simp
  | recd fs =>
    have e := rec_in G
    simp only [Wf] at w
    simp only [dp] at hn h100
    simp_arith [b_lv, h9, enc, e, beq_self_eq_true]
    intro p hp
    simp only [lv] at hl hQ
    have e3 : ∀ x, delD (updD G p x) p = G := fun x => delD_updD hp
    refine wFor_ind (fun xs σ H => ∃ (acc : List Lf) (ls : List (List Nat × Kd)) (o2 o3 : Option D), xs = ls.map enc1 ∧ σ = [some (.tup [.str sRec, .tup (encs fs)]), some (.ref p), o2, o3] ∧ H = updD G p (.lst (acc.map Lf.d)) ∧ acc ++ ls.flatMap lv1 = lvs fs ∧ ∀ l ∈ ls, l ∈ toL fs) ?_ ?_ _ _ _
      ⟨[], toL fs, none, none, encs_eq fs, rfl, rfl, by rw [List.nil_append, lvs_eq], fun _ h => h⟩
    · rintro σ H ⟨acc, ls, o2, o3, hx, rfl, rfl, h1, _⟩
      have : ls = [] := by cases ls <;> first | rfl | cases hx
      subst this
      rw [List.flatMap_nil, List.append_nil] at h1
      simp_arith [updD_same, e3]
      rw [h1]
      exact hQ
    · rintro x xs ih σ H ⟨acc, ls, o2, o3, hx, rfl, rfl, h1, h2⟩
      cases ls with
      | nil => cases hx
      | cons f ls =>
        rw [List.map_cons] at hx
        injection hx with hx1 hx2
        subst hx1; subst hx2
        have hf := h2 f List.mem_cons_self
        have w2 := wfs_eq w.2 f hf
        have d2 := dps_eq f hf
        have hlen : acc.length + ((lv f.2).length + (ls.flatMap lv1).length) = (lvs fs).length := by
          have := congrArg List.length h1
          rw [List.length_append, List.flatMap_cons, List.length_append] at this
          rw [← this]; simp [lv1]
        simp_arith [enc1]
        refine ⟨f.2, rfl, w2.2, by omega, by omega, by omega, ?_⟩
        simp_arith []
        refine wFor_ind (fun ys σ H => ∃ (acc2 ms : List Lf) (o3 : Option D), ys = ms.map Lf.d ∧ σ = [some (.tup [.str sRec, .tup (encs fs)]), some (.ref p), some (.tup [.str f.1, enc f.2]), o3] ∧ H = updD G p (.lst (acc2.map Lf.d)) ∧ acc2 ++ ms.map (addP f.1) = acc ++ lv1 f ∧ ∀ l ∈ ms, l ∈ lv f.2) ?_ ?_ _ _ _
          ⟨acc, lv f.2, o3, rfl, rfl, rfl, rfl, fun _ h => h⟩
        · rintro σ H ⟨acc2, ms, o3, hx, rfl, rfl, k1, _⟩
          have : ms = [] := by cases ms <;> first | rfl | cases hx
          subst this
          rw [List.map_nil, List.append_nil] at k1
          subst k1
          exact ih _ _ ⟨_, ls, _, _, rfl, rfl, rfl, by rw [← h1]; simp, fun x hx => h2 x (List.mem_cons_of_mem _ hx)⟩
        · rintro y ys ih2 σ H ⟨acc2, ms, o3, hx, rfl, rfl, k1, k2⟩
          cases ms with
          | nil => cases hx
          | cons l ms =>
            rw [List.map_cons] at hx
            injection hx with hx1 hx2
            subst hx1; subst hx2
            have hd := lv_dp f.2 l (k2 l List.mem_cons_self)
            have hacc : acc2.length < 1000 := by
              have := congrArg List.length k1
              simp [lv1] at this; omega
            simp_arith [Lf.d, updD_same, updD_updD]
            refine ⟨by rw [List.length_map]; omega, by rw [List.length_map]; omega, ih2 _ _ ⟨acc2 ++ [addP f.1 l], ms, _, rfl, rfl, by simp [Lf.d, addP], ?_, fun x hx => k2 x (List.mem_cons_of_mem _ hx)⟩⟩
            rw [← k1]; simp
end DL

namespace DL
open PySem PySem.Spec PyProof.Rows L2
/-! ### leaves, by a pile -/
structure It where
  p : List (List Nat)
  s : List (List Nat)
  k : Kd
def It.d (i : It) : D := .tup [.tup (i.p.map .str), .tup (i.s.map .str), enc i.k]
def It.lv (i : It) : List Lf := (DL.lv i.k).map fun l => ⟨i.p ++ l.p, i.s ++ l.s, l.k⟩
def It.Ok (i : It) : Prop := Wf i.k ∧ i.p.length + i.s.length + dp i.k ≤ 101
mutual
def sz : Kd → Nat
  | .leaf _ => 1
  | .one _ a => sz a + 1
  | .recd fs => szs fs + 1
def szs : Fs → Nat
  | .nil => 0
  | .cons _ k fs => sz k + szs fs
end
theorem szs_eq : ∀ fs, szs fs = ((toL fs).map fun p => sz p.2).sum
  | .nil => by simp [szs, toL]
  | .cons n k fs => by simp [szs, toL, szs_eq fs]
def psz (st : List It) : Nat := (st.map fun i => sz i.k).sum
theorem pile_len : ∀ {st : List It}, (∀ i ∈ st, i.Ok) → st.length ≤ (st.flatMap It.lv).length
  | [], _ => by simp
  | i :: st, h => by
    have h1 := lv_pos i.k (h i List.mem_cons_self).1
    have h2 := pile_len (st := st) fun x hx => h x (List.mem_cons_of_mem _ hx)
    rw [List.flatMap_cons, List.length_append, List.length_cons]
    have : (It.lv i).length = (lv i.k).length := by simp [It.lv]
    omega
def b_leaves (gl : Nat) : Ss :=
 (.c (.set 1 (.lst false .n))
 (.c (.set 2 (.lst false (.c (.tup (.c (.tup .n) (.c (.tup .n) (.c (.var 0) .n)))) .n)))
 (.c (.whl (.of (.var 2)) (.c (.asg (.t [(.n 3), (.n 4), (.n 5)]) (.mt .pop (.var 2) .n))
 (.c (.ite (.cmp .eq (.idx (.var 5) (.con (.int 0))) (.con (.str sRec))) (.c (.ex (.mt .extend (.var 2) (.c (.lc true (.tup (.c (.bin true .add (.var 3) (.tup (.c (.var 6) .n))) (.c (.var 4) (.c (.var 7) .n)))) (.t [(.n 6), (.n 7)]) (.rev (.idx (.var 5) (.con (.int 1)))) .yes [("name", 6), ("part", 7)]) .n)))
 .n) (.c (.ite (.cmp .inn (.idx (.var 5) (.con (.int 0))) (.glb gl)) (.c (.ex (.mt .append (.var 1) (.c (.tup (.c (.var 3) (.c (.var 4) (.c (.idx (.var 5) (.con (.int 0))) .n)))) .n)))
 .n) (.c (.ex (.mt .append (.var 2) (.c (.tup (.c (.var 3) (.c (.bin true .add (.var 4) (.tup (.c (.idx (.var 5) (.con (.int 0))) .n))) (.c (.idx (.var 5) (.con (.int 1))) .n)))) .n)))
 .n))
 .n))
 .n)))
 (.c (.fz 2) (.c (.ret (.var 1))
 .n)))))
def spLeaves : SpD := fun ds G Q _ => ∃ k, ds = [enc k] ∧ Wf k ∧ dp k ≤ 100 ∧ (lv k).length ≤ 1000 ∧ ∀ p, G p = none → Q (.ref p) (updD G p (.lst ((lv k).map Lf.d)))
theorem pop_last {α β : Type} (f : α → β) (t : α) (st : List α) : ((t :: st).reverse.map f).getLast? = some (f t) ∧ ((t :: st).reverse.map f).dropLast = st.reverse.map f := by
  rw [List.reverse_cons, List.map_append]
  exact ⟨by simp, by simp⟩
theorem leaves_ok {Γ : Gam} {gl : Nat} (hg : Γ.gl gl = .tup [.str sInt, .str sText, .str sBool]) (ds : List D) (G : HD) (QD : KD) (XD : KX) (h : spLeaves ds G QD XD) :
    wSs Γ (b_leaves gl) { nx := fun _ H => QD .non H, rt := QD, ex := fun x _ H => XD x H } (startD 8 ds) G := by
  obtain ⟨k0, rfl, w0, h100, hl, hQ⟩ := h
  have hlim : lim = 16777216 := rfl
  simp_arith [b_leaves, hg]
  intro a ha b hb
  have hab : a ≠ b := fun z => by rw [z, updD_same] at hb; cases hb
  have gb : G b = none := by rw [updD_ne hab.symm] at hb; exact hb
  have e1 : ∀ x y : HC, (updD (updD G a x) b y) a = some x := fun x y => two_a hab
  have e2 : ∀ x y : HC, (updD (updD G a x) b y) b = some y := fun x y => updD_same
  have e3 : ∀ x y x' : HC, updD (updD (updD G a x) b y) a x' = updD (updD G a x') b y := fun x y x' => two_ua hab
  have e4 : ∀ x y y' : HC, updD (updD (updD G a x) b y) b y' = updD (updD G a x) b y' := fun x y y' => updD_updD
  have e5 : ∀ x y : HC, delD (updD (updD G a x) b y) b = updD G a x := fun x y => delD_updD (by rw [updD_ne hab.symm]; exact gb)
  refine ⟨fun m σ H => ∃ (st : List It) (acc : List Lf) (o3 o4 o5 o6 o7 : Option D), m = psz st ∧ σ = [some (enc k0), some (.ref a), some (.ref b), o3, o4, o5, o6, o7] ∧ H = updD (updD G a (.lst (acc.map Lf.d))) b (.lst (st.reverse.map It.d)) ∧
    acc ++ st.flatMap It.lv = lv k0 ∧ ∀ i ∈ st, i.Ok, ⟨_, [⟨[], [], k0⟩], [], none, none, none, none, none, rfl, rfl, by simp [It.d], by simp [It.lv], fun i hi => ?_⟩, ?_⟩
  · rw [List.mem_singleton] at hi; subst hi; exact ⟨w0, by simp; omega⟩
  · rintro m σ H ⟨st, acc, o3, o4, o5, o6, o7, rfl, rfl, rfl, h1, h2⟩
    simp_arith [e1, e2, List.length_map, List.length_reverse]
    cases st with
    | nil =>
      rw [List.flatMap_nil, List.append_nil] at h1
      simp_arith [e2, e5, bne_self_eq_false]
      rw [h1]
      exact hQ a ha
    | cons t st =>
      obtain ⟨tp, ts, tk⟩ := t
      obtain ⟨w, hd⟩ := h2 _ List.mem_cons_self
      have hne : ((st.length + 1) != 0) = true := by simp
      obtain ⟨l1, l2⟩ := pop_last It.d ⟨tp, ts, tk⟩ st
      have hlen : acc.length + ((lv tk).length + (st.flatMap It.lv).length) = (lv k0).length := by
        rw [← h1]; simp [It.lv]
      have hst := pile_len (st := st) fun i hi => h2 i (List.mem_cons_of_mem _ hi)
      have hl1 := lv_pos tk w
      simp only at w hd
      simp_arith [hne, e1, e2, e3, e4, l1, l2, It.d]
      cases tk with
      | leaf k =>
        simp_arith [enc, leaf_nr w, leaf_in w, e1, e2, e3, e4]
        refine ⟨by rw [List.length_map]; omega, _, ?_, st, acc ++ [⟨tp, ts, k⟩], _, _, _, _, _, rfl, rfl, by simp [Lf.d], ?_, fun i hi => h2 i (List.mem_cons_of_mem _ hi)⟩
        · simp [psz, sz]
        · rw [← h1]; simp [It.lv, lv]
      | one o q =>
        have hd2 : ts.length < lim := by simp only [dp] at hd; omega
        simp_arith [enc, one_nr, one_in, e1, e2, e3, e4]
        simp only [Wf] at w
        simp only [dp] at hd
        refine ⟨by rw [List.length_map]; omega, by rw [List.length_map, List.length_reverse]; omega, _, ?_, ⟨tp, ts ++ [sOne o], q⟩ :: st, acc, _, _, _, _, _, rfl, rfl, by simp [It.d], ?_, fun i hi => ?_⟩
        · simp [psz, sz]
        · rw [← h1]; simp [It.lv, lv, Function.comp_def]
        · rcases List.mem_cons.mp hi with rfl | hi
          · exact ⟨w.2, by simp; omega⟩
          · exact h2 i (List.mem_cons_of_mem _ hi)
      | recd fs =>
        simp only [Wf] at w
        simp only [dp] at hd
        simp_arith [enc, beq_self_eq_true, e1, e2, e3, e4]
        have hper : ∀ p ∈ toL fs, It.Ok ⟨tp ++ [p.1], ts, p.2⟩ := fun p hp => by
          have := dps_eq p hp
          exact ⟨(wfs_eq w.2 p hp).2, by simp; omega⟩
        have hnew : ∀ i ∈ (toL fs).map (fun p => (⟨tp ++ [p.1], ts, p.2⟩ : It)) ++ st, i.Ok := fun i hi => by
          rcases List.mem_append.mp hi with hi | hi
          · obtain ⟨p, hp, rfl⟩ := List.mem_map.mp hi
            exact hper p hp
          · exact h2 i (List.mem_cons_of_mem _ hi)
        have hflat : ((toL fs).map (fun p => (⟨tp ++ [p.1], ts, p.2⟩ : It)) ++ st).flatMap It.lv = It.lv ⟨tp, ts, .recd fs⟩ ++ st.flatMap It.lv := by
          rw [List.flatMap_append]
          congr 1
          simp only [It.lv, lv, lvs_eq, List.flatMap_map, List.map_flatMap, lv1, List.map_map]
          congr 1
          funext p
          simp [Function.comp_def, addP]
        have hcount := pile_len hnew
        rw [hflat] at hcount
        have hc2 : (It.lv ⟨tp, ts, .recd fs⟩ ++ st.flatMap It.lv).length ≤ 1000 := by
          rw [List.length_append]; simp only [It.lv, List.length_map]; omega
        refine lcD_ind (fun xs acc2 H => H = updD (updD G a (.lst (acc.map Lf.d))) b (.lst (st.reverse.map It.d)) ∧ ∃ l : List (List Nat × Kd), xs = l.map enc1 ∧ acc2 ++ l.map (fun p => It.d ⟨tp ++ [p.1], ts, p.2⟩) = (toL fs).reverse.map (fun p => It.d ⟨tp ++ [p.1], ts, p.2⟩) ∧ ∀ p ∈ l, p ∈ toL fs) ?_ ?_ _ _ _
          ⟨rfl, (toL fs).reverse, by rw [encs_eq, List.map_reverse], by simp, fun p hp => by simpa using hp⟩
        · rintro acc2 H ⟨rfl, l, hx, k1, _⟩
          have : l = [] := by cases l <;> first | rfl | cases hx
          subst this
          rw [List.map_nil, List.append_nil] at k1
          subst k1
          simp_arith [e2, e4]
          have hsz : psz ((toL fs).map (fun p => (⟨tp ++ [p.1], ts, p.2⟩ : It)) ++ st) = szs fs + psz st := by
            unfold psz; rw [List.map_append, List.sum_append, List.map_map, szs_eq]; rfl
          refine ⟨?_, _, ?_, (toL fs).map (fun p => ⟨tp ++ [p.1], ts, p.2⟩) ++ st, acc, _, _, _, _, _, rfl, rfl, ?_, ?_, hnew⟩
          · rw [List.length_append, List.length_map] at hcount
            simp only [List.length_map, List.length_reverse]; omega
          · rw [hsz]; simp [psz, sz]
          · simp [List.map_reverse, Function.comp_def]
          · rw [hflat, ← h1]; simp
        · rintro x xs acc2 ih H ⟨rfl, l, hx, k1, k2⟩
          cases l with
          | nil => cases hx
          | cons p l =>
            rw [List.map_cons] at hx
            injection hx with hx1 hx2
            subst hx1; subst hx2
            simp_arith [enc1]
            refine ⟨by rw [List.length_map]; omega, ih _ _ ⟨rfl, l, rfl, ?_, fun x hx => k2 x (List.mem_cons_of_mem _ hx)⟩⟩
            rw [← k1]; simp [It.d]
end DL

namespace DL
open PySem PySem.Spec PyProof.Rows L2
/-! ## 21. Values of a schema -/
def signs : List Nat := [48, 49, 50, 51, 52, 53, 54, 55, 56, 57, 58, 59, 60, 61, 62, 63, 64, 65, 66, 67, 68, 69, 70, 71, 72, 73, 74, 75, 76, 77, 78, 79, 80, 81, 82, 83, 84, 85, 86, 87, 88, 89, 90, 91, 92, 93, 94, 95, 96, 97, 98, 99, 100, 101, 102, 103, 104, 105, 106, 107, 108, 109, 110, 111, 112, 113, 114, 115, 116, 117, 118, 119, 120, 121, 122]
def IntOk (i : Int) : Prop := -9223372036854775808 ≤ i ∧ i < 9223372036854775808
def TextOk (s : List Nat) : Prop := s.length ≤ 200 ∧ ∀ c ∈ s, c ∈ signs
def LeafV (k : List Nat) (v : D) : Prop := (k = sInt ∧ ∃ i, v = .int i ∧ IntOk i) ∨ (k = sText ∧ ∃ s, v = .str s ∧ TextOk s) ∨ (k = sBool ∧ ∃ b, v = .bl b)
mutual
/-- v is a value of k with at most n elements of lists -/
def OkV : Kd → D → Nat → Prop
  | .leaf k, v, _ => LeafV k v
  | .one true a, v, n => v = .non ∨ OkV a v n
  | .one false a, v, n => ∃ (vs : List D) (ms : List Nat), v = .tup vs ∧ vs.length = ms.length ∧ vs.length + ms.sum ≤ n ∧ ∀ (i : Nat) (x : D) (m : Nat), vs[i]? = some x → ms[i]? = some m → OkV a x m
  | .recd fs, v, n => ∃ vs, v = .tup vs ∧ OkVs fs vs n
def OkVs : Fs → List D → Nat → Prop
  | .nil, vs, _ => vs = []
  | .cons _ k fs, vs, n => ∃ v r a b, vs = v :: r ∧ a + b ≤ n ∧ OkV k v a ∧ OkVs fs r b
end
/-! ### int -/
def spInt : SpD := fun ds G Q _ => ds = [.rnd] ∧ ∀ i, IntOk i → Q (.int i) G
def b_int (dr pk : Nat) : Ss :=
 (.c (.set 1 (.call dr (.c (.var 0) (.c (.con (.int 6)) .n))))
 (.c (.ite (.cmp .lt (.var 1) (.con (.int 3))) (.c (.ret (.bin true .sub (.call dr (.c (.var 0) (.c (.con (.int 5)) .n))) (.con (.int 2))))
 .n) .n)
 (.c (.ite (.cmp .eq (.var 1) (.con (.int 3))) (.c (.ret (.call dr (.c (.var 0) (.c (.con (.int 1000)) .n))))
 .n) .n)
 (.c (.ite (.cmp .eq (.var 1) (.con (.int 4))) (.c (.ret (.call pk (.c (.var 0) (.c (.lst true (.c (.bin true .sub (.bin true .pow (.con (.int 2)) (.con (.int 63))) (.con (.int 1))) (.c (.neg (.bin true .pow (.con (.int 2)) (.con (.int 63)))) (.c (.bin true .pow (.con (.int 2)) (.con (.int 62))) (.c (.neg (.con (.int 1))) .n))))) .n))))
 .n) .n)
 (.c (.ret (.bin true .sub (.call dr (.c (.var 0) (.c (.bin true .pow (.con (.int 2)) (.con (.int 64))) .n))) (.bin true .pow (.con (.int 2)) (.con (.int 63)))))
 .n)))))
theorem int_ok {Γ : Gam} {dr pk : Nat} (h2 : Γ.sp dr = spDraw) (h3 : Γ.sp pk = spPick) (ds : List D) (G : HD) (QD : KD) (XD : KX) (h : spInt ds G QD XD) : wSs Γ (b_int dr pk) { nx := fun _ H => QD .non H, rt := QD, ex := fun x _ H => XD x H } (startD 2 ds) G := by
  obtain ⟨rfl, hQ⟩ := h
  simp_arith [b_int, h2, h3]
  refine ⟨_, rfl, by decide, fun r h0 h1 => ?_⟩
  simp_arith []
  cases decide (r < 3) with
  | true =>
    refine ⟨_, rfl, by decide, fun r h0 h1 => ?_⟩
    simp_arith []
    exact hQ _ ⟨by omega, by omega⟩
  | false =>
    cases (r == 3) with
    | true => exact ⟨_, rfl, by decide, fun r h0 h1 => hQ _ ⟨by omega, by omega⟩⟩
    | false =>
      cases (r == 4) with
      | true =>
        refine ⟨by decide, by decide, by decide, _, rfl, by decide, fun d hd => ?_⟩
        simp only [List.mem_cons, List.not_mem_nil, or_false] at hd
        rcases hd with rfl | rfl | rfl | rfl <;> exact hQ _ ⟨by decide, by decide⟩
      | false =>
        refine ⟨by decide, _, rfl, by decide, fun r h0 h1 => ⟨by decide, ?_⟩⟩
        have e1 : (2 : Int) ^ 64 = 18446744073709551616 := by decide
        have e2 : (2 : Int) ^ 63 = 9223372036854775808 := by decide
        rw [e1] at h1
        exact hQ _ ⟨by rw [e2]; omega, by rw [e2]; omega⟩
/-! ### text -/
def spText : SpD := fun ds G Q _ => ds = [.rnd] ∧ ∀ s, TextOk s → Q (.str s) G
def b_text (dr : Nat) : Ss :=
 (.c (.set 1 (.con (.str signs)))
 (.c (.set 2 (.idx (.lst true (.c (.con (.int 0)) (.c (.con (.int 1)) (.c (.con (.int 1)) (.c (.con (.int 2)) (.c (.con (.int 3)) (.c (.con (.int 6)) .n))))))) (.call dr (.c (.var 0) (.c (.con (.int 6)) .n)))))
 (.c (.set 3 (.mt .join (.con (.str [])) (.c (.lc true (.idx (.var 1) (.call dr (.c (.var 0) (.c (.con (.int 75)) .n)))) (.n 4) (.rng (.c (.var 2) .n)) .yes [("k", 4)]) .n)))
 (.c (.ite (.cmp .eq (.call dr (.c (.var 0) (.c (.con (.int 24)) .n))) (.con (.int 0))) (.c (.ret (.bin true .add (.bin true .mul (.idx (.var 1) (.call dr (.c (.var 0) (.c (.con (.int 75)) .n)))) (.bin true .sub (.con (.int 200)) (.bf true .len (.c (.var 3) .n)))) (.var 3)))
 .n) .n)
 (.c (.ret (.var 3))
 .n)))))
theorem strs_in {P : Nat → Prop} : ∀ {ds : List D}, (∀ d ∈ ds, ∃ c, d = .str [c] ∧ P c) → ∃ cs : List Nat, strsOf ds = some (cs.map fun c => [c]) ∧ cs.length = ds.length ∧ ∀ c ∈ cs, P c
  | [], _ => ⟨[], rfl, rfl, fun _ h => (nomatch h)⟩
  | d :: ds, h => by
    obtain ⟨cs, h1, h2, h3⟩ := strs_in (ds := ds) fun x hx => h x (List.mem_cons_of_mem _ hx)
    obtain ⟨c, rfl, hc⟩ := h d List.mem_cons_self
    refine ⟨c :: cs, by show (strsOf ds).map ([c] :: ·) = _; rw [h1]; rfl, by simp [h2], fun x hx => ?_⟩
    rcases List.mem_cons.mp hx with rfl | hx
    · exact hc
    · exact h3 x hx
theorem text_ok {Γ : Gam} {dr : Nat} (h2 : Γ.sp dr = spDraw) (ds : List D) (G : HD) (QD : KD) (XD : KX) (h : spText ds G QD XD) : wSs Γ (b_text dr) { nx := fun _ H => QD .non H, rt := QD, ex := fun x _ H => XD x H } (startD 5 ds) G := by
  obtain ⟨rfl, hQ⟩ := h
  have hlim : lim = 16777216 := rfl
  simp_arith [b_text, h2]
  refine ⟨_, rfl, by decide, fun r h0 h1 => ?_⟩
  obtain ⟨d, hd, e⟩ := get_in (rows := [.int 0, .int 1, .int 1, .int 2, .int 3, .int 6]) h0 h1
  have hm : ∃ m : Int, d = .int m ∧ 0 ≤ m ∧ m ≤ 6 := by
    simp only [List.mem_cons, List.not_mem_nil, or_false] at hd
    rcases hd with rfl | rfl | rfl | rfl | rfl | rfl <;> exact ⟨_, rfl, by decide, by decide⟩
  obtain ⟨m, rfl, m1, m2⟩ := hm
  simp_arith [e]
  rw [q_rng1 ⟨by omega, by omega⟩, ok_some]
  refine And.intro (by show m.toNat ≤ lim; omega) ?_
  refine lcD_ind (fun xs acc H => H = G ∧ (∀ d ∈ acc, ∃ c, d = .str [c] ∧ c ∈ signs) ∧ acc.length + xs.length = m.toNat) ?_ ?_ _ _ _ ⟨rfl, fun _ h => (nomatch h), by show 0 + (rngF 1 m.toNat 0).length = _; rw [rngF_len, Nat.zero_add]⟩
  · rintro acc H ⟨rfl, k1, k2⟩
    obtain ⟨cs, j1, j2, j3⟩ := strs_in (P := fun c => c ∈ signs) k1
    have hz : cs.length = m.toNat := by simpa [j2] using k2
    simp_arith [j1, join_one, sum_one]
    refine And.intro (by show cs.length + _ * 0 ≤ lim; omega) ?_
    refine ⟨_, rfl, by decide, fun r h0 h1 => ?_⟩
    simp_arith []
    cases (r == 0) with
    | false => exact hQ cs ⟨by omega, j3⟩
    | true =>
      refine ⟨_, rfl, by decide, fun r h0 h1 => ?_⟩
      obtain ⟨c, hc, e⟩ := get_inS (s := signs) h0 h1
      simp_arith [e]
      have hl : ((List.replicate ((200 : Int) - (cs.length : Int)).toNat [c]).flatten).length = 200 - cs.length := by rw [rep_len, List.length_singleton, Nat.one_mul]; omega
      refine ⟨⟨by omega, by omega⟩, by omega, by rw [hl]; omega, hQ _ ⟨by rw [List.length_append, hl]; omega, fun x hx => ?_⟩⟩
      rcases List.mem_append.mp hx with hx | hx
      · obtain ⟨l, h1, h2⟩ := List.mem_flatten.mp hx
        rw [List.mem_replicate] at h1
        rw [h1.2, List.mem_singleton] at h2
        rw [h2]; exact hc
      · exact j3 x hx
  · rintro x xs acc ih H ⟨rfl, k1, k2⟩
    simp_arith []
    refine ⟨_, rfl, by decide, fun r h0 h1 => ?_⟩
    obtain ⟨c, hc, e⟩ := get_inS (s := signs) h0 h1
    simp_arith [e]
    refine ih _ _ ⟨rfl, fun d hd => ?_, by simp at k2 ⊢; omega⟩
    rcases List.mem_append.mp hd with hd | hd
    · exact k1 d hd
    · rw [List.mem_singleton] at hd; exact ⟨c, hd, hc⟩
/-! ### value -/
def spValue (n : Nat) : SpD := fun ds G Q _ => ∃ k a r, ds = [.rnd, enc k, .ref a] ∧ Wf k ∧ dp k ≤ n ∧ G a = some (.lst [.int r]) ∧ (0 ≤ r ∧ r ≤ 1000) ∧ ∀ v (m : Nat), OkV k v m → (m : Int) ≤ r → Q v (updD G a (.lst [.int (r - m)]))
def b_value (dr tx it vl : Nat) : Ss :=
 (.c (.ite (.cmp .eq (.idx (.var 1) (.con (.int 0))) (.con (.str sInt))) (.c (.ret (.call it (.c (.var 0) .n)))
 .n) .n)
 (.c (.ite (.cmp .eq (.idx (.var 1) (.con (.int 0))) (.con (.str sText))) (.c (.ret (.call tx (.c (.var 0) .n)))
 .n) .n)
 (.c (.ite (.cmp .eq (.idx (.var 1) (.con (.int 0))) (.con (.str sBool))) (.c (.ret (.cmp .eq (.call dr (.c (.var 0) (.c (.con (.int 2)) .n))) (.con (.int 1))))
 .n) .n)
 (.c (.ite (.cmp .eq (.idx (.var 1) (.con (.int 0))) (.con (.str sRec))) (.c (.ret (.bf true .tuple (.c (.lc true (.call vl (.c (.var 0) (.c (.idx (.var 4) (.con (.int 1))) (.c (.var 2) .n)))) (.n 4) (.of (.idx (.var 1) (.con (.int 1)))) .yes [("field", 4)]) .n)))
 .n) .n)
 (.c (.ite (.cmp .eq (.idx (.var 1) (.con (.int 0))) (.con (.str sOpt))) (.c (.ite (.cmp .eq (.call dr (.c (.var 0) (.c (.con (.int 3)) .n))) (.con (.int 0))) (.c (.ret (.con .non))
 .n) .n)
 (.c (.ret (.call vl (.c (.var 0) (.c (.idx (.var 1) (.con (.int 1))) (.c (.var 2) .n)))))
 .n)) .n)
 (.c (.set 3 (.bf true .min (.c (.idx (.var 2) (.con (.int 0))) (.c (.idx (.lst true (.c (.con (.int 0)) (.c (.con (.int 1)) (.c (.con (.int 1)) (.c (.con (.int 2)) (.c (.con (.int 2)) (.c (.con (.int 3)) (.c (.con (.int 5)) .n)))))))) (.call dr (.c (.var 0) (.c (.con (.int 7)) .n)))) .n))))
 (.c (.setI (.var 2) (.con (.int 0)) (.bin true .sub (.idx (.var 2) (.con (.int 0))) (.var 3)))
 (.c (.ret (.bf true .tuple (.c (.lc true (.call vl (.c (.var 0) (.c (.idx (.var 1) (.con (.int 1))) (.c (.var 2) .n)))) (.n 5) (.rng (.c (.var 3) .n)) .yes [("k", 5)]) .n)))
 .n))))))))
theorem okVs_app : ∀ {l : List (List Nat × Kd)} {vs : List D} {n : Nat} {p : List Nat × Kd} {v : D} {m : Nat}, OkVs (fsOf l) vs n → OkV p.2 v m → OkVs (fsOf (l ++ [p])) (vs ++ [v]) (n + m)
  | [], vs, n, p, v, m, h, hv => by
    simp only [fsOf, OkVs] at h
    subst h
    simp only [List.nil_append, fsOf, OkVs]
    exact ⟨v, [], m, n, rfl, by omega, hv, rfl⟩
  | q :: l, vs, n, p, v, m, h, hv => by
    simp only [fsOf, OkVs] at h
    obtain ⟨x, r, a, b, rfl, hab, h1, h2⟩ := h
    simp only [List.cons_append, fsOf, OkVs]
    exact ⟨x, r ++ [v], a, b + m, rfl, by omega, h1, okVs_app h2 hv⟩
theorem fsOf_toL : ∀ fs, fsOf (toL fs) = fs
  | .nil => rfl
  | .cons n k fs => by simp [toL, fsOf, fsOf_toL fs]
theorem value_ok {Γ : Gam} {dr tx it vl n : Nat} (h2 : Γ.sp dr = spDraw) (h3 : Γ.sp tx = spText) (h4 : Γ.sp it = spInt) (h5 : Γ.sp vl = spValue n) (ds : List D) (G : HD) (QD : KD) (XD : KX) (h : spValue (n + 1) ds G QD XD) :
    wSs Γ (b_value dr tx it vl) { nx := fun _ H => QD .non H, rt := QD, ex := fun x _ H => XD x H } (startD 6 ds) G := by
  obtain ⟨k, a, r, rfl, w, hn, ha, hr, hQ⟩ := h
  have hlim : lim = 16777216 := rfl
  have same : updD G a (.lst [.int (r - (0 : Nat))]) = G := by
    funext b
    unfold updD
    split
    · rename_i e; subst e; rw [ha]; simp
    · rfl
  cases k with
  | leaf k =>
    have hL : ∀ v, LeafV k v → QD v G := fun v hv => by
      have := hQ v 0 (by simp only [OkV]; exact hv) (by simp; exact hr.1)
      rwa [same] at this
    simp only [Wf, List.mem_cons, List.not_mem_nil, or_false] at w
    rcases w with rfl | rfl | rfl
    · simp_arith [b_value, h2, h3, h4, h5, enc, beq_self_eq_true]
      exact ⟨rfl, fun i hi => hL _ (.inl ⟨rfl, i, rfl, hi⟩)⟩
    · have e1 : (sText == sInt) = false := rfl
      simp_arith [b_value, h2, h3, h4, h5, enc, e1, beq_self_eq_true]
      exact ⟨rfl, fun i hi => hL _ (.inr (.inl ⟨rfl, i, rfl, hi⟩))⟩
    · have e1 : (sBool == sInt) = false := rfl
      have e2 : (sBool == sText) = false := rfl
      simp_arith [b_value, h2, h3, h4, h5, enc, e1, e2, beq_self_eq_true]
      exact ⟨_, rfl, by decide, fun q q0 q1 => hL _ (.inr (.inr ⟨rfl, _, rfl⟩))⟩
  | one o b =>
    simp only [Wf] at w
    simp only [dp] at hn
    cases o with
    | true =>
      have e1 : (sOne true == sInt) = false := rfl
      have e2 : (sOne true == sText) = false := rfl
      have e3 : (sOne true == sBool) = false := rfl
      have e4 : (sOne true == sRec) = false := rfl
      have e5 : (sOne true == sOpt) = true := rfl
      simp_arith [b_value, h2, h3, h4, h5, enc, e1, e2, e3, e4, e5]
      refine ⟨_, rfl, by decide, fun q q0 q1 => ?_⟩
      simp_arith []
      cases (q == 0) with
      | true =>
        have := hQ .non 0 (by simp only [OkV]; exact .inl trivial) (by simp; exact hr.1)
        rwa [same] at this
      | false => exact ⟨b, a, r, rfl, w.2, by omega, ha, hr, fun v m hv hm => hQ v m (by simp only [OkV]; exact .inr hv) hm⟩
    | false =>
      have e1 : (sOne false == sInt) = false := rfl
      have e2 : (sOne false == sText) = false := rfl
      have e3 : (sOne false == sBool) = false := rfl
      have e4 : (sOne false == sRec) = false := rfl
      have e5 : (sOne false == sOpt) = false := rfl
      simp_arith [b_value, h2, h3, h4, h5, enc, e1, e2, e3, e4, e5, ha]
      refine ⟨_, rfl, by decide, fun q q0 q1 => ?_⟩
      obtain ⟨d, hd, e⟩ := get_in (rows := [.int 0, .int 1, .int 1, .int 2, .int 2, .int 3, .int 5]) q0 q1
      have hm : ∃ m : Int, d = .int m ∧ 0 ≤ m ∧ m ≤ 5 := by
        simp only [List.mem_cons, List.not_mem_nil, or_false] at hd
        rcases hd with rfl | rfl | rfl | rfl | rfl | rfl | rfl <;> exact ⟨_, rfl, by decide, by decide⟩
      obtain ⟨c, rfl, c1, c2⟩ := hm
      simp_arith [e, ha, updD_same, updD_updD]
      have hc : 0 ≤ (if c < r then c else r) ∧ (if c < r then c else r) ≤ r ∧ (if c < r then c else r) ≤ 5 := by split <;> omega
      generalize (if c < r then c else r) = t at hc
      refine And.intro (by decide) ?_
      rw [q_rng1 ⟨by omega, by omega⟩, ok_some]
      refine And.intro (by show t.toNat ≤ lim; omega) ?_
      refine lcD_ind (fun xs acc H => ∃ ms : List Nat, acc.length = ms.length ∧ acc.length + xs.length = t.toNat ∧ H = updD G a (.lst [.int (r - t - (ms.sum : Nat))]) ∧ ((ms.sum : Nat) : Int) ≤ r - t ∧ ∀ (i : Nat) (x : D) (m : Nat), acc[i]? = some x → ms[i]? = some m → OkV b x m) ?_ ?_ _ _ _
        ⟨[], rfl, by show 0 + (rngF 1 t.toNat 0).length = _; rw [rngF_len, Nat.zero_add], by simp, by simp; omega, fun i x m h => by simp at h⟩
      · rintro acc H ⟨ms, k1, k2, rfl, k3, k4⟩
        have hl : acc.length = t.toNat := by simpa using k2
        have := hQ (.tup acc) (acc.length + ms.sum) (by simp only [OkV]; exact ⟨acc, ms, rfl, k1, Nat.le_refl _, k4⟩) (by omega)
        rw [show r - ((acc.length + ms.sum : Nat) : Int) = r - t - ((ms.sum : Nat) : Int) by omega] at this
        exact this
      · rintro x xs acc ih H ⟨ms, k1, k2, rfl, k3, k4⟩
        refine ⟨b, a, _, rfl, w.2, by omega, updD_same, ⟨by omega, by omega⟩, fun v m hv hm => ?_⟩
        rw [updD_updD]
        have es : (ms ++ [m]).sum = ms.sum + m := by rw [List.sum_append]; simp
        refine ih _ _ ⟨ms ++ [m], by simp [k1], by rw [List.length_append, List.length_singleton]; rw [List.length_cons] at k2; omega, by rw [es, show r - t - ((ms.sum : Nat) : Int) - (m : Int) = r - t - ((ms.sum + m : Nat) : Int) by omega], by rw [es]; omega, fun i y m' h1 h2 => ?_⟩
        by_cases hi : i < acc.length
        · rw [List.getElem?_append_left hi] at h1
          rw [List.getElem?_append_left (by omega)] at h2
          exact k4 i y m' h1 h2
        · have hi2 : i = acc.length := by
            have := (List.getElem?_eq_some_iff.mp h1).1
            simp at this; omega
          subst hi2
          rw [List.getElem?_append_right (Nat.le_refl _)] at h1
          rw [k1, List.getElem?_append_right (Nat.le_refl _)] at h2
          simp at h1 h2
          subst h1; subst h2
          exact hv
  | recd fs =>
    simp only [Wf] at w
    simp only [dp] at hn
    have e1 : (sRec == sInt) = false := rfl
    have e2 : (sRec == sText) = false := rfl
    have e3 : (sRec == sBool) = false := rfl
    simp_arith [b_value, h2, h3, h4, h5, enc, e1, e2, e3, beq_self_eq_true]
    refine lcD_ind (fun xs acc H => ∃ (l ls : List (List Nat × Kd)) (m : Nat), xs = ls.map enc1 ∧ toL fs = l ++ ls ∧ H = updD G a (.lst [.int (r - (m : Nat))]) ∧ (m : Int) ≤ r ∧ OkVs (fsOf l) acc m) ?_ ?_ _ _ _ ⟨[], toL fs, 0, encs_eq fs, rfl, same.symm, by simp; exact hr.1, by simp [fsOf, OkVs]⟩
    · rintro acc H ⟨l, ls, m, hx, hl, rfl, hm, ok1⟩
      have : ls = [] := by cases ls <;> first | rfl | cases hx
      subst this
      rw [List.append_nil] at hl
      refine hQ _ m ?_ hm
      simp only [OkV]
      rw [← hl, fsOf_toL] at ok1
      exact ⟨acc, rfl, ok1⟩
    · rintro x xs acc ih H ⟨l, ls, m, hx, hl, rfl, hm, ok1⟩
      cases ls with
      | nil => cases hx
      | cons p ls =>
        rw [List.map_cons] at hx
        injection hx with hx1 hx2
        subst hx1; subst hx2
        have hp : p ∈ toL fs := by rw [hl]; simp
        have d2 := dps_eq p hp
        simp_arith [enc1]
        refine ⟨p.2, a, r - m, rfl, (wfs_eq w.2 p hp).2, by omega, updD_same, ⟨by omega, by omega⟩, fun v k hv hk => ?_⟩
        rw [updD_updD, show r - (m : Int) - (k : Int) = r - ((m + k : Nat) : Int) by omega]
        exact ih _ _ ⟨l ++ [p], ls, m + k, rfl, by rw [hl]; simp, rfl, by omega, okVs_app ok1 hv⟩
end DL

namespace DL
open PySem PySem.Spec PyProof.Rows L2
/-! ## 22. A choice -/
abbrev natD (c : List Nat) : List D := c.map fun (n : Nat) => D.int n
def ChOk (many : Nat) (c : List Nat) : Prop := c ≠ [] ∧ c.Pairwise (· < ·) ∧ ∀ x ∈ c, x < many
def spChoice : SpD := fun ds G Q _ => ∃ many : Nat, ds = [.rnd, .int many] ∧ (1 ≤ many ∧ many ≤ 1000) ∧ ∀ c, ChOk many c → Q (.tup (natD c)) G
def b_choice (dr : Nat) : Ss :=
 (.c (.set 2 (.call dr (.c (.var 0) (.c (.con (.int 4)) .n))))
 (.c (.ite (.cmp .eq (.var 2) (.con (.int 0))) (.c (.ret (.rg1 true true (.var 1)))
 .n) .n)
 (.c (.ite (.cmp .eq (.var 2) (.con (.int 1))) (.c (.ret (.tup (.c (.call dr (.c (.var 0) (.c (.var 1) .n))) .n)))
 .n) .n)
 (.c (.set 3 (.lc true (.var 4) (.n 4) (.rng (.c (.var 1) .n)) (.cmp .eq (.call dr (.c (.var 0) (.c (.con (.int 2)) .n))) (.con (.int 0))) [("k", 4)]))
 (.c (.ite (.nt (.of (.var 3))) (.c (.ret (.tup (.c (.bin true .sub (.var 1) (.con (.int 1))) .n)))
 .n) .n)
 (.c (.ret (.bf true .tuple (.c (.var 3) .n)))
 .n))))))
theorem rng_nat (n : Nat) : rngL (0, n, 1) = natD (List.range n) := by
  unfold rngL
  rw [rgF_eq]
  apply List.map_congr_left
  intro i _
  show D.int (0 + (i : Int)) = D.int (i : Int)
  rw [Int.zero_add]
theorem range_pw : ∀ n : Nat, (List.range n).Pairwise (· < ·) := fun n => List.pairwise_lt_range
theorem choice_ok {Γ : Gam} {dr : Nat} (h2 : Γ.sp dr = spDraw) (ds : List D) (G : HD) (QD : KD) (XD : KX) (h : spChoice ds G QD XD) : wSs Γ (b_choice dr) { nx := fun _ H => QD .non H, rt := QD, ex := fun x _ H => XD x H } (startD 5 ds) G := by
  obtain ⟨many, rfl, hm, hQ⟩ := h
  have hlim : lim = 16777216 := rfl
  simp_arith [b_choice, h2]
  refine ⟨_, rfl, by decide, fun r h0 h1 => ?_⟩
  simp_arith []
  cases (r == 0) with
  | true =>
    refine And.intro ⟨by omega, by omega⟩ (And.intro (by omega) ?_)
    rw [show ((many : Int) - 0).toNat = many by omega, rng_nat]
    exact hQ _ ⟨by intro z; rw [List.range_eq_nil] at z; omega, range_pw _, fun x hx => List.mem_range.mp hx⟩
  | false =>
    cases (r == 1) with
    | true =>
      refine ⟨_, rfl, ⟨by omega, by omega⟩, fun r h0 h1 => ?_⟩
      obtain ⟨k, rfl⟩ := Int.eq_ofNat_of_zero_le h0
      exact hQ [k] ⟨by simp, by simp, fun x hx => by rw [List.mem_singleton] at hx; omega⟩
    | false =>
      show ok (rngD [.int many]) _
      rw [q_rng1 ⟨by omega, by omega⟩, ok_some, Int.toNat_natCast]
      refine And.intro (by show many ≤ lim; omega) ?_
      rw [rng_nat]
      refine lcD_ind (fun xs acc H => H = G ∧ ∃ (c l : List Nat), xs = natD l ∧ acc = natD c ∧ (c ++ l).Pairwise (· < ·) ∧ (∀ x ∈ c ++ l, x < many)) ?_ ?_ _ _ _ ⟨rfl, [], List.range many, rfl, rfl, range_pw _, fun x hx => List.mem_range.mp hx⟩
      · rintro acc H ⟨rfl, c, l, hx, rfl, p1, p2⟩
        have : l = [] := by cases l <;> first | rfl | cases hx
        subst this
        rw [List.append_nil] at p1 p2
        simp_arith [List.length_map]
        cases c with
        | nil =>
          have := hQ [many - 1] ⟨by simp, by simp, fun x hx => by rw [List.mem_singleton] at hx; omega⟩
          have e : natD [many - 1] = [.int ((many : Int) - 1)] := by show [D.int ((many - 1 : Nat) : Int)] = _; congr 2; omega
          rw [e] at this
          exact this
        | cons x c => exact hQ (x :: c) ⟨by simp, p1, p2⟩
      · rintro x xs acc ih H ⟨rfl, c, l, hx, rfl, p1, p2⟩
        cases l with
        | nil => cases hx
        | cons y l =>
          have hx : x :: xs = D.int (y : Nat) :: natD l := hx
          injection hx with hx1 hx2
          subst hx1; subst hx2
          refine ⟨_, rfl, by decide, fun q q0 q1 => ?_⟩
          simp_arith []
          have drop : (c ++ l).Pairwise (· < ·) ∧ ∀ x ∈ c ++ l, x < many := by
            rw [List.pairwise_append] at p1 ⊢
            refine ⟨⟨p1.1, (List.pairwise_cons.mp p1.2.1).2, fun a ha b hb => p1.2.2 a ha b (List.mem_cons_of_mem _ hb)⟩, fun x hx => p2 x ?_⟩
            rcases List.mem_append.mp hx with h | h
            · exact List.mem_append_left _ h
            · exact List.mem_append_right _ (List.mem_cons_of_mem _ h)
          cases (q == 0) with
          | true => exact ih _ _ ⟨rfl, c ++ [y], l, rfl, by simp, by simpa using p1, by simpa using p2⟩
          | false => exact ih _ _ ⟨rfl, c, l, rfl, rfl, drop.1, drop.2⟩
end DL

namespace DL
open PySem PySem.Spec PyProof.Rows L2
/-! ## 23. _law_same, where live lists read as what is due -/
/-- t reads as d -/
def Rds : Nat → HD → D → D → Prop
  | 0, _, _, _ => False
  | n + 1, G, t, d => match d with
    | .non | .bl _ | .int _ | .str _ => t = d
    | .tup ds => ∃ ts, t = .tup ts ∧ ts.length = ds.length ∧ ds.length ≤ lim ∧ ∀ (i : Nat) (x y : D), ts[i]? = some x → ds[i]? = some y → Rds n G x y
    | .lst ds => ∃ ts, (t = .lst ts ∨ ∃ a, t = .ref a ∧ G a = some (.lst ts)) ∧ ts.length = ds.length ∧ ds.length ≤ lim ∧ ∀ (i : Nat) (x y : D), ts[i]? = some x → ds[i]? = some y → Rds n G x y
    | _ => False
def spSameR (n : Nat) : SpD := fun ds G Q _ => ∃ t d, ds = [t, d] ∧ Rds n G t d ∧ Q (.bl true) G
theorem sameR_ok {Γ : Gam} {sm n : Nat} (h4 : Γ.sp sm = spSameR n) (ds : List D) (G : HD) (QD : KD) (XD : KX) (h : spSameR (n + 1) ds G QD XD) : wSs Γ (b_same sm) { nx := fun _ H => QD .non H, rt := QD, ex := fun x _ H => XD x H } (startD 3 ds) G := by
  obtain ⟨t, d, rfl, hp, hQ⟩ := h
  have seqs : ∀ (t : D) (ts ds : List D), ts.length = ds.length → (∀ r : Int, idxD t (.int r) G = atI ts r) → (∀ (i : Nat) (x y : D), ts[i]? = some x → ds[i]? = some y → Rds n G x y) → ∀ (d : D), (∀ r : Int, idxD d (.int r) G = atI ds r) →
      lcD (fun x H2 K => ok (idxD t x H2) fun u => ok (idxD d x H2) fun v => spSameR n [u, v] H2 (fun w H4 => K (some w) H4) fun _ _ => False) (fun acc H2 => ok (blsOf acc) fun bs => QD (.bl (bs.all id)) H2) (rngL (0, ds.length, 1)) [] G := by
    intro t ts ds hl e1 hp d e2
    refine lcD_ind (fun xs acc H => H = G ∧ (∀ d ∈ acc, d = .bl true) ∧ ∀ x ∈ xs, ∃ k : Nat, x = .int k ∧ k < ds.length) ?_ ?_ _ _ _ ⟨rfl, fun _ h => (nomatch h), fun x hx => rng_mem hx⟩
    · rintro acc H ⟨rfl, h1, _⟩
      obtain ⟨bs, k1, k2⟩ := all_true h1
      rw [k1, ok_some, k2]
      exact hQ
    · rintro x xs acc ih H ⟨rfl, h1, h2⟩
      obtain ⟨k, rfl, hk⟩ := h2 x List.mem_cons_self
      rw [e1, e2, at_nat, at_nat, List.getElem?_eq_getElem hk, List.getElem?_eq_getElem (by omega), ok_some, ok_some]
      refine ⟨_, _, rfl, hp k _ _ (List.getElem?_eq_getElem (by omega)) (List.getElem?_eq_getElem hk), ih _ _ ⟨rfl, fun d hd => ?_, fun x hx => h2 x (List.mem_cons_of_mem _ hx)⟩⟩
      rcases List.mem_append.mp hd with hd | hd
      · exact h1 d hd
      · rw [List.mem_singleton] at hd; exact hd
  have rg : ∀ (es : List D), es.length ≤ lim → rngD [.int es.length] = some (0, es.length, 1) := fun es hl => by
    have : lim = 16777216 := rfl
    rw [q_rng1 ⟨by omega, by omega⟩, Int.toNat_natCast]
  cases d <;> try exact hp.elim
  · cases (show t = .non from hp)
    simp_arith [b_same, h4]; exact hQ
  · rename_i b
    cases (show t = .bl b from hp)
    simp_arith [b_same, h4, beq_self_eq_true]
    exact hQ
  · rename_i b
    cases (show t = .int b from hp)
    simp_arith [b_same, h4, beq_self_eq_true]
    exact hQ
  · rename_i b
    cases (show t = .str b from hp)
    simp_arith [b_same, h4, beq_self_eq_true]
    exact hQ
  · rename_i es
    obtain ⟨ts, rfl, hl, hz, hi⟩ := hp
    simp_arith [b_same, h4, hl, beq_self_eq_true]
    rw [rg es hz, ok_some]
    exact And.intro hz (seqs (.tup ts) ts es hl (fun _ => rfl) hi (.tup es) (fun _ => rfl))
  · rename_i es
    obtain ⟨ts, ht, hl, hz, hi⟩ := hp
    rcases ht with rfl | ⟨a, rfl, ha⟩
    · simp_arith [b_same, h4, hl, beq_self_eq_true]
      rw [rg es hz, ok_some]
      exact And.intro hz (seqs (.lst ts) ts es hl (fun _ => rfl) hi (.lst es) (fun _ => rfl))
    · simp_arith [b_same, h4, ha, hl, beq_self_eq_true]
      rw [rg es hz, ok_some]
      exact And.intro hz (seqs (.ref a) ts es hl (fun _ => by rw [q_idx_r, ha]) hi (.lst es) (fun _ => rfl))
theorem dpos (k : Kd) : 1 ≤ dp k := by cases k <;> simp [dp]
end DL

namespace DL
open PySem PySem.Spec PyProof.Rows L2
/-! ## 26. Columns: what stands in them -/
def trip (t l : Int) (v : D) : D := .tup [.int t, .int l, v]
def enl (f : Int → D → List D) (t s : Int) : List D → List D
  | [] => []
  | x :: xs => f t x ++ xs.flatMap (f (s + 1))
-- the entries of the i-th leaf
mutual
def en : Kd → Nat → D → Int → Int → Int → List D
  | .leaf _, _, v, t, l, _ => [trip t l v]
  | .one true a, i, v, t, l, s => match v with
    | .non => [trip t l .non]
    | v => en a i v t (l + 1) s
  | .one false a, i, v, t, l, s => match v with
    | .tup (x :: xs) => enl (fun t' y => en a i y t' (l + 1) (s + 1)) t s (x :: xs)
    | _ => [trip t l .non]
  | .recd fs, i, v, t, l, s => match v with
    | .tup vs => ens fs i vs t l s
    | _ => []
def ens : Fs → Nat → List D → Int → Int → Int → List D
  | .nil, _, _, _, _, _ => []
  | .cons _ k fs, i, vs, t, l, s => match vs with
    | v :: r => if i < (lv k).length then en k i v t l s else ens fs (i - (lv k).length) r t l s
    | [] => []
end
theorem enl_snoc (f : Int → D → List D) (t s : Int) (pre : List D) (y : D) : enl f t s (pre ++ [y]) = enl f t s pre ++ f (if pre.isEmpty then t else s + 1) y := by
  cases pre with
  | nil => simp [enl]
  | cons x xs => simp [enl]
theorem enl_app (f : Int → D → List D) (t s : Int) (pre post : List D) : ∃ r, enl f t s (pre ++ post) = enl f t s pre ++ r := by
  cases pre with
  | nil => exact ⟨enl f t s post, by simp [enl]⟩
  | cons x xs => exact ⟨post.flatMap (f (s + 1)), by simp [enl]⟩
theorem mem_le_sum : ∀ {l : List Nat} {x : Nat}, x ∈ l → x ≤ l.sum
  | [], _, h => nomatch h
  | y :: l, x, h => by
    rw [List.sum_cons]
    rcases List.mem_cons.mp h with rfl | h
    · omega
    · have := mem_le_sum h; omega
theorem okv_list {a : Kd} {v : D} {n : Nat} (h : OkV (.one false a) v n) : ∃ vs, v = .tup vs ∧ vs.length ≤ n ∧ ∀ x ∈ vs, ∃ m, m ≤ n ∧ OkV a x m := by
  simp only [OkV] at h
  obtain ⟨vs, ms, rfl, h1, h2, h3⟩ := h
  refine ⟨vs, rfl, by omega, fun x hx => ?_⟩
  obtain ⟨i, hi, e⟩ := List.mem_iff_getElem.mp hx
  have hm : i < ms.length := by omega
  have := mem_le_sum (List.getElem_mem hm)
  exact ⟨ms[i], by omega, h3 i x _ (by rw [← e]; exact List.getElem?_eq_getElem hi) (List.getElem?_eq_getElem hm)⟩
theorem okvs_len : ∀ {fs : Fs} {vs : List D} {n : Nat}, OkVs fs vs n → vs.length = (toL fs).length
  | .nil, vs, n, h => by simp only [OkVs] at h; subst h; rfl
  | .cons m k fs, vs, n, h => by
    simp only [OkVs] at h
    obtain ⟨v, r, a, b, rfl, _, _, h2⟩ := h
    simp only [toL, List.length_cons, okvs_len h2]
theorem okv_ne {k : Kd} {v : D} {n : Nat} (h : OkV k v n) (ho : isOpt k = false) : v ≠ .non := by
  rintro rfl
  cases k with
  | leaf k => simp only [OkV, LeafV] at h; rcases h with ⟨_, _, z, _⟩ | ⟨_, _, z, _⟩ | ⟨_, _, z⟩ <;> cases z
  | one o a =>
    cases o with
    | true => cases ho
    | false => simp only [OkV] at h; obtain ⟨_, _, z, _⟩ := h; cases z
  | recd fs => simp only [OkV] at h; obtain ⟨_, z, _⟩ := h; cases z
theorem is_val {v : D} {H : HD} (h : v ≠ .non) : cmpD .isn v .non H = some false := by
  cases v <;> first | rfl | exact absurd rfl h
theorem pys_all : ∀ {vs : List D}, (∀ x ∈ vs, ∃ y, py x = some y) → ∃ ys, pys vs = some ys
  | [], _ => ⟨[], by simp [pys]⟩
  | v :: vs, h => by
    obtain ⟨y, e⟩ := h v List.mem_cons_self
    obtain ⟨ys, e2⟩ := pys_all (vs := vs) fun x hx => h x (List.mem_cons_of_mem _ hx)
    exact ⟨y :: ys, by simp [pys, e, e2]⟩
mutual
theorem py_okv : ∀ k v n, OkV k v n → ∃ x, py v = some x
  | .leaf k, v, n, h => by
    simp only [OkV, LeafV] at h
    rcases h with ⟨_, i, rfl, _⟩ | ⟨_, i, rfl, _⟩ | ⟨_, i, rfl⟩ <;> (simp only [py]; exact ⟨_, rfl⟩)
  | .one true a, v, n, h => by
    simp only [OkV] at h
    rcases h with rfl | h
    · simp only [py]; exact ⟨_, rfl⟩
    · exact py_okv a v n h
  | .one false a, v, n, h => by
    obtain ⟨vs, rfl, _, h2⟩ := okv_list h
    obtain ⟨ys, e⟩ := pys_all (vs := vs) fun x hx => let ⟨m, _, q⟩ := h2 x hx; py_okv a x m q
    simp only [py, e]; exact ⟨_, rfl⟩
  | .recd fs, v, n, h => by
    simp only [OkV] at h
    obtain ⟨vs, rfl, h⟩ := h
    obtain ⟨ys, e⟩ := py_okvs fs vs n h
    simp only [py, e]; exact ⟨_, rfl⟩
theorem py_okvs : ∀ fs vs n, OkVs fs vs n → ∃ x, pys vs = some x
  | .nil, vs, n, h => by simp only [OkVs] at h; subst h; exact ⟨[], by simp only [pys]⟩
  | .cons m k fs, vs, n, h => by
    simp only [OkVs] at h
    obtain ⟨v, r, a, b, rfl, _, h1, h2⟩ := h
    obtain ⟨x, e⟩ := py_okv k v a h1
    obtain ⟨ys, e2⟩ := py_okvs fs r b h2
    simp only [pys, e, e2]; exact ⟨_, rfl⟩
end
theorem eq_nil {vs : List D} {G : HD} (h : ∃ ys, pys vs = some ys) : eqD (.tup vs) (.tup []) G = some vs.isEmpty := by
  obtain ⟨ys, e⟩ := h
  have d : ∀ x : PyData, min x.depth (PyData.tuple []).depth ≤ 64 := fun x => Nat.le_trans (Nat.min_le_right _ _) (by simp [PyData.depth, PyData.depthAll])
  simp only [eqD, pyT, py, pys, e]
  rw [if_pos (d _)]
  cases vs with
  | nil => simp [pys] at e; subst e; simp [PyData.eqv, PyData.eqvAll]
  | cons v vs =>
    cases ys with
    | nil =>
      simp only [pys] at e
      split at e <;> simp at e
    | cons y ys => simp [PyData.eqv, PyData.eqvAll]
theorem flat_len {f : D → List D} : ∀ {vs : List D} {ms : List Nat}, vs.length = ms.length → (∀ (i : Nat) (x : D) (m : Nat), vs[i]? = some x → ms[i]? = some m → (f x).length ≤ m + 1) → (vs.flatMap f).length ≤ vs.length + ms.sum
  | [], _, _, _ => by simp
  | v :: vs, [], h, _ => by simp at h
  | v :: vs, m :: ms, h, h2 => by
    have h1 := h2 0 v m rfl rfl
    have := flat_len (f := f) (vs := vs) (ms := ms) (by simpa using h) fun i x m a b => h2 (i + 1) x m (by simpa using a) (by simpa using b)
    rw [List.flatMap_cons, List.length_append, List.length_cons, List.sum_cons]; omega
mutual
theorem en_len : ∀ k i v n t l s, OkV k v n → (en k i v t l s).length ≤ n + 1
  | .leaf k, i, v, n, t, l, s, h => by simp [en]
  | .one true a, i, v, n, t, l, s, h => by
    simp only [OkV] at h
    by_cases hv : v = .non
    · subst hv; simp [en]
    · have := en_len a i v n t (l + 1) s (h.resolve_left hv)
      cases v <;> first | exact absurd rfl hv | simpa only [en] using this
  | .one false a, i, v, n, t, l, s, h => by
    simp only [OkV] at h
    obtain ⟨vs, ms, rfl, h1, h2, h3⟩ := h
    cases vs with
    | nil => simp [en]
    | cons v vs =>
      cases ms with
      | nil => simp at h1
      | cons m ms =>
        have q0 := en_len a i v m t (l + 1) (s + 1) (h3 0 v m rfl rfl)
        have q1 := flat_len (f := fun y => en a i y (s + 1) (l + 1) (s + 1)) (vs := vs) (ms := ms) (by simpa using h1) fun j x m' a1 b1 => en_len a i x m' (s + 1) (l + 1) (s + 1) (h3 (j + 1) x m' (by simpa using a1) (by simpa using b1))
        simp only [en, enl, List.length_append]
        simp only [List.length_cons, List.sum_cons] at h2
        omega
  | .recd fs, i, v, n, t, l, s, h => by
    simp only [OkV] at h
    obtain ⟨vs, rfl, h⟩ := h
    simp only [en]
    exact ens_len fs i vs n t l s h
theorem ens_len : ∀ fs i vs n t l s, OkVs fs vs n → (ens fs i vs t l s).length ≤ n + 1
  | .nil, i, vs, n, t, l, s, h => by simp [ens]
  | .cons m k fs, i, vs, n, t, l, s, h => by
    simp only [OkVs] at h
    obtain ⟨v, r, a, b, rfl, hab, h1, h2⟩ := h
    simp only [ens]
    split
    · have := en_len k i v a t l s h1; omega
    · have := ens_len fs (i - (lv k).length) r b t l s h2; omega
end
theorem trip_pl {t l : Int} {v : D} (h : Pl 1 v) : Pl 3 (trip t l v) := by
  have hlim : lim = 16777216 := rfl
  refine ⟨by show 3 ≤ lim; decide, fun x hx => ?_⟩
  simp only [List.mem_cons, List.not_mem_nil, or_false] at hx
  rcases hx with rfl | rfl | rfl
  · trivial
  · trivial
  · exact Pl.mono (n := 1) (m := 2) (by decide) h
theorem leafv_pl {k : List Nat} {v : D} (h : LeafV k v) : Pl 1 v := by
  rcases h with ⟨_, i, rfl, _⟩ | ⟨_, i, rfl, _⟩ | ⟨_, i, rfl⟩ <;> trivial
mutual
theorem en_pl : ∀ k i v n t l s, OkV k v n → ∀ e ∈ en k i v t l s, Pl 3 e
  | .leaf k, i, v, n, t, l, s, h, e, he => by
    simp only [OkV] at h
    simp only [en, List.mem_singleton] at he
    subst he
    exact trip_pl (leafv_pl h)
  | .one true a, i, v, n, t, l, s, h, e, he => by
    simp only [OkV] at h
    by_cases hv : v = .non
    · subst hv
      simp only [en, List.mem_singleton] at he
      subst he
      exact trip_pl trivial
    · have := en_pl a i v n t (l + 1) s (h.resolve_left hv) e
      cases v <;> first | exact absurd rfl hv | exact this (by simpa only [en] using he)
  | .one false a, i, v, n, t, l, s, h, e, he => by
    obtain ⟨vs, rfl, _, h2⟩ := okv_list h
    cases vs with
    | nil =>
      simp only [en, List.mem_singleton] at he
      subst he
      exact trip_pl trivial
    | cons v vs =>
      simp only [en, enl, List.mem_append, List.mem_flatMap] at he
      rcases he with he | ⟨x, hx, he⟩
      · obtain ⟨m, _, q⟩ := h2 v List.mem_cons_self
        exact en_pl a i v m _ _ _ q e he
      · obtain ⟨m, _, q⟩ := h2 x (List.mem_cons_of_mem _ hx)
        exact en_pl a i x m _ _ _ q e he
  | .recd fs, i, v, n, t, l, s, h, e, he => by
    simp only [OkV] at h
    obtain ⟨vs, rfl, h⟩ := h
    simp only [en] at he
    exact ens_pl fs i vs n t l s h e he
theorem ens_pl : ∀ fs i vs n t l s, OkVs fs vs n → ∀ e ∈ ens fs i vs t l s, Pl 3 e
  | .nil, i, vs, n, t, l, s, h, e, he => by simp [ens] at he
  | .cons m k fs, i, vs, n, t, l, s, h, e, he => by
    simp only [OkVs] at h
    obtain ⟨v, r, a, b, rfl, hab, h1, h2⟩ := h
    simp only [ens] at he
    split at he
    · exact en_pl k i v a t l s h1 e he
    · exact ens_pl fs (i - (lv k).length) r b t l s h2 e he
end
mutual
theorem okv_pl : ∀ k v n, OkV k v n → n ≤ 1000 → Wf k → Pl (dp k) v
  | .leaf k, v, n, h, _, _ => by simp only [OkV] at h; simp only [dp]; exact leafv_pl h
  | .one true a, v, n, h, hn, w => by
    simp only [OkV] at h
    simp only [Wf] at w
    simp only [dp]
    rcases h with rfl | h
    · trivial
    · exact Pl.mono (by omega) (okv_pl a v n h hn w.2)
  | .one false a, v, n, h, hn, w => by
    have hlim : lim = 16777216 := rfl
    obtain ⟨vs, rfl, h1, h2⟩ := okv_list h
    simp only [Wf] at w
    simp only [dp]
    exact ⟨by omega, fun x hx => let ⟨m, hm, q⟩ := h2 x hx; okv_pl a x m q (by omega) w.2⟩
  | .recd fs, v, n, h, hn, w => by
    have hlim : lim = 16777216 := rfl
    simp only [OkV] at h
    obtain ⟨vs, rfl, h⟩ := h
    simp only [Wf] at w
    simp only [dp]
    have := okvs_len h
    have := w.1.2.2
    exact ⟨by omega, okvs_pl fs vs n h hn w.2⟩
theorem okvs_pl : ∀ fs vs n, OkVs fs vs n → n ≤ 1000 → Wfs fs → ∀ x ∈ vs, Pl (dps fs) x
  | .nil, vs, n, h, _, _, x, hx => by simp only [OkVs] at h; subst h; cases hx
  | .cons m k fs, vs, n, h, hn, w, x, hx => by
    simp only [OkVs] at h
    obtain ⟨v, r, a, b, rfl, hab, h1, h2⟩ := h
    simp only [Wfs] at w
    simp only [dps]
    rcases List.mem_cons.mp hx with rfl | hx
    · exact Pl.mono (by omega) (okv_pl k x a h1 (by omega) w.2.1)
    · exact Pl.mono (by omega) (okvs_pl fs r b h2 (by omega) w.2.2 x hx)
end
theorem rds_refl : ∀ {n : Nat} {G : HD} {d : D}, Pl n d → Rds n G d d
  | 0, _, _, h => h.elim
  | n + 1, G, d, h => by
    cases d <;> first | exact h.elim | rfl | skip
    · exact ⟨_, rfl, rfl, h.1, fun i x y hx hy => by rw [hx] at hy; cases hy; exact rds_refl (h.2 x (List.mem_of_getElem? hx))⟩
    · exact ⟨_, .inl rfl, rfl, h.1, fun i x y hx hy => by rw [hx] at hy; cases hy; exact rds_refl (h.2 x (List.mem_of_getElem? hx))⟩
theorem idx_field : ∀ {l : List (List Nat × Kd)} {j : Nat} {p : List Nat × Kd}, (l.map Prod.fst).Nodup → l[j]? = some p → (l.map fun q => D.str q.1).findIdx? (fun z => eqF z (.str p.1)) = some j
  | [], _, _, _, h => by simp at h
  | q :: l, 0, p, nd, h => by
    simp at h; subst h
    rw [List.map_cons, List.findIdx?_cons]
    simp [eqF]
  | q :: l, j + 1, p, nd, h => by
    rw [List.map_cons, List.nodup_cons] at nd
    simp at h
    have ne : (q.1 == p.1) = false := by
      rw [beq_eq_false_iff_ne]
      intro e
      exact nd.1 (List.mem_map.mpr ⟨p, List.mem_of_getElem? h, e.symm⟩)
    rw [List.map_cons, List.findIdx?_cons, idx_field nd.2 h]
    simp [eqF, ne]
theorem ens_at : ∀ (fs : Fs) (vs : List D) (n i : Nat) (lf : Lf), OkVs fs vs n → (lvs fs)[i]? = some lf → ∃ (j : Nat) (p : List Nat × Kd) (w : D) (i' : Nat) (lf' : Lf) (m : Nat),
    (toL fs)[j]? = some p ∧ vs[j]? = some w ∧ lf.p = p.1 :: lf'.p ∧ (lv p.2)[i']? = some lf' ∧ OkV p.2 w m ∧ m ≤ n ∧ ∀ t l s, ens fs i vs t l s = en p.2 i' w t l s
  | .nil, vs, n, i, lf, h, e => by simp [lvs] at e
  | .cons nm k fs, vs, n, i, lf, h, e => by
    simp only [OkVs] at h
    obtain ⟨v, r, a, b, rfl, hab, h1, h2⟩ := h
    simp only [lvs] at e
    by_cases hi : i < (lv k).length
    · rw [List.getElem?_append_left (by rw [List.length_map]; exact hi), List.getElem?_map, List.getElem?_eq_getElem hi] at e
      simp only [Option.map_some, Option.some.injEq] at e
      subst e
      exact ⟨0, (nm, k), v, i, (lv k)[i], a, rfl, rfl, rfl, List.getElem?_eq_getElem hi, h1, by omega, fun t l s => by simp only [ens]; rw [if_pos hi]⟩
    · rw [List.getElem?_append_right (by rw [List.length_map]; omega), List.length_map] at e
      obtain ⟨j, p, w, i', lf', m, q1, q2, q3, q4, q5, q6, q7⟩ := ens_at fs r b _ lf h2 e
      exact ⟨j + 1, p, w, i', lf', m, by simpa [toL] using q1, by simpa using q2, q3, q4, q5, by omega, fun t l s => by simp only [ens]; rw [if_neg hi, q7]⟩
/-! ### the law's own reading -/
theorem q_index_l {ds : List D} {d : D} {H : HD} {Q : KD} : mtD .index (.lst ds) [d] H Q = ((flatD d && ds.all flatD) = true ∧ ok (ds.findIdx? fun z => eqF z d) fun i => Q (.int (i : Nat)) H) := rfl
theorem q_rcv_index {ds : List D} {H : HD} : (rcv .index (.lst ds) H = true) = True := by simp [rcv, seqOf]
def pathD (p : List (List Nat)) : D := .tup (p.map .str)
def spEn (n : Nat) : SpD := fun ds G Q _ => ∃ k i lf v m t l s, ds = [enc k, pathD lf.p, v, .int t, .int l, .int s] ∧ Wf k ∧ OkV k v m ∧ m ≤ 1000 ∧ dp k ≤ n ∧ (lv k)[i]? = some lf ∧ Q (.lst (en k i v t l s)) G
def b_law_entries (l_entries : Nat) : Ss :=
 (.c (.ite (.cmp .inn (.idx (.var 0) (.con (.int 0))) (.tup (.c (.con (.str sInt)) (.c (.con (.str sText)) (.c (.con (.str sBool)) .n))))) (.c (.ret (.lst true (.c (.tup (.c (.var 3) (.c (.var 4) (.c (.var 2) .n)))) .n)))
 .n) .n)
 (.c (.ite (.cmp .eq (.idx (.var 0) (.con (.int 0))) (.con (.str sRec))) (.c (.set 6 (.mt .index (.lc true (.idx (.var 9) (.con (.int 0))) (.n 9) (.of (.idx (.var 0) (.con (.int 1)))) .yes [("field", 9)]) (.c (.idx (.var 1) (.con (.int 0))) .n)))
 (.c (.ret (.call l_entries (.c (.idx (.idx (.idx (.var 0) (.con (.int 1))) (.var 6)) (.con (.int 1))) (.c (.sl true (.var 1) (.con (.int 1)) .no) (.c (.idx (.var 2) (.var 6)) (.c (.var 3) (.c (.var 4) (.c (.var 5) .n))))))))
 .n)) .n)
 (.c (.ite (.bo false (.c (.cmp .isn (.var 2) (.con .non)) (.c (.bo true (.c (.cmp .eq (.idx (.var 0) (.con (.int 0))) (.con (.str sList))) (.c (.cmp .eq (.bf true .len (.c (.var 2) .n)) (.con (.int 0))) .n))) .n))) (.c (.ret (.lst true (.c (.tup (.c (.var 3) (.c (.var 4) (.c (.con .non) .n)))) .n)))
 .n) .n)
 (.c (.ite (.cmp .eq (.idx (.var 0) (.con (.int 0))) (.con (.str sOpt))) (.c (.ret (.call l_entries (.c (.idx (.var 0) (.con (.int 1))) (.c (.var 1) (.c (.var 2) (.c (.var 3) (.c (.bin true .add (.var 4) (.con (.int 1))) (.c (.var 5) .n))))))))
 .n) .n)
 (.c (.set 7 (.lst false .n))
 (.c (.for_ (.n 8) (.of (.var 2)) (.c (.ex (.mt .extend (.var 7) (.c (.call l_entries (.c (.idx (.var 0) (.con (.int 1))) (.c (.var 1) (.c (.var 8) (.c (.var 3) (.c (.bin true .add (.var 4) (.con (.int 1))) (.c (.bin true .add (.var 5) (.con (.int 1))) .n))))))) .n)))
 (.c (.set 3 (.bin true .add (.var 5) (.con (.int 1))))
 .n)))
 (.c (.ret (.frz (.var 7)))
 .n)))))))
theorem entries_ok {Γ : Gam} {le n : Nat} (h1 : Γ.sp le = spEn n) (ds : List D) (G : HD) (QD : KD) (XD : KX) (h : spEn (n + 1) ds G QD XD) :
    wSs Γ (b_law_entries le) { nx := fun _ H => QD .non H, rt := QD, ex := fun x _ H => XD x H } (startD 10 ds) G := by
  obtain ⟨k, i, lf, v, m, t, l, s, rfl, w, hv, hm, hn, hlf, hQ⟩ := h
  have hlim : lim = 16777216 := rfl
  cases k with
  | leaf k =>
    have hQ : QD (.lst [trip t l v]) G := by simpa only [en] using hQ
    simp_arith [b_law_entries, h1, enc, leaf_in w]
    exact hQ
  | recd fs =>
    simp only [OkV] at hv
    obtain ⟨vs, rfl, hv⟩ := hv
    simp only [lv] at hlf
    simp only [dp] at hn
    simp only [Wf] at w
    obtain ⟨j, p, x, i', lf', m', q1, q2, q3, q4, q5, q6, q7⟩ := ens_at fs vs m i lf hv hlf
    simp only [en, q7] at hQ
    have hp : p ∈ toL fs := List.mem_of_getElem? q1
    have e1 : atI (encs fs) ((j : Nat) : Int) = some (enc1 p) := by rw [at_nat, encs_eq, List.getElem?_map, q1]; rfl
    have e2 : atI vs ((j : Nat) : Int) = some x := by rw [at_nat, q2]
    have e3 : cutL (D.str p.1 :: lf'.p.map .str) (some 1) none = lf'.p.map .str := by
      rw [cut_suf ⟨by decide, by simp; omega⟩]; rfl
    rw [q3]
    simp_arith [b_law_entries, h1, enc, rec_in, beq_self_eq_true, pathD]
    refine lcD_ind (fun xs acc H => H = G ∧ ∃ a b : List (List Nat × Kd), xs = b.map enc1 ∧ toL fs = a ++ b ∧ acc = a.map fun q => .str q.1) ?_ ?_ _ _ _ ⟨rfl, [], toL fs, encs_eq fs, rfl, rfl⟩
    · rintro acc H ⟨rfl, a, b, hx, hl, rfl⟩
      have : b = [] := by cases b <;> first | rfl | cases hx
      subst this
      rw [List.append_nil] at hl
      subst hl
      simp_arith [q_index_l, q_rcv_index]
      refine ⟨by simp [flatD], ?_⟩
      rw [idx_field w.1.2.1 q1]
      simp_arith [e1, e2, e3, enc1]
      exact ⟨p.2, i', lf', x, m', t, l, s, rfl, (wfs_eq w.2 p hp).2, q5, by omega, by have := dps_eq p hp; omega, q4, hQ⟩
    · rintro x xs acc ih H ⟨rfl, a, b, hx, hl, rfl⟩
      cases b with
      | nil => cases hx
      | cons q b =>
        rw [List.map_cons] at hx
        injection hx with hx1 hx2
        subst hx1; subst hx2
        simp_arith [enc1]
        exact ih _ _ ⟨rfl, a ++ [q], b, rfl, by rw [hl]; simp, by simp⟩
  | one o a =>
    simp only [dp] at hn
    simp only [Wf] at w
    have hlf' : ∃ lf', (lv a)[i]? = some lf' ∧ lf.p = lf'.p := by
      simp only [lv, List.getElem?_map] at hlf
      cases z : (lv a)[i]? with
      | none => rw [z] at hlf; cases hlf
      | some q => rw [z] at hlf; simp only [Option.map_some, Option.some.injEq] at hlf; subst hlf; exact ⟨q, rfl, rfl⟩
    obtain ⟨lf', hl', ep⟩ := hlf'
    rw [ep]
    cases o with
    | true =>
      have o1 : (sOne true == sList) = false := rfl
      have o2 : (sOne true == sOpt) = true := rfl
      by_cases hz : v = .non
      · subst hz
        have hQ : QD (.lst [trip t l .non]) G := by simpa only [en] using hQ
        simp_arith [b_law_entries, h1, enc, one_in, one_nr, o1, o2, pathD]
        exact hQ
      · simp only [OkV] at hv
        have hv := hv.resolve_left hz
        have hQ : QD (.lst (en a i v t (l + 1) s)) G := by cases v <;> first | exact absurd rfl hz | simpa only [en] using hQ
        have isv : ∀ H, cmpD .isn v .non H = some false := fun H => is_val hz
        simp_arith [b_law_entries, h1, enc, one_in, one_nr, o1, o2, pathD, isv]
        exact ⟨a, i, lf', v, m, t, l + 1, s, rfl, w.2, hv, hm, by omega, hl', hQ⟩
    | false =>
      have o1 : (sOne false == sList) = true := rfl
      have o2 : (sOne false == sOpt) = false := rfl
      have hlen := en_len _ i v m t l s hv
      obtain ⟨vs, rfl, hvs, hall⟩ := okv_list hv
      cases vs with
      | nil =>
        have hQ : QD (.lst [trip t l .non]) G := by simpa only [en] using hQ
        have z0 : (((0 : Nat) : Int) == 0) = true := rfl
        simp_arith [b_law_entries, h1, enc, one_in, one_nr, o1, o2, pathD, z0]
        exact hQ
      | cons v0 vs =>
        have z0 : ((((vs.length + 1 : Nat)) : Int) == 0) = false := by rw [beq_eq_false_iff_ne]; omega
        simp only [en] at hQ hlen
        simp_arith [b_law_entries, h1, enc, one_in, one_nr, o1, o2, pathD, z0]
        intro p hp
        have e3 : ∀ x, delD (updD G p x) p = G := fun x => delD_updD hp
        refine wFor_ind (fun xs σ H => ∃ (pre : List D) (o8 : Option D), v0 :: vs = pre ++ xs ∧ H = updD G p (.lst (enl (fun t' y => en a i y t' (l + 1) (s + 1)) t s pre)) ∧
          σ = [some (.tup [.str (sOne false), enc a]), some (.tup (lf'.p.map .str)), some (.tup (v0 :: vs)), some (.int (if pre.isEmpty then t else s + 1)), some (.int l), some (.int s), none, some (.ref p), o8, none]) ?_ ?_ _ _ _
          ⟨[], none, rfl, rfl, rfl⟩
        · rintro σ H ⟨pre, o8, hx, rfl, rfl⟩
          rw [List.append_nil] at hx
          simp_arith [updD_same, e3]
          rw [← hx]
          exact hQ
        · rintro x xs ih σ H ⟨pre, o8, hx, rfl, rfl⟩
          obtain ⟨m', hm', hx'⟩ := hall x (by rw [hx]; simp)
          have hsn := enl_snoc (fun t' y => en a i y t' (l + 1) (s + 1)) t s pre x
          obtain ⟨r, hr⟩ := enl_app (fun t' y => en a i y t' (l + 1) (s + 1)) t s (pre ++ [x]) xs
          rw [List.append_assoc, List.singleton_append, ← hx, hsn] at hr
          rw [hr] at hlen
          simp only [List.length_append] at hlen
          simp_arith [updD_same, updD_updD]
          refine ⟨a, i, lf', x, m', _, _, _, rfl, w.2, hx', by omega, by omega, hl', ?_⟩
          simp_arith [updD_same, updD_updD]
          refine ⟨by omega, ih _ _ ⟨pre ++ [x], some x, by rw [hx]; simp, by rw [hsn], by simp⟩⟩
def b_law_column (l_entries : Nat) : Ss :=
 (.c (.set 3 (.lst false .n))
 (.c (.for_ (.n 4) (.of (.var 2)) (.c (.ex (.mt .extend (.var 3) (.c (.call l_entries (.c (.var 0) (.c (.var 1) (.c (.var 4) (.c (.con (.int 0)) (.c (.con (.int 0)) (.c (.con (.int 0)) .n))))))) .n)))
 .n))
 (.c (.ret (.frz (.var 3)))
 .n)))
abbrev RowsOk (fs : Fs) (rows : List D) : Prop := rows.length ≤ 16 ∧ ∀ r ∈ rows, ∃ m, m ≤ 1000 ∧ OkV (.recd fs) r m
def col (k : Kd) (i : Nat) (rows : List D) : List D := rows.flatMap fun r => en k i r 0 0 0
theorem col_len {fs : Fs} {i : Nat} : ∀ {rows : List D}, (∀ r ∈ rows, ∃ m, m ≤ 1000 ∧ OkV (.recd fs) r m) → (col (.recd fs) i rows).length ≤ rows.length * 1001
  | [], _ => by simp [col]
  | r :: rows, h => by
    obtain ⟨m, hm, q⟩ := h r List.mem_cons_self
    have h1 := en_len _ i r m 0 0 0 q
    have h2 := col_len (i := i) (rows := rows) fun x hx => h x (List.mem_cons_of_mem _ hx)
    unfold col at h2 ⊢
    rw [List.flatMap_cons, List.length_append, List.length_cons]; omega
theorem col_snoc {k : Kd} {i : Nat} {rows : List D} {r : D} : col k i (rows ++ [r]) = col k i rows ++ en k i r 0 0 0 := by simp [col]
def spColumn : SpD := fun ds G Q _ => ∃ fs i lf rows, ds = [enc (.recd fs), pathD lf.p, .lst rows] ∧ Wf (.recd fs) ∧ dp (.recd fs) ≤ 10 ∧ RowsOk fs rows ∧ (lv (.recd fs))[i]? = some lf ∧ Q (.lst (col (.recd fs) i rows)) G
theorem column_ok {Γ : Gam} {le : Nat} (h1 : Γ.sp le = spEn 10) (ds : List D) (G : HD) (QD : KD) (XD : KX) (h : spColumn ds G QD XD) :
    wSs Γ (b_law_column le) { nx := fun _ H => QD .non H, rt := QD, ex := fun x _ H => XD x H } (startD 5 ds) G := by
  obtain ⟨fs, i, lf, rows, rfl, w, hd', hr, hlf, hQ⟩ := h
  have hlim : lim = 16777216 := rfl
  generalize hE : enc (.recd fs) = E
  simp_arith [b_law_column, h1, pathD]
  intro p hp
  have e3 : ∀ x, delD (updD G p x) p = G := fun x => delD_updD hp
  refine wFor_ind (fun xs σ H => ∃ (pre : List D) (o4 : Option D), rows = pre ++ xs ∧ H = updD G p (.lst (col (.recd fs) i pre)) ∧ σ = [some E, some (.tup (lf.p.map .str)), some (.lst rows), some (.ref p), o4]) ?_ ?_ _ _ _ ⟨[], none, rfl, rfl, rfl⟩
  · rintro σ H ⟨pre, o4, hx, rfl, rfl⟩
    rw [List.append_nil] at hx
    simp_arith [updD_same, e3]
    rw [← hx]
    exact hQ
  · rintro x xs ih σ H ⟨pre, o4, hx, rfl, rfl⟩
    obtain ⟨m, hm, q⟩ := hr.2 x (by rw [hx]; simp)
    have h2 := en_len _ i x m 0 0 0 q
    have hpre : ∀ r ∈ pre, ∃ m, m ≤ 1000 ∧ OkV (.recd fs) r m := fun r h => hr.2 r (by rw [hx]; exact List.mem_append_left _ h)
    have h3 := col_len (i := i) hpre
    have h4 : pre.length ≤ 16 := by have := hr.1; rw [hx, List.length_append] at this; omega
    simp_arith [updD_same, updD_updD]
    refine ⟨.recd fs, i, lf, x, m, 0, 0, 0, by rw [hE]; rfl, w, q, hm, hd', hlf, ?_⟩
    simp_arith [updD_same, updD_updD]
    refine ⟨by omega, ih _ _ ⟨pre ++ [x], _, by rw [hx]; simp, by rw [col_snoc], rfl⟩⟩
def b_law_paths (l_leaves : Nat) : Ss :=
 (.c (.set 2 (.call l_leaves (.c (.var 0) .n)))
 (.c (.ret (.lc true (.idx (.idx (.var 2) (.var 3)) (.con (.int 0))) (.n 3) (.of (.var 1)) .yes [("k", 3)]))
 .n))
def spPaths : SpD := fun ds G Q _ => ∃ k c, ds = [enc k, .tup (natD c)] ∧ Wf k ∧ dp k ≤ 10 ∧ (lv k).length ≤ 1000 ∧ (∀ x ∈ c, x < (lv k).length) ∧
  ∀ ls : List Lf, ls.length = c.length → (∀ (j x : Nat) (lf : Lf), c[j]? = some x → ls[j]? = some lf → (lv k)[x]? = some lf) → Q (.lst (ls.map fun l => pathD l.p)) G
theorem paths_ok {Γ : Gam} {ll : Nat} (h1 : Γ.sp ll = spLv 10) (ds : List D) (G : HD) (QD : KD) (XD : KX) (h : spPaths ds G QD XD) :
    wSs Γ (b_law_paths ll) { nx := fun _ H => QD .non H, rt := QD, ex := fun x _ H => XD x H } (startD 4 ds) G := by
  obtain ⟨k, c, rfl, w, hd', hl, hc, hQ⟩ := h
  generalize hE : enc k = E
  simp_arith [b_law_paths, h1]
  refine ⟨k, by rw [hE], w, hd', by omega, hl, ?_⟩
  simp_arith []
  refine lcD_ind (fun xs acc H => H = G ∧ ∃ (a b : List Nat) (ls : List Lf), xs = natD b ∧ c = a ++ b ∧ acc = ls.map (fun l => pathD l.p) ∧ ls.length = a.length ∧ ∀ (j x : Nat) (lf : Lf), a[j]? = some x → ls[j]? = some lf → (lv k)[x]? = some lf) ?_ ?_ _ _ _ ⟨rfl, [], c, [], rfl, rfl, rfl, rfl, fun j x lf h => by simp at h⟩
  · rintro acc H ⟨rfl, a, b, ls, hx, hl', rfl, hz, hall⟩
    have : b = [] := by cases b <;> first | rfl | cases hx
    subst this
    rw [List.append_nil] at hl'
    subst hl'
    exact hQ ls hz hall
  · rintro x xs acc ih H ⟨rfl, a, b, ls, hx, hl', rfl, hz, hall⟩
    cases b with
    | nil => cases hx
    | cons y b =>
      have hx : x :: xs = D.int (y : Nat) :: natD b := hx
      injection hx with hx1 hx2
      subst hx1; subst hx2
      have hy := hc y (by rw [hl']; simp)
      have e : atI ((lv k).map Lf.d) ((y : Nat) : Int) = some ((lv k)[y]).d := by rw [at_nat, List.getElem?_map, List.getElem?_eq_getElem hy]; rfl
      simp_arith [e, Lf.d]
      refine ih _ _ ⟨rfl, a ++ [y], b, ls ++ [(lv k)[y]], rfl, by rw [hl']; simp, by simp [pathD], by simp [hz], fun j x lf q1 q2 => ?_⟩
      by_cases hj : j < a.length
      · rw [List.getElem?_append_left hj] at q1
        rw [List.getElem?_append_left (by omega)] at q2
        exact hall j x lf q1 q2
      · have hj2 : j = a.length := by
          have := (List.getElem?_eq_some_iff.mp q1).1
          simp at this; omega
        subst hj2
        rw [List.getElem?_append_right (Nat.le_refl _)] at q1
        rw [← hz, List.getElem?_append_right (Nat.le_refl _)] at q2
        simp at q1 q2
        subst q1; subst q2
        exact List.getElem?_eq_getElem hy
def b_law_columns (l_column l_paths : Nat) : Ss :=
 (.c (.ret (.bf true .tuple (.c (.lc true (.call l_column (.c (.var 0) (.c (.var 3) (.c (.var 2) .n)))) (.n 3) (.of (.call l_paths (.c (.var 0) (.c (.var 1) .n)))) .yes [("path", 3)]) .n)))
 .n)
def spColumns : SpD := fun ds G Q _ => ∃ fs c rows, ds = [enc (.recd fs), .tup (natD c), .lst rows] ∧ Wf (.recd fs) ∧ dp (.recd fs) ≤ 10 ∧ (lv (.recd fs)).length ≤ 1000 ∧ (∀ x ∈ c, x < (lv (.recd fs)).length) ∧ RowsOk fs rows ∧
  Q (.tup (c.map fun x => .lst (col (.recd fs) x rows))) G
theorem columns_ok {Γ : Gam} {lc lp : Nat} (h1 : Γ.sp lc = spColumn) (h2 : Γ.sp lp = spPaths) (ds : List D) (G : HD) (QD : KD) (XD : KX) (h : spColumns ds G QD XD) :
    wSs Γ (b_law_columns lc lp) { nx := fun _ H => QD .non H, rt := QD, ex := fun x _ H => XD x H } (startD 4 ds) G := by
  obtain ⟨fs, c, rows, rfl, w, hd', hl, hc, hr, hQ⟩ := h
  generalize hE : enc (.recd fs) = E
  simp_arith [b_law_columns, h1, h2]
  refine ⟨.recd fs, c, by rw [hE], w, hd', hl, hc, fun ls hz hall => ?_⟩
  simp_arith []
  refine lcD_ind (fun xs acc H => H = G ∧ ∃ (a b : List Nat) (qs : List Lf), xs = qs.map (fun l => pathD l.p) ∧ c = a ++ b ∧ acc = a.map (fun x => .lst (col (.recd fs) x rows)) ∧ qs.length = b.length ∧ ∀ (j x : Nat) (lf : Lf), b[j]? = some x → qs[j]? = some lf → (lv (.recd fs))[x]? = some lf) ?_ ?_ _ _ _ ⟨rfl, [], c, ls, rfl, rfl, rfl, hz, hall⟩
  · rintro acc H ⟨rfl, a, b, qs, hx, hl', rfl, hz, _⟩
    have : qs = [] := by cases qs <;> first | rfl | cases hx
    subst this
    have : b = [] := List.length_eq_zero_iff.mp hz.symm
    subst this
    rw [List.append_nil] at hl'
    subst hl'
    exact hQ
  · rintro x xs acc ih H ⟨rfl, a, b, qs, hx, hl', rfl, hz, hall⟩
    cases qs with
    | nil => cases hx
    | cons q qs =>
      rw [List.map_cons] at hx
      injection hx with hx1 hx2
      subst hx1; subst hx2
      cases b with
      | nil => simp at hz
      | cons y b =>
        refine ⟨fs, y, q, rows, by rw [hE], w, hd', hr, hall 0 y q rfl rfl, ?_⟩
        exact ih _ _ ⟨rfl, a ++ [y], b, qs, rfl, by rw [hl']; simp, by simp, by simpa using hz, fun j x lf q1 q2 => hall (j + 1) x lf (by simpa using q1) (by simpa using q2)⟩
def b_law_table (l_draw l_value : Nat) : Ss :=
 (.c (.set 2 (.lst false (.c (.idx (.lst true (.c (.con (.int 4)) (.c (.con (.int 12)) (.c (.con (.int 30)) .n)))) (.call l_draw (.c (.var 0) (.c (.con (.int 3)) .n)))) .n)))
 (.c (.set 3 (.idx (.lst true (.c (.con (.int 0)) (.c (.con (.int 1)) (.c (.con (.int 2)) (.c (.con (.int 3)) (.c (.con (.int 5)) (.c (.con (.int 8)) .n))))))) (.call l_draw (.c (.var 0) (.c (.con (.int 6)) .n)))))
 (.c (.ret (.lc true (.call l_value (.c (.var 0) (.c (.var 1) (.c (.var 2) .n)))) (.n 4) (.rng (.c (.var 3) .n)) .yes [("k", 4)]))
 .n)))
def spTable : SpD := fun ds G Q _ => ∃ fs, ds = [.rnd, enc (.recd fs)] ∧ Wf (.recd fs) ∧ dp (.recd fs) ≤ 10 ∧ ∀ p rows (r : Int), G p = none → rows.length ≤ 8 → (∀ x ∈ rows, ∃ m, m ≤ 30 ∧ OkV (.recd fs) x m) → Q (.lst rows) (updD G p (.lst [.int r]))
theorem table_ok {Γ : Gam} {dr vl : Nat} (h1 : Γ.sp dr = spDraw) (h2 : Γ.sp vl = spValue 10) (ds : List D) (G : HD) (QD : KD) (XD : KX) (h : spTable ds G QD XD) :
    wSs Γ (b_law_table dr vl) { nx := fun _ H => QD .non H, rt := QD, ex := fun x _ H => XD x H } (startD 5 ds) G := by
  obtain ⟨fs, rfl, w, hd', hQ⟩ := h
  have hlim : lim = 16777216 := rfl
  generalize hE : enc (.recd fs) = E
  simp_arith [b_law_table, h1, h2]
  refine ⟨_, rfl, by decide, fun r h0 h1 => ?_⟩
  obtain ⟨d, hd4, e⟩ := get_in (rows := [.int 4, .int 12, .int 30]) h0 h1
  have hc : ∃ m : Int, d = .int m ∧ 0 ≤ m ∧ m ≤ 30 := by
    simp only [List.mem_cons, List.not_mem_nil, or_false] at hd4
    rcases hd4 with rfl | rfl | rfl <;> exact ⟨_, rfl, by decide, by decide⟩
  obtain ⟨c, rfl, c1, c2⟩ := hc
  simp_arith [e]
  intro p hp
  refine ⟨_, rfl, by decide, fun r h0 h1 => ?_⟩
  obtain ⟨d, hd4, e⟩ := get_in (rows := [.int 0, .int 1, .int 2, .int 3, .int 5, .int 8]) h0 h1
  have hc : ∃ m : Int, d = .int m ∧ 0 ≤ m ∧ m ≤ 8 := by
    simp only [List.mem_cons, List.not_mem_nil, or_false] at hd4
    rcases hd4 with rfl | rfl | rfl | rfl | rfl | rfl <;> exact ⟨_, rfl, by decide, by decide⟩
  obtain ⟨c', rfl, c3, c4⟩ := hc
  simp_arith [e]
  rw [q_rng1 ⟨by omega, by omega⟩, ok_some]
  refine And.intro (by show c'.toNat ≤ lim; omega) ?_
  refine lcD_ind (fun xs acc H => acc.length + xs.length = c'.toNat ∧ (∀ x ∈ acc, ∃ m, m ≤ 30 ∧ OkV (.recd fs) x m) ∧ ∃ r : Int, H = updD G p (.lst [.int r]) ∧ 0 ≤ r ∧ r ≤ 30) ?_ ?_ _ _ _ ⟨by have : (rngL (0, c'.toNat, 1)).length = c'.toNat := rngF_len _ _ _; rw [this]; simp, fun _ h => (nomatch h), c, rfl, c1, c2⟩
  · rintro acc H ⟨k1, k2, r, rfl, _, _⟩
    exact hQ p acc r hp (by simp at k1; omega) k2
  · rintro x xs acc ih H ⟨k1, k2, r, rfl, r1, r2⟩
    simp_arith []
    refine ⟨.recd fs, p, r, by rw [hE], w, hd', updD_same, ⟨r1, by omega⟩, fun v m hv hm => ?_⟩
    rw [updD_updD]
    refine ih _ _ ⟨by simp at k1 ⊢; omega, fun y hy => ?_, _, rfl, by omega, by omega⟩
    rcases List.mem_append.mp hy with hy | hy
    · exact k2 y hy
    · rw [List.mem_singleton] at hy; subst hy; exact ⟨m, by omega, hv⟩
end DL

namespace DL
open PySem PySem.Spec PyProof.Rows L2
/-! ## 28. A choice of leaves, plain -/
def anyP (P : Nat → Bool) (f n : Nat) : Bool := (List.range n).any fun i => P (f + i)
theorem anyP_iff {P : Nat → Bool} {f n : Nat} : anyP P f n = true ↔ ∃ i, f ≤ i ∧ i < f + n ∧ P i = true := by
  unfold anyP
  rw [List.any_eq_true]
  constructor
  · rintro ⟨i, hi, hp⟩
    have := List.mem_range.mp hi
    exact ⟨f + i, by omega, by omega, hp⟩
  · rintro ⟨i, h1, h2, hp⟩
    exact ⟨i - f, List.mem_range.mpr (by omega), by rw [show f + (i - f) = i by omega]; exact hp⟩
mutual
def chs (P : Nat → Bool) : Kd → Nat → Kd
  | .leaf k, _ => .leaf k
  | .one o a, f => .one o (chs P a f)
  | .recd fs, f => .recd (chss P fs f)
def chss (P : Nat → Bool) : Fs → Nat → Fs
  | .nil, _ => .nil
  | .cons n k fs, f => if anyP P f (lv k).length = true then .cons n (chs P k f) (chss P fs (f + (lv k).length)) else chss P fs (f + (lv k).length)
end
mutual
def wo (P : Nat → Bool) : Kd → Nat → D → D
  | .leaf _, _, v => v
  | .one true a, f, v => match v with
    | .non => .non
    | v => wo P a f v
  | .one false a, f, v => match v with
    | .tup vs => .tup (vs.map fun x => wo P a f x)
    | v => v
  | .recd fs, f, v => match v with
    | .tup vs => .tup (wos P fs f vs)
    | v => v
def wos (P : Nat → Bool) : Fs → Nat → List D → List D
  | .nil, _, _ => []
  | .cons _ k fs, f, vs => match vs with
    | v :: r => if anyP P f (lv k).length = true then wo P k f v :: wos P fs (f + (lv k).length) r else wos P fs (f + (lv k).length) r
    | [] => []
end
def cnt (P : Nat → Bool) : Nat → Nat
  | 0 => 0
  | n + 1 => cnt P n + (if P n = true then 1 else 0)
section
variable {P P1 P2 : Nat → Bool}
theorem cnt_mono {a : Nat} : ∀ {b : Nat}, a ≤ b → cnt P a ≤ cnt P b
  | 0, h => by have : a = 0 := by omega
               subst this; exact Nat.le_refl _
  | b + 1, h => by
    by_cases e : a = b + 1
    · subst e; exact Nat.le_refl _
    · exact Nat.le_trans (cnt_mono (b := b) (by omega)) (Nat.le_add_right _ _)
theorem cnt_none {f : Nat} : ∀ {n : Nat}, anyP P f n = false → cnt P (f + n) = cnt P f
  | 0, _ => rfl
  | n + 1, h => by
    have h1 : anyP P f n = false := by
      cases e : anyP P f n with
      | false => rfl
      | true =>
        obtain ⟨i, a, b, c⟩ := anyP_iff.mp e
        rw [anyP_iff.mpr ⟨i, a, by omega, c⟩] at h
        cases h
    have h2 : P (f + n) = false := by
      cases e : P (f + n) with
      | false => rfl
      | true => rw [anyP_iff.mpr ⟨f + n, by omega, by omega, e⟩] at h; cases h
    show cnt P (f + n) + (if P (f + n) = true then 1 else 0) = _
    rw [cnt_none h1, h2]; rfl
theorem cnt_step {i : Nat} (h : P i = true) : cnt P (i + 1) = cnt P i + 1 := by
  show cnt P i + _ = _
  rw [h]; rfl
theorem cnt_surj {f j : Nat} : ∀ {n : Nat}, cnt P f ≤ j → j < cnt P (f + n) → ∃ i, f ≤ i ∧ i < f + n ∧ P i = true ∧ cnt P i = j
  | 0, h1, h2 => by rw [Nat.add_zero] at h2; omega
  | n + 1, h1, h2 => by
    by_cases h : j < cnt P (f + n)
    · obtain ⟨i, a, b, c, d⟩ := cnt_surj h1 h
      exact ⟨i, a, by omega, c, d⟩
    · have h2 : j < cnt P (f + n) + (if P (f + n) = true then 1 else 0) := h2
      split at h2
      · rename_i hp
        exact ⟨f + n, by omega, by omega, hp, by omega⟩
      · omega
mutual
theorem lv_chs : ∀ (k : Kd) (f : Nat), anyP P f (lv k).length = true → cnt P f + (lv (chs P k f)).length = cnt P (f + (lv k).length)
  | .leaf k, f, h => by
    obtain ⟨i, a, b, c⟩ := anyP_iff.mp h
    simp only [lv, List.length_singleton] at b
    have : i = f := by omega
    subst this
    simp only [chs, lv, List.length_singleton]
    exact (cnt_step c).symm
  | .one o a, f, h => by
    simp only [lv, List.length_map] at h
    simp only [chs, lv, List.length_map]
    exact lv_chs a f h
  | .recd fs, f, h => by
    simp only [chs, lv]
    exact lvs_chss fs f
theorem lvs_chss : ∀ (fs : Fs) (f : Nat), cnt P f + (lvs (chss P fs f)).length = cnt P (f + (lvs fs).length)
  | .nil, f => by simp [chss, lvs]
  | .cons n k fs, f => by
    have h2 := lvs_chss fs (f + (lv k).length)
    simp only [chss, lvs, List.length_append, List.length_map]
    rw [show f + ((lv k).length + (lvs fs).length) = f + (lv k).length + (lvs fs).length by omega]
    cases e : anyP P f (lv k).length with
    | true =>
      have h1 := lv_chs k f e
      simp only [if_true, lvs, List.length_append, List.length_map]
      omega
    | false =>
      have h1 := cnt_none e
      simp only [Bool.false_eq_true, if_false]
      omega
end
def comb (P1 P2 : Nat → Bool) (i : Nat) : Bool := P1 i && P2 (cnt P1 i)
theorem any_comb {f n m : Nat} (h : cnt P1 f + m = cnt P1 (f + n)) : anyP P2 (cnt P1 f) m = anyP (comb P1 P2) f n := by
  rw [Bool.eq_iff_iff, anyP_iff, anyP_iff]
  constructor
  · rintro ⟨j, a, b, c⟩
    obtain ⟨i, h1, h2, h3, h4⟩ := cnt_surj a (by omega : j < cnt P1 (f + n))
    exact ⟨i, h1, h2, by unfold comb; rw [h3, h4, c]; rfl⟩
  · rintro ⟨i, a, b, c⟩
    unfold comb at c
    rw [Bool.and_eq_true] at c
    have h1 := cnt_mono (P := P1) a
    have h2 := cnt_mono (P := P1) (show i + 1 ≤ f + n by omega)
    have h3 := cnt_step c.1
    exact ⟨cnt P1 i, h1, by omega, c.2⟩
theorem comb_none {f n : Nat} (h : anyP P1 f n = false) : anyP (comb P1 P2) f n = false := by
  cases e : anyP (comb P1 P2) f n with
  | false => rfl
  | true =>
    obtain ⟨i, a, b, c⟩ := anyP_iff.mp e
    unfold comb at c
    rw [Bool.and_eq_true] at c
    rw [anyP_iff.mpr ⟨i, a, b, c.1⟩] at h
    cases h
mutual
theorem chs_chs : ∀ (k : Kd) (f : Nat), anyP P1 f (lv k).length = true → chs P2 (chs P1 k f) (cnt P1 f) = chs (comb P1 P2) k f
  | .leaf k, f, h => by simp only [chs]
  | .one o a, f, h => by
    simp only [lv, List.length_map] at h
    simp only [chs]
    rw [chs_chs a f h]
  | .recd fs, f, h => by
    simp only [chs]
    rw [chss_chss fs f]
theorem chss_chss : ∀ (fs : Fs) (f : Nat), chss P2 (chss P1 fs f) (cnt P1 f) = chss (comb P1 P2) fs f
  | .nil, f => by simp only [chss]
  | .cons n k fs, f => by
    have h2 := chss_chss fs (f + (lv k).length)
    simp only [chss]
    cases e : anyP P1 f (lv k).length with
    | true =>
      have h1 := lv_chs k f e
      simp only [if_true, chss]
      rw [any_comb h1, h1, h2, chs_chs k f e]
    | false =>
      rw [comb_none e]
      have h1 := cnt_none e
      simp only [Bool.false_eq_true, if_false]
      rw [← h2, h1]
end
mutual
theorem okv_mono : ∀ (k : Kd) (v : D) (n m : Nat), n ≤ m → OkV k v n → OkV k v m
  | .leaf k, v, n, m, _, h => by simpa only [OkV] using h
  | .one true a, v, n, m, hm, h => by
    simp only [OkV] at h ⊢
    exact h.imp id (okv_mono a v n m hm)
  | .one false a, v, n, m, hm, h => by
    simp only [OkV] at h ⊢
    obtain ⟨vs, ms, h1, h2, h3, h4⟩ := h
    exact ⟨vs, ms, h1, h2, by omega, h4⟩
  | .recd fs, v, n, m, hm, h => by
    simp only [OkV] at h ⊢
    obtain ⟨vs, h1, h2⟩ := h
    exact ⟨vs, h1, okvs_mono fs vs n m hm h2⟩
theorem okvs_mono : ∀ (fs : Fs) (vs : List D) (n m : Nat), n ≤ m → OkVs fs vs n → OkVs fs vs m
  | .nil, vs, n, m, _, h => by simpa only [OkVs] using h
  | .cons x k fs, vs, n, m, hm, h => by
    simp only [OkVs] at h ⊢
    obtain ⟨v, r, a, b, h1, h2, h3, h4⟩ := h
    exact ⟨v, r, a, b, h1, by omega, h3, h4⟩
end
theorem wo_opt {a : Kd} {f : Nat} {v : D} (h : v ≠ .non) : wo P (.one true a) f v = wo P a f v := by
  cases v <;> first | exact absurd rfl h | simp only [wo]
mutual
theorem okv_wo : ∀ (k : Kd) (f : Nat) (v : D) (n : Nat), OkV k v n → OkV (chs P k f) (wo P k f v) n
  | .leaf k, f, v, n, h => by simpa only [chs, wo] using h
  | .one true a, f, v, n, h => by
    by_cases hv : v = .non
    · subst hv; simp only [chs, wo, OkV]; exact .inl trivial
    · rw [wo_opt hv]
      simp only [OkV] at h
      simp only [chs, OkV]
      exact .inr (okv_wo a f v n (h.resolve_left hv))
  | .one false a, f, v, n, h => by
    simp only [OkV] at h
    obtain ⟨vs, ms, rfl, h1, h2, h3⟩ := h
    simp only [chs, wo, OkV]
    refine ⟨_, ms, rfl, by rw [List.length_map]; exact h1, by rw [List.length_map]; exact h2, fun i x m hx hm => ?_⟩
    rw [List.getElem?_map] at hx
    cases e : vs[i]? with
    | none => rw [e] at hx; cases hx
    | some y =>
      rw [e] at hx
      simp only [Option.map_some, Option.some.injEq] at hx
      subst hx
      exact okv_wo a f y m (h3 i y m e hm)
  | .recd fs, f, v, n, h => by
    simp only [OkV] at h
    obtain ⟨vs, rfl, h⟩ := h
    simp only [chs, wo, OkV]
    exact ⟨_, rfl, okvs_wos fs f vs n h⟩
theorem okvs_wos : ∀ (fs : Fs) (f : Nat) (vs : List D) (n : Nat), OkVs fs vs n → OkVs (chss P fs f) (wos P fs f vs) n
  | .nil, f, vs, n, h => by simp only [chss, wos, OkVs]
  | .cons x k fs, f, vs, n, h => by
    simp only [OkVs] at h
    obtain ⟨v, r, a, b, rfl, hab, h1, h2⟩ := h
    have q := okvs_wos fs (f + (lv k).length) r b h2
    simp only [chss, wos]
    cases anyP P f (lv k).length with
    | true => simp only [if_true, OkVs]; exact ⟨_, _, a, b, rfl, hab, okv_wo k f v a h1, q⟩
    | false => simp only [Bool.false_eq_true, if_false]; exact okvs_mono _ _ b n (by omega) q
end
theorem wo_ne {k : Kd} {f : Nat} {v : D} {n : Nat} (h : OkV k v n) (ho : isOpt k = false) : wo P k f v ≠ .non := by
  have hv := okv_ne h ho
  cases k with
  | leaf k => simpa only [wo] using hv
  | one o a =>
    cases o with
    | true => cases ho
    | false => simp only [OkV] at h; obtain ⟨vs, _, rfl, _⟩ := h; simp only [wo]; exact fun z => nomatch z
  | recd fs => simp only [OkV] at h; obtain ⟨vs, rfl, _⟩ := h; simp only [wo]; exact fun z => nomatch z
mutual
theorem wo_wo : ∀ (k : Kd) (f : Nat) (v : D) (n : Nat), Wf k → OkV k v n → anyP P1 f (lv k).length = true → wo P2 (chs P1 k f) (cnt P1 f) (wo P1 k f v) = wo (comb P1 P2) k f v
  | .leaf k, f, v, n, _, _, _ => by simp only [chs, wo]
  | .one true a, f, v, n, w, h, hp => by
    by_cases hv : v = .non
    · subst hv; simp only [chs, wo]
    · simp only [OkV] at h
      simp only [Wf] at w
      simp only [lv, List.length_map] at hp
      have h := h.resolve_left hv
      rw [wo_opt hv, wo_opt hv]
      simp only [chs]
      rw [wo_opt (wo_ne h (by first | exact w.1 rfl | exact w.1 trivial)), wo_wo a f v n w.2 h hp]
  | .one false a, f, v, n, w, h, hp => by
    obtain ⟨vs, rfl, _, h2⟩ := okv_list h
    simp only [Wf] at w
    simp only [lv, List.length_map] at hp
    simp only [chs, wo, List.map_map]
    congr 1
    apply List.map_congr_left
    intro x hx
    obtain ⟨m, _, q⟩ := h2 x hx
    exact wo_wo a f x m w.2 q hp
  | .recd fs, f, v, n, w, h, hp => by
    simp only [OkV] at h
    obtain ⟨vs, rfl, h⟩ := h
    simp only [Wf] at w
    simp only [chs, wo]
    rw [wos_wos fs f vs n w.2 h]
theorem wos_wos : ∀ (fs : Fs) (f : Nat) (vs : List D) (n : Nat), Wfs fs → OkVs fs vs n → wos P2 (chss P1 fs f) (cnt P1 f) (wos P1 fs f vs) = wos (comb P1 P2) fs f vs
  | .nil, f, vs, n, _, _ => by simp only [chss, wos]
  | .cons x k fs, f, vs, n, w, h => by
    simp only [OkVs] at h
    obtain ⟨v, r, a, b, rfl, hab, h1, h2⟩ := h
    simp only [Wfs] at w
    have q := wos_wos fs (f + (lv k).length) r b w.2.2 h2
    simp only [chss, wos]
    cases e : anyP P1 f (lv k).length with
    | true =>
      have c := lv_chs k f e
      simp only [if_true, wos]
      rw [any_comb c, c, q, wo_wo k f v a w.2.1 h1 e]
    | false =>
      rw [comb_none e]
      simp only [Bool.false_eq_true, if_false]
      rw [← q, cnt_none e]
end
mutual
theorem chs_all : ∀ (k : Kd) (f : Nat), Wf k → (∀ i, f ≤ i → i < f + (lv k).length → P i = true) → chs P k f = k
  | .leaf k, f, _, _ => by simp only [chs]
  | .one o a, f, w, h => by
    simp only [Wf] at w
    simp only [lv, List.length_map] at h
    simp only [chs]
    rw [chs_all a f w.2 h]
  | .recd fs, f, w, h => by
    simp only [Wf] at w
    simp only [lv] at h
    simp only [chs]
    rw [chss_all fs f w.2 h]
theorem chss_all : ∀ (fs : Fs) (f : Nat), Wfs fs → (∀ i, f ≤ i → i < f + (lvs fs).length → P i = true) → chss P fs f = fs
  | .nil, f, _, _ => by simp only [chss]
  | .cons x k fs, f, w, h => by
    simp only [Wfs] at w
    simp only [lvs, List.length_append, List.length_map] at h
    have hp := lv_pos k w.2.1
    have ha : anyP P f (lv k).length = true := anyP_iff.mpr ⟨f, Nat.le_refl _, by omega, h f (Nat.le_refl _) (by omega)⟩
    simp only [chss]
    rw [if_pos ha, chs_all k f w.2.1 (fun i a b => h i a (by omega)), chss_all fs _ w.2.2 (fun i a b => h i (by omega) (by omega))]
end
mutual
theorem wo_all : ∀ (k : Kd) (f : Nat) (v : D) (n : Nat), Wf k → OkV k v n → (∀ i, f ≤ i → i < f + (lv k).length → P i = true) → wo P k f v = v
  | .leaf k, f, v, n, _, _, _ => by simp only [wo]
  | .one true a, f, v, n, w, h, hp => by
    by_cases hv : v = .non
    · subst hv; simp only [wo]
    · simp only [OkV] at h
      simp only [Wf] at w
      simp only [lv, List.length_map] at hp
      rw [wo_opt hv, wo_all a f v n w.2 (h.resolve_left hv) hp]
  | .one false a, f, v, n, w, h, hp => by
    obtain ⟨vs, rfl, _, h2⟩ := okv_list h
    simp only [Wf] at w
    simp only [lv, List.length_map] at hp
    simp only [wo]
    congr 1
    have : vs.map (fun x => wo P a f x) = vs.map id := List.map_congr_left fun x hx => let ⟨m, _, q⟩ := h2 x hx; wo_all a f x m w.2 q hp
    rw [this, List.map_id]
  | .recd fs, f, v, n, w, h, hp => by
    simp only [OkV] at h
    obtain ⟨vs, rfl, h⟩ := h
    simp only [Wf] at w
    simp only [lv] at hp
    simp only [wo]
    rw [wos_all fs f vs n w.2 h hp]
theorem wos_all : ∀ (fs : Fs) (f : Nat) (vs : List D) (n : Nat), Wfs fs → OkVs fs vs n → (∀ i, f ≤ i → i < f + (lvs fs).length → P i = true) → wos P fs f vs = vs
  | .nil, f, vs, n, _, h, _ => by simp only [OkVs] at h; subst h; simp only [wos]
  | .cons x k fs, f, vs, n, w, h, hp => by
    simp only [OkVs] at h
    obtain ⟨v, r, a, b, rfl, hab, h1, h2⟩ := h
    simp only [Wfs] at w
    simp only [lvs, List.length_append, List.length_map] at hp
    have hpos := lv_pos k w.2.1
    have ha : anyP P f (lv k).length = true := anyP_iff.mpr ⟨f, Nat.le_refl _, by omega, hp f (Nat.le_refl _) (by omega)⟩
    simp only [wos]
    rw [if_pos ha, wo_all k f v a w.2.1 h1 (fun i a b => hp i a (by omega)), wos_all fs _ r b w.2.2 h2 (fun i a b => hp i (by omega) (by omega))]
end
theorem opt_chs (k : Kd) (f : Nat) : isOpt (chs P k f) = isOpt k := by
  cases k with
  | leaf k => simp only [chs]
  | one o a => cases o <;> simp only [chs, isOpt]
  | recd fs => simp only [chs, isOpt]
mutual
theorem dp_chs : ∀ (k : Kd) (f : Nat), dp (chs P k f) ≤ dp k
  | .leaf k, f => by simp only [chs]; exact Nat.le_refl _
  | .one o a, f => by simp only [chs, dp]; have := dp_chs a f; omega
  | .recd fs, f => by simp only [chs, dp]; have := dps_chss fs f; omega
theorem dps_chss : ∀ (fs : Fs) (f : Nat), dps (chss P fs f) ≤ dps fs
  | .nil, f => by simp only [chss]; exact Nat.le_refl _
  | .cons x k fs, f => by
    have h1 := dp_chs k f
    have h2 := dps_chss fs (f + (lv k).length)
    simp only [chss]
    split
    · simp only [dps]; omega
    · simp only [dps]; omega
end
mutual
theorem lv_chs_le : ∀ (k : Kd) (f : Nat), (lv (chs P k f)).length ≤ (lv k).length
  | .leaf k, f => by simp only [chs]; exact Nat.le_refl _
  | .one o a, f => by simp only [chs, lv, List.length_map]; exact lv_chs_le a f
  | .recd fs, f => by simp only [chs, lv]; exact lvs_chss_le fs f
theorem lvs_chss_le : ∀ (fs : Fs) (f : Nat), (lvs (chss P fs f)).length ≤ (lvs fs).length
  | .nil, f => by simp only [chss]; exact Nat.le_refl _
  | .cons x k fs, f => by
    have h1 := lv_chs_le k f
    have h2 := lvs_chss_le fs (f + (lv k).length)
    simp only [chss]
    split
    · simp only [lvs, List.length_append, List.length_map]; omega
    · simp only [lvs, List.length_append, List.length_map]; omega
end
theorem chss_sub : ∀ (fs : Fs) (f : Nat), ((toL (chss P fs f)).map Prod.fst).Sublist ((toL fs).map Prod.fst)
  | .nil, f => by simp [chss, toL]
  | .cons x k fs, f => by
    have h2 := chss_sub fs (f + (lv k).length)
    simp only [chss]
    split
    · simp only [toL, List.map_cons]; exact h2.cons₂ _
    · simp only [toL, List.map_cons]; exact h2.cons _
theorem chss_ne : ∀ (fs : Fs) (f : Nat), anyP P f (lvs fs).length = true → chss P fs f ≠ .nil
  | .nil, f, h => by
    obtain ⟨i, a, b, _⟩ := anyP_iff.mp h
    simp [lvs] at b; omega
  | .cons x k fs, f, h => by
    simp only [chss]
    cases e : anyP P f (lv k).length with
    | true => simp only [if_true]; exact fun z => nomatch z
    | false =>
      simp only [Bool.false_eq_true, if_false]
      refine chss_ne fs _ ?_
      obtain ⟨i, a, b, c⟩ := anyP_iff.mp h
      simp only [lvs, List.length_append, List.length_map] at b
      refine anyP_iff.mpr ⟨i, ?_, by omega, c⟩
      by_cases hi : i < f + (lv k).length
      · rw [anyP_iff.mpr ⟨i, a, hi, c⟩] at e; cases e
      · omega
mutual
theorem wf_chs : ∀ (k : Kd) (f : Nat), Wf k → anyP P f (lv k).length = true → Wf (chs P k f)
  | .leaf k, f, w, _ => by simpa only [chs] using w
  | .one o a, f, w, h => by
    simp only [Wf] at w
    simp only [lv, List.length_map] at h
    simp only [chs, Wf]
    exact ⟨fun z => by rw [opt_chs]; exact w.1 z, wf_chs a f w.2 h⟩
  | .recd fs, f, w, h => by
    simp only [Wf] at w
    simp only [lv] at h
    simp only [chs, Wf]
    have hs := chss_sub (P := P) fs f
    refine ⟨⟨chss_ne fs f h, w.1.2.1.sublist hs, ?_⟩, wfs_chss fs f w.2⟩
    have := hs.length_le
    rw [List.length_map, List.length_map] at this
    have := w.1.2.2
    omega
theorem wfs_chss : ∀ (fs : Fs) (f : Nat), Wfs fs → Wfs (chss P fs f)
  | .nil, f, w => by simpa only [chss] using w
  | .cons x k fs, f, w => by
    simp only [Wfs] at w
    have h2 := wfs_chss fs (f + (lv k).length) w.2.2
    simp only [chss]
    cases e : anyP P f (lv k).length with
    | true => simp only [if_true, Wfs]; exact ⟨w.1, wf_chs k f w.2.1 e, h2⟩
    | false => simp only [Bool.false_eq_true, if_false]; exact h2
end
end
/-! ### paths -/
def under (n : List Nat) (ps : List (List (List Nat))) : List (List (List Nat)) := ps.filterMap fun p => match p with
  | [] => none
  | x :: r => if (x == n) = true then some r else none
theorem mem_under {n : List Nat} {ps : List (List (List Nat))} {r : List (List Nat)} : r ∈ under n ps ↔ (n :: r) ∈ ps := by
  unfold under
  rw [List.mem_filterMap]
  constructor
  · rintro ⟨p, hp, e⟩
    cases p with
    | nil => cases e
    | cons x q =>
      simp only at e
      split at e
      · rename_i h
        rw [beq_iff_eq] at h
        cases e
        subst h
        exact hp
      · cases e
  · intro h
    exact ⟨_, h, by simp⟩
def PathsOf (P : Nat → Bool) (k : Kd) (f : Nat) (ps : List (List (List Nat))) : Prop := ∀ p, p ∈ ps ↔ ∃ i lf, (lv k)[i]? = some lf ∧ lf.p = p ∧ P (f + i) = true
theorem paths_one {P : Nat → Bool} {o : Bool} {a : Kd} {f : Nat} {ps : List (List (List Nat))} (h : PathsOf P (.one o a) f ps) : PathsOf P a f ps := by
  intro p
  rw [h p]
  constructor
  · rintro ⟨i, lf, h1, h2, h3⟩
    simp only [lv, List.getElem?_map] at h1
    cases e : (lv a)[i]? with
    | none => rw [e] at h1; cases h1
    | some q =>
      rw [e] at h1
      simp only [Option.map_some, Option.some.injEq] at h1
      subst h1
      exact ⟨i, q, e, h2, h3⟩
  · rintro ⟨i, lf, h1, h2, h3⟩
    exact ⟨i, ⟨lf.p, sOne o :: lf.s, lf.k⟩, by simp only [lv, List.getElem?_map, h1]; rfl, h2, h3⟩
theorem head_mem {l : List (List Nat × Kd)} {lf : Lf} (h : lf ∈ l.flatMap lv1) : ∃ q ∈ l, ∃ r, lf.p = q.1 :: r := by
  obtain ⟨q, hq, h⟩ := List.mem_flatMap.mp h
  obtain ⟨lf', _, rfl⟩ := List.mem_map.mp h
  exact ⟨q, hq, _, rfl⟩
theorem paths_ne {P : Nat → Bool} {fs : Fs} {f : Nat} {ps : List (List (List Nat))} (h : PathsOf P (.recd fs) f ps) : ∀ p ∈ ps, p ≠ [] := by
  rintro p hp rfl
  obtain ⟨i, lf, h1, h2, _⟩ := (h []).mp hp
  simp only [lv, lvs_eq] at h1
  obtain ⟨q, _, r, e⟩ := head_mem (List.mem_of_getElem? h1)
  rw [h2] at e; cases e
theorem paths_field {P : Nat → Bool} {fs : Fs} {f : Nat} {ps : List (List (List Nat))} {pl ls : List (List Nat × Kd)} {q : List Nat × Kd} (h : PathsOf P (.recd fs) f ps) (e : toL fs = pl ++ q :: ls) (nd : ((toL fs).map Prod.fst).Nodup) :
    PathsOf P q.2 (f + (pl.flatMap lv1).length) (under q.1 ps) := by
  intro p
  rw [mem_under, h]
  simp only [lv, lvs_eq, e, List.flatMap_append, List.flatMap_cons]
  rw [e, List.map_append, List.map_cons, List.nodup_append] at nd
  obtain ⟨nd1, nd2, nd3⟩ := nd
  rw [List.nodup_cons] at nd2
  constructor
  · rintro ⟨i, lf, h1, h2, h3⟩
    by_cases hi : i < (pl.flatMap lv1).length
    · rw [List.getElem?_append_left hi] at h1
      obtain ⟨q', hq', r, e'⟩ := head_mem (List.mem_of_getElem? h1)
      rw [h2] at e'
      injection e' with e1 e2
      exact absurd e1.symm (nd3 q'.1 (List.mem_map.mpr ⟨q', hq', rfl⟩) q.1 List.mem_cons_self)
    · rw [List.getElem?_append_right (by omega)] at h1
      by_cases hj : i - (pl.flatMap lv1).length < (lv1 q).length
      · rw [List.getElem?_append_left hj] at h1
        rw [show lv1 q = (lv q.2).map (addP q.1) from rfl, List.getElem?_map] at h1
        cases e3 : (lv q.2)[i - (pl.flatMap lv1).length]? with
        | none => rw [e3] at h1; cases h1
        | some z =>
          rw [e3] at h1
          simp only [Option.map_some, Option.some.injEq] at h1
          subst h1
          injection h2 with e4 e5
          exact ⟨_, z, e3, e5, by rw [show f + (pl.flatMap lv1).length + (i - (pl.flatMap lv1).length) = f + i by omega]; exact h3⟩
      · rw [List.getElem?_append_right (by omega)] at h1
        obtain ⟨q', hq', r, e'⟩ := head_mem (List.mem_of_getElem? h1)
        rw [h2] at e'
        injection e' with e1 e2
        exact absurd (List.mem_map.mpr ⟨q', hq', e1.symm⟩) nd2.1
  · rintro ⟨i, lf, h1, h2, h3⟩
    have hi := (List.getElem?_eq_some_iff.mp h1).1
    refine ⟨(pl.flatMap lv1).length + i, addP q.1 lf, ?_, by simp [addP, h2], by rw [← Nat.add_assoc]; exact h3⟩
    rw [List.getElem?_append_right (by omega), Nat.add_sub_cancel_left, List.getElem?_append_left (by rw [show lv1 q = (lv q.2).map (addP q.1) from rfl, List.length_map]; exact hi), show lv1 q = (lv q.2).map (addP q.1) from rfl, List.getElem?_map, h1]
    rfl
theorem paths_any {P : Nat → Bool} {k : Kd} {f : Nat} {ps : List (List (List Nat))} (h : PathsOf P k f ps) : (ps.length != 0) = anyP P f (lv k).length := by
  rw [Bool.eq_iff_iff, anyP_iff]
  constructor
  · intro z
    cases ps with
    | nil => simp at z
    | cons p ps =>
      obtain ⟨i, lf, h1, _, h3⟩ := (h p).mp List.mem_cons_self
      have := (List.getElem?_eq_some_iff.mp h1).1
      exact ⟨f + i, by omega, by omega, h3⟩
  · rintro ⟨i, a, b, c⟩
    have hi : i - f < (lv k).length := by omega
    have := (h (lv k)[i - f].p).mpr ⟨i - f, _, List.getElem?_eq_getElem hi, rfl, by rw [show f + (i - f) = i by omega]; exact c⟩
    have := List.length_pos_of_mem this
    simp; exact List.length_pos_iff.mp this
/-! ### a choice as a list -/
def inC (c : List Nat) (i : Nat) : Bool := decide (i ∈ c)
theorem any_inC {c : List Nat} {f n : Nat} : (c.any fun x => decide ((f : Int) ≤ x) && decide ((x : Int) < f + n)) = anyP (inC c) f n := by
  rw [Bool.eq_iff_iff, anyP_iff, List.any_eq_true]
  constructor
  · rintro ⟨x, hx, h⟩
    simp only [Bool.and_eq_true, decide_eq_true_eq] at h
    exact ⟨x, by omega, by omega, decide_eq_true hx⟩
  · rintro ⟨i, a, b, h⟩
    exact ⟨i, of_decide_eq_true h, by simp only [Bool.and_eq_true, decide_eq_true_eq]; omega⟩
theorem cnt_cons {x : Nat} {c : List Nat} (h : ∀ y ∈ c, x < y) : ∀ n, cnt (inC (x :: c)) n = cnt (inC c) n + (if x < n then 1 else 0)
  | 0 => by simp [cnt]
  | n + 1 => by
    show cnt (inC (x :: c)) n + _ = cnt (inC c) n + _ + _
    rw [cnt_cons h n]
    by_cases hx : n = x
    · subst hx
      have h1 : inC (n :: c) n = true := decide_eq_true List.mem_cons_self
      have h2 : inC c n = false := decide_eq_false fun z => Nat.lt_irrefl _ (h n z)
      rw [h1, h2]
      simp
    · have h1 : inC (x :: c) n = inC c n := by
        unfold inC
        congr 1
        rw [List.mem_cons, eq_iff_iff]
        exact ⟨fun z => z.resolve_left hx, .inr⟩
      rw [h1]
      have : (x < n) ↔ (x < n + 1) := by omega
      by_cases h3 : x < n
      · rw [if_pos h3, if_pos (show x < n + 1 by omega)]; omega
      · rw [if_neg h3, if_neg (show ¬ x < n + 1 by omega)]; omega
theorem cnt_small : ∀ {c : List Nat} {n : Nat}, (∀ y ∈ c, n ≤ y) → cnt (inC c) n = 0
  | c, 0, _ => rfl
  | c, n + 1, h => by
    show cnt (inC c) n + _ = 0
    rw [cnt_small fun y hy => Nat.le_of_succ_le (h y hy)]
    have : inC c n = false := decide_eq_false fun z => by have := h n z; omega
    rw [this]; rfl
theorem cnt_at : ∀ {c : List Nat} {j i : Nat}, c.Pairwise (· < ·) → c[j]? = some i → cnt (inC c) i = j
  | [], _, _, _, h => by simp at h
  | x :: c, 0, i, p, h => by
    simp at h; subst h
    have p1 := (List.pairwise_cons.mp p).1
    rw [cnt_cons p1, cnt_small (fun y hy => Nat.le_of_lt (p1 y hy)), if_neg (Nat.lt_irrefl _)]
  | x :: c, j + 1, i, p, h => by
    obtain ⟨p1, p2⟩ := List.pairwise_cons.mp p
    simp at h
    rw [cnt_cons p1, cnt_at p2 h, if_pos (p1 i (List.mem_of_getElem? h))]
theorem paths_of {k : Kd} {c : List Nat} {ls : List Lf} (hz : ls.length = c.length) (h : ∀ (j x : Nat) (lf : Lf), c[j]? = some x → ls[j]? = some lf → (lv k)[x]? = some lf) : PathsOf (inC c) k 0 (ls.map Lf.p) := by
  intro p
  rw [List.mem_map]
  constructor
  · rintro ⟨lf, hl, rfl⟩
    obtain ⟨j, hj, e⟩ := List.mem_iff_getElem.mp hl
    have hjc : j < c.length := by omega
    exact ⟨c[j], lf, h j c[j] lf (List.getElem?_eq_getElem hjc) (by rw [← e]; exact List.getElem?_eq_getElem hj), rfl, by rw [Nat.zero_add]; exact decide_eq_true (List.getElem_mem hjc)⟩
  · rintro ⟨i, lf, h1, rfl, h3⟩
    rw [Nat.zero_add] at h3
    obtain ⟨j, hj, e⟩ := List.mem_iff_getElem.mp (of_decide_eq_true h3)
    have hjl : j < ls.length := by omega
    have := h j i ls[j] (by rw [← e]; exact List.getElem?_eq_getElem hj) (List.getElem?_eq_getElem hjl)
    rw [h1] at this
    cases this
    exact ⟨ls[j], List.getElem_mem hjl, rfl⟩
end DL

namespace DL
open PySem PySem.Spec PyProof.Rows L2
/-! ## 29. A choice of leaves: the code -/
def offs : List (List Nat × Kd) → Nat → List D
  | [], f => [.int (f : Nat)]
  | p :: r, f => .int (f : Nat) :: offs r (f + (lv p.2).length)
abbrev lvn (l : List (List Nat × Kd)) : Nat := (l.flatMap lv1).length
theorem lvn_cons (p : List Nat × Kd) (l : List (List Nat × Kd)) : lvn (p :: l) = (lv p.2).length + lvn l := by simp [lvn, lv1]
theorem lvn_snoc (p : List Nat × Kd) (l : List (List Nat × Kd)) : lvn (l ++ [p]) = lvn l + (lv p.2).length := by simp [lvn, lv1]
theorem offs_get : ∀ (pl ls : List (List Nat × Kd)) (f : Nat), (offs (pl ++ ls) f)[pl.length]? = some (.int ((f + lvn pl : Nat)))
  | [], [], f => rfl
  | [], _ :: _, f => rfl
  | p :: pl, ls, f => by
    have := offs_get pl ls (f + (lv p.2).length)
    rw [lvn_cons, ← Nat.add_assoc]
    simpa only [List.cons_append, offs, List.length_cons, List.getElem?_cons_succ] using this
/-! ### first_leaves -/
def b_first_leaves (cleaves : Nat) : Ss :=
 (.c (.set 2 (.lst false .n))
 (.c (.for_ (.t [(.n 3), (.n 4)]) (.of (.idx (.var 0) (.con (.int 1)))) (.c (.ex (.mt .append (.var 2) (.c (.var 1) .n)))
 (.c (.aug 1 .add (.bf true .len (.c (.frz (.call cleaves (.c (.var 4) .n))) .n)))
 .n)))
 (.c (.fz 2) (.c (.ret (.bin true .add (.var 2) (.lst true (.c (.var 1) .n))))
 .n))))
def spFL : SpD := fun ds G Q _ => ∃ (fs : Fs) (f : Nat), ds = [.tup [.str sRec, .tup (encs fs)], .int f] ∧ Wfs fs ∧ dps fs ≤ 100 ∧ (lvs fs).length ≤ 1000 ∧ (toL fs).length ≤ 8 ∧ Q (.lst (offs (toL fs) f)) G
theorem lv_le : ∀ (fs : Fs), ∀ p ∈ toL fs, (lv p.2).length ≤ (lvs fs).length
  | .nil, _, h => nomatch h
  | .cons n k fs, p, h => by
    simp only [lvs, List.length_append, List.length_map]
    rcases List.mem_cons.mp h with rfl | h
    · show (lv k).length ≤ _; omega
    · have := lv_le fs p h; omega
theorem first_leaves_ok {Γ : Gam} {lf : Nat} (h1 : Γ.sp lf = spLeaves) (ds : List D) (G : HD) (QD : KD) (XD : KX) (h : spFL ds G QD XD) :
    wSs Γ (b_first_leaves lf) { nx := fun _ H => QD .non H, rt := QD, ex := fun x _ H => XD x H } (startD 5 ds) G := by
  obtain ⟨fs, f, rfl, w, hd', hl, h8, hQ⟩ := h
  have hlim : lim = 16777216 := rfl
  simp_arith [b_first_leaves, h1]
  intro p hp
  refine wFor_ind (fun xs σ H => ∃ (acc : List D) (ls : List (List Nat × Kd)) (g : Nat) (o3 o4 : Option D), xs = ls.map enc1 ∧ acc ++ offs ls g = offs (toL fs) f ∧ acc.length + ls.length ≤ 8 ∧ (∀ q ∈ ls, q ∈ toL fs) ∧ H = updD G p (.lst acc) ∧ σ = [some (.tup [.str sRec, .tup (encs fs)]), some (.int g), some (.ref p), o3, o4]) ?_ ?_ _ _ _
    ⟨[], toL fs, f, none, none, encs_eq fs, rfl, by simpa using h8, fun _ h => h, rfl, rfl⟩
  · rintro σ H ⟨acc, ls, g, o3, o4, hx, ho, hz, _, rfl, rfl⟩
    have : ls = [] := by cases ls <;> first | rfl | cases hx
    subst this
    have e3 : ∀ x, delD (updD G p x) p = G := fun x => delD_updD hp
    simp_arith [updD_same, e3]
    rw [List.length_nil] at hz
    refine ⟨by omega, ?_⟩
    rw [← ho] at hQ
    exact hQ
  · rintro x xs ih σ H ⟨acc, ls, g, o3, o4, hx, ho, hz, hm, rfl, rfl⟩
    cases ls with
    | nil => cases hx
    | cons q ls =>
      rw [List.map_cons] at hx
      injection hx with hx1 hx2
      subst hx1; subst hx2
      rw [List.length_cons] at hz
      have hq := hm q List.mem_cons_self
      have := dps_eq q hq
      have := lv_le fs q hq
      simp_arith [enc1, updD_same, updD_updD]
      refine ⟨by omega, q.2, rfl, (wfs_eq w q hq).2, by omega, by omega, fun r hr => ?_⟩
      have e5 : ∀ x, delD (updD (updD G p (.lst (acc ++ [.int g]))) r x) r = updD G p (.lst (acc ++ [.int g])) := fun x => delD_updD hr
      simp_arith [updD_same, e5, List.length_map]
      refine ih _ _ ⟨acc ++ [.int g], ls, g + (lv q.2).length, _, _, rfl, by rw [← ho]; simp [offs], by rw [List.length_append, List.length_singleton]; omega, fun z hz => hm z (List.mem_cons_of_mem _ hz), rfl, by rw [Int.natCast_add]⟩
/-! ### is_chosen -/
def b_is_chosen : Ss :=
 (.c (.ret (.bf true .any (.c (.lc true (.chn .le .lt (.var 1) (.var 3) (.var 2)) (.n 3) (.of (.var 0)) .yes [("number", 3)]) .n)))
 .n)
def spIsCh : SpD := fun ds G Q _ => ∃ (c : List Nat) (f n : Nat), ds = [.tup (natD c), .int f, .int ((f + n : Nat))] ∧ Q (.bl (anyP (inC c) f n)) G
theorem bls_mp : ∀ bs : List Bool, blsOf (bs.map D.bl) = some bs
  | [] => rfl
  | b :: bs => by show (blsOf (bs.map D.bl)).map (b :: ·) = _; rw [bls_mp bs]; rfl
theorem is_chosen_ok {Γ : Gam} (ds : List D) (G : HD) (QD : KD) (XD : KX) (h : spIsCh ds G QD XD) :
    wSs Γ b_is_chosen { nx := fun _ H => QD .non H, rt := QD, ex := fun x _ H => XD x H } (startD 4 ds) G := by
  obtain ⟨c, f, n, rfl, hQ⟩ := h
  simp_arith [b_is_chosen]
  refine lcD_ind (fun xs acc H => H = G ∧ ∃ (a b : List Nat), xs = natD b ∧ c = a ++ b ∧ acc = (a.map fun (x : Nat) => decide ((f : Int) ≤ x) && decide ((x : Int) < f + n)).map D.bl) ?_ ?_ _ _ _ ⟨rfl, [], c, rfl, rfl, rfl⟩
  · rintro acc H ⟨rfl, a, b, hx, hl, rfl⟩
    have : b = [] := by cases b <;> first | rfl | cases hx
    subst this
    rw [List.append_nil] at hl
    subst hl
    rw [bls_mp, ok_some, List.any_map]
    rw [← any_inC] at hQ
    exact hQ
  · rintro x xs acc ih H ⟨rfl, a, b, hx, hl, rfl⟩
    cases b with
    | nil => cases hx
    | cons y b =>
      have hx : x :: xs = D.int (y : Nat) :: natD b := hx
      injection hx with hx1 hx2
      subst hx1; subst hx2
      simp_arith []
      cases e : decide ((f : Int) ≤ y) with
      | true => exact ih _ _ ⟨rfl, a ++ [y], b, rfl, by rw [hl]; simp, by rw [List.map_append, List.map_append]; simp only [List.map_cons, List.map_nil, e, Bool.true_and, Bool.false_and, Int.natCast_add]⟩
      | false => exact ih _ _ ⟨rfl, a ++ [y], b, rfl, by rw [hl]; simp, by rw [List.map_append, List.map_append]; simp only [List.map_cons, List.map_nil, e, Bool.true_and, Bool.false_and, Int.natCast_add]⟩
/-! ### chosen_from -/
def b_chR (cchosen_from cfirst_leaves cis_chosen : Nat) : Ss :=
 (.c (.set 3 (.call cfirst_leaves (.c (.var 0) (.c (.var 2) .n))))
 (.c (.set 4 (.lst false .n))
 (.c (.for_ (.t [(.n 5), (.t [(.n 6), (.n 7)])]) (.enu (.idx (.var 0) (.con (.int 1)))) (.c (.ite (.of (.call cis_chosen (.c (.var 1) (.c (.idx (.var 3) (.var 5)) (.c (.idx (.var 3) (.bin true .add (.var 5) (.con (.int 1)))) .n))))) (.c (.ex (.mt .append (.var 4) (.c (.tup (.c (.var 6) (.c (.call cchosen_from (.c (.var 7) (.c (.var 1) (.c (.idx (.var 3) (.var 5)) .n)))) .n))) .n)))
 .n) .n)
 .n))
 (.c (.fz 4) (.c (.ret (.tup (.c (.con (.str sRec)) (.c (.bf true .tuple (.c (.var 4) .n)) .n))))
 .n)))))
def b_chosen_from (cchosen_from cfirst_leaves cis_chosen gLEAVES : Nat) : Ss :=
 (.c (.ite (.cmp .inn (.idx (.var 0) (.con (.int 0))) (.glb gLEAVES)) (.c (.ret (.var 0))
 .n) .n)
 (.c (.ite (.cmp .ne (.idx (.var 0) (.con (.int 0))) (.con (.str sRec))) (.c (.ret (.tup (.c (.idx (.var 0) (.con (.int 0))) (.c (.call cchosen_from (.c (.idx (.var 0) (.con (.int 1))) (.c (.var 1) (.c (.var 2) .n)))) .n))))
 .n) .n)
 (b_chR cchosen_from cfirst_leaves cis_chosen)))
def spChf (n : Nat) : SpD := fun ds G Q _ => ∃ (k : Kd) (f : Nat) (c : List Nat), ds = [enc k, .tup (natD c), .int f] ∧ Wf k ∧ (dp k ≤ n ∧ dp k ≤ 100) ∧ (lv k).length ≤ 1000 ∧ Q (enc (chs (inC c) k f)) G
theorem chss_step {P : Nat → Bool} {q : List Nat × Kd} {ls : List (List Nat × Kd)} {g : Nat} :
    encs (chss P (fsOf (q :: ls)) g) = (if anyP P g (lv q.2).length = true then [enc1 (q.1, chs P q.2 g)] else []) ++ encs (chss P (fsOf ls) (g + (lv q.2).length)) := by
  simp only [fsOf, chss]
  split
  · simp only [encs, enc1]; rfl
  · rfl
theorem chosen_from_ok {Γ : Gam} {cf fl ic gl n : Nat} (h1 : Γ.sp cf = spChf n) (h2 : Γ.sp fl = spFL) (h3 : Γ.sp ic = spIsCh) (hg : Γ.gl gl = .tup [.str sInt, .str sText, .str sBool]) (ds : List D) (G : HD) (QD : KD) (XD : KX) (h : spChf (n + 1) ds G QD XD) :
    wSs Γ (b_chosen_from cf fl ic gl) { nx := fun _ H => QD .non H, rt := QD, ex := fun x _ H => XD x H } (startD 8 ds) G := by
  obtain ⟨k, f, c, rfl, w, hd', hl, hQ⟩ := h
  have hlim : lim = 16777216 := rfl
  cases k with
  | leaf k =>
    simp only [chs, enc] at hQ
    simp_arith [b_chosen_from, hg, enc, leaf_in w]
    exact hQ
  | one o a =>
    simp only [Wf] at w
    simp only [dp] at hd'
    simp only [lv, List.length_map] at hl
    simp only [chs, enc] at hQ
    simp_arith [b_chosen_from, h1, hg, enc, one_in, one_nr]
    exact ⟨a, f, c, rfl, w.2, ⟨by omega, by omega⟩, hl, hQ⟩
  | recd fs =>
    simp only [Wf] at w
    simp only [dp] at hd'
    simp only [lv] at hl
    simp only [chs, enc] at hQ
    simp_arith [b_chosen_from, hg, enc, rec_in, beq_self_eq_true]
    simp_arith [b_chR, h1, h2, h3]
    refine ⟨fs, f, rfl, w.2, by omega, hl, w.1.2.2, ?_⟩
    simp_arith []
    intro p hp
    have e3 : ∀ x, delD (updD G p x) p = G := fun x => delD_updD hp
    refine wFor_ind (fun xs σ H => ∃ (pl ls : List (List Nat × Kd)) (acc : List D) (o5 o6 o7 : Option D), xs = enuF pl.length (ls.map enc1) ∧ toL fs = pl ++ ls ∧ acc.length ≤ pl.length ∧ encs (chss (inC c) fs f) = acc ++ encs (chss (inC c) (fsOf ls) (f + lvn pl)) ∧ H = updD G p (.lst acc) ∧
      σ = [some (.tup [.str sRec, .tup (encs fs)]), some (.tup (natD c)), some (.int f), some (.lst (offs (toL fs) f)), some (.ref p), o5, o6, o7]) ?_ ?_ _ _ _ ⟨[], toL fs, [], none, none, none, by rw [encs_eq]; rfl, rfl, Nat.le_refl _, by rw [fsOf_toL]; rfl, rfl, rfl⟩
    · rintro σ H ⟨pl, ls, acc, o5, o6, o7, hx, e1, _, e2, rfl, rfl⟩
      have : ls = [] := by cases ls <;> first | rfl | cases hx
      subst this
      simp only [fsOf, chss, encs, List.append_nil] at e2
      simp_arith [updD_same, e3]
      rw [← e2]
      exact hQ
    · rintro x xs ih σ H ⟨pl, ls, acc, o5, o6, o7, hx, e1, hz, e2, rfl, rfl⟩
      cases ls with
      | nil => cases hx
      | cons q ls =>
        have hx : x :: xs = D.tpl [.int (pl.length : Nat), .tup [.str q.1, enc q.2]] :: enuF (pl.length + 1) (ls.map enc1) := hx
        injection hx with hx1 hx2
        subst hx1; subst hx2
        have hq : q ∈ toL fs := by rw [e1]; simp
        have := dps_eq q hq
        have := lv_le fs q hq
        have h8 : pl.length ≤ 8 := by have := w.1.2.2; rw [e1, List.length_append] at this; omega
        have a1 : atI (offs (toL fs) f) ((pl.length : Nat) : Int) = some (.int ((f + lvn pl : Nat))) := by rw [at_nat, e1, offs_get]
        have a2 : atI (offs (toL fs) f) (((pl.length : Nat) : Int) + 1) = some (.int ((f + lvn pl + (lv q.2).length : Nat))) := by
          have := offs_get (pl ++ [q]) ls f
          rw [show (((pl.length : Nat) : Int) + 1) = ((pl.length + 1 : Nat) : Int) by omega, at_nat, e1]
          rw [List.append_assoc, List.singleton_append, List.length_append, List.length_singleton, lvn_snoc, ← Nat.add_assoc] at this
          exact this
        rw [chss_step] at e2
        simp_arith [a1, a2]
        refine ⟨c, f + lvn pl, (lv q.2).length, rfl, ?_⟩
        simp_arith []
        cases e : anyP (inC c) (f + lvn pl) (lv q.2).length with
        | false =>
          rw [e] at e2
          exact ih _ _ ⟨pl ++ [q], ls, acc, _, _, _, by rw [List.length_append, List.length_singleton], by rw [e1]; simp, by rw [List.length_append]; omega, by rw [lvn_snoc, ← Nat.add_assoc, e2]; rfl, rfl, rfl⟩
        | true =>
          rw [e] at e2
          simp_arith [updD_same, updD_updD, a1]
          refine ⟨q.2, f + lvn pl, c, rfl, (wfs_eq w.2 q hq).2, ⟨by omega, by omega⟩, by omega, ?_⟩
          simp_arith [updD_same, updD_updD]
          refine ⟨by omega, ih _ _ ⟨pl ++ [q], ls, acc ++ [enc1 (q.1, chs (inC c) q.2 (f + lvn pl))], _, _, _, by rw [List.length_append, List.length_singleton], by rw [e1]; simp, by simp only [List.length_append, List.length_singleton]; omega, by rw [lvn_snoc, ← Nat.add_assoc, e2, List.append_assoc]; rfl, rfl, rfl⟩⟩
def b_chosen (cchosen_from : Nat) : Ss :=
 (.c (.ret (.call cchosen_from (.c (.var 0) (.c (.var 1) (.c (.con (.int 0)) .n)))))
 .n)
def spChosen : SpD := fun ds G Q _ => ∃ (k : Kd) (c : List Nat), ds = [enc k, .tup (natD c)] ∧ Wf k ∧ dp k ≤ 10 ∧ (lv k).length ≤ 1000 ∧ Q (enc (chs (inC c) k 0)) G
theorem chosen_ok {Γ : Gam} {cf : Nat} (h1 : Γ.sp cf = spChf 10) (ds : List D) (G : HD) (QD : KD) (XD : KX) (h : spChosen ds G QD XD) :
    wSs Γ (b_chosen cf) { nx := fun _ H => QD .non H, rt := QD, ex := fun x _ H => XD x H } (startD 2 ds) G := by
  obtain ⟨k, c, rfl, w, hd', hl, hQ⟩ := h
  simp_arith [b_chosen, h1]
  exact ⟨k, 0, c, rfl, w, ⟨hd', by omega⟩, hl, hQ⟩
/-! ### without_from -/
theorem wos_step {P : Nat → Bool} {q : List Nat × Kd} {ls : List (List Nat × Kd)} {g : Nat} {v : D} {ws : List D} :
    wos P (fsOf (q :: ls)) g (v :: ws) = (if anyP P g (lv q.2).length = true then [wo P q.2 g v] else []) ++ wos P (fsOf ls) (g + (lv q.2).length) ws := by
  simp only [fsOf, wos]
  split <;> rfl
/-! ### the law's own -/
def b_law_under : Ss :=
 (.c (.ret (.lc true (.sl true (.var 2) (.con (.int 1)) .no) (.n 2) (.of (.var 0)) (.cmp .eq (.idx (.var 2) (.con (.int 0))) (.var 1)) [("path", 2)]))
 .n)
def spUnder : SpD := fun ds G Q _ => ∃ (ps : List (List (List Nat))) (n : List Nat), ds = [.lst (ps.map pathD), .str n] ∧ (∀ p ∈ ps, p ≠ []) ∧ Q (.lst ((under n ps).map pathD)) G
theorem under_snoc {n y : List Nat} {r : List (List Nat)} {a : List (List (List Nat))} : under n (a ++ [y :: r]) = under n a ++ (if (y == n) = true then [r] else []) := by
  unfold under
  rw [List.filterMap_append]
  congr 1
  cases e : (y == n) with
  | true => rw [beq_iff_eq] at e; subst e; simp
  | false =>
    have : y ≠ n := by simpa using e
    simp [this]
theorem under_ok {Γ : Gam} (ds : List D) (G : HD) (QD : KD) (XD : KX) (h : spUnder ds G QD XD) :
    wSs Γ b_law_under { nx := fun _ H => QD .non H, rt := QD, ex := fun x _ H => XD x H } (startD 3 ds) G := by
  obtain ⟨ps, n, rfl, hne, hQ⟩ := h
  simp_arith [b_law_under]
  refine lcD_ind (fun xs acc H => H = G ∧ ∃ (a b : List (List (List Nat))), xs = b.map pathD ∧ ps = a ++ b ∧ acc = (under n a).map pathD) ?_ ?_ _ _ _ ⟨rfl, [], ps, rfl, rfl, rfl⟩
  · rintro acc H ⟨rfl, a, b, hx, hl, rfl⟩
    have : b = [] := by cases b <;> first | rfl | cases hx
    subst this
    rw [List.append_nil] at hl
    subst hl
    exact hQ
  · rintro x xs acc ih H ⟨rfl, a, b, hx, hl, rfl⟩
    cases b with
    | nil => cases hx
    | cons p b =>
      rw [List.map_cons] at hx
      injection hx with hx1 hx2
      subst hx1; subst hx2
      have hp := hne p (by rw [hl]; simp)
      cases p with
      | nil => exact absurd rfl hp
      | cons y r =>
        have ec : cutL (D.str y :: r.map D.str) (some 1) none = r.map D.str := by
          rw [cut_suf ⟨by decide, by simp; omega⟩]; rfl
        simp_arith [pathD]
        cases e : (y == n) with
        | false =>
          refine ih _ _ ⟨rfl, a ++ [y :: r], b, rfl, by rw [hl]; simp, ?_⟩
          rw [under_snoc, e]; simp
        | true =>
          simp_arith [ec]
          refine ih _ _ ⟨rfl, a ++ [y :: r], b, rfl, by rw [hl]; simp, ?_⟩
          rw [under_snoc, e]; simp [pathD]
def b_lwR (l_without l_under : Nat) : Ss :=
 (.c (.set 3 (.lst false .n))
 (.c (.for_ (.n 4) (.rng (.c (.bf true .len (.c (.var 2) .n)) .n)) (.c (.set 5 (.call l_under (.c (.var 1) (.c (.idx (.idx (.idx (.var 0) (.con (.int 1))) (.var 4)) (.con (.int 0))) .n))))
 (.c (.ite (.of (.var 5)) (.c (.ex (.mt .append (.var 3) (.c (.call l_without (.c (.idx (.idx (.idx (.var 0) (.con (.int 1))) (.var 4)) (.con (.int 1))) (.c (.var 5) (.c (.idx (.var 2) (.var 4)) .n)))) .n)))
 .n) .n)
 .n)))
 (.c (.fz 3) (.c (.ret (.bf true .tuple (.c (.var 3) .n)))
 .n))))
def b_lw2 (l_without l_under : Nat) : Ss :=
 (.c (.ite (.cmp .eq (.idx (.var 0) (.con (.int 0))) (.con (.str sList))) (.c (.ret (.bf true .tuple (.c (.lc true (.call l_without (.c (.idx (.var 0) (.con (.int 1))) (.c (.var 1) (.c (.var 6) .n)))) (.n 6) (.of (.var 2)) .yes [("one", 6)]) .n)))
 .n) .n)
 (b_lwR l_without l_under))
def b_law_without (l_without l_under : Nat) : Ss :=
 (.c (.ite (.bo false (.c (.cmp .inn (.idx (.var 0) (.con (.int 0))) (.tup (.c (.con (.str sInt)) (.c (.con (.str sText)) (.c (.con (.str sBool)) .n))))) (.c (.cmp .isn (.var 2) (.con .non)) .n))) (.c (.ret (.var 2))
 .n) .n)
 (.c (.ite (.cmp .eq (.idx (.var 0) (.con (.int 0))) (.con (.str sOpt))) (.c (.ret (.call l_without (.c (.idx (.var 0) (.con (.int 1))) (.c (.var 1) (.c (.var 2) .n)))))
 .n) .n)
 (b_lw2 l_without l_under)))
def spLwo (n : Nat) : SpD := fun ds G Q _ => ∃ (P : Nat → Bool) (k : Kd) (f : Nat) (ps : List (List (List Nat))) (v : D) (m : Nat), ds = [enc k, .lst (ps.map pathD), v] ∧ Wf k ∧ OkV k v m ∧ dp k ≤ n ∧ PathsOf P k f ps ∧ Q (wo P k f v) G
theorem lwithout_ok {Γ : Gam} {lw lu n : Nat} (h1 : Γ.sp lw = spLwo n) (h2 : Γ.sp lu = spUnder) (ds : List D) (G : HD) (QD : KD) (XD : KX) (h : spLwo (n + 1) ds G QD XD) :
    wSs Γ (b_law_without lw lu) { nx := fun _ H => QD .non H, rt := QD, ex := fun x _ H => XD x H } (startD 7 ds) G := by
  obtain ⟨P, k, f, ps, v, m, rfl, w, hv, hd', hps, hQ⟩ := h
  have hlim : lim = 16777216 := rfl
  cases k with
  | leaf k =>
    simp only [wo] at hQ
    simp_arith [b_law_without, enc, leaf_in w]
    exact hQ
  | one o a =>
    simp only [Wf] at w
    simp only [dp] at hd'
    have hpa := paths_one hps
    cases o with
    | true =>
      have o2 : (sOne true == sOpt) = true := rfl
      by_cases hz : v = .non
      · subst hz
        simp only [wo] at hQ
        simp_arith [b_law_without, enc, one_in]
        exact hQ
      · simp only [OkV] at hv
        have hv := hv.resolve_left hz
        rw [wo_opt hz] at hQ
        have isv : ∀ H, cmpD .isn v .non H = some false := fun H => is_val hz
        simp_arith [b_law_without, h1, enc, one_in, o2, isv]
        exact ⟨P, a, f, ps, v, m, rfl, w.2, hv, by omega, hpa, hQ⟩
    | false =>
      have o1 : (sOne false == sList) = true := rfl
      have o2 : (sOne false == sOpt) = false := rfl
      obtain ⟨vs, rfl, _, hall⟩ := okv_list hv
      simp only [wo] at hQ
      simp_arith [b_law_without, enc, one_in, o2]
      simp_arith [b_lw2, h1, o1]
      refine lcD_ind (fun xs acc H => H = G ∧ ∃ (a1 : List D), vs = a1 ++ xs ∧ acc = a1.map fun x => wo P a f x) ?_ ?_ _ _ _ ⟨rfl, [], rfl, rfl⟩
      · rintro acc H ⟨rfl, a1, hx, rfl⟩
        rw [List.append_nil] at hx
        subst hx
        exact hQ
      · rintro x xs acc ih H ⟨rfl, a1, hx, rfl⟩
        obtain ⟨m', _, hx'⟩ := hall x (by rw [hx]; simp)
        simp_arith []
        refine ⟨P, a, f, ps, x, m', rfl, w.2, hx', by omega, hpa, ?_⟩
        exact ih _ _ ⟨rfl, a1 ++ [x], by rw [hx]; simp, by simp⟩
  | recd fs =>
    have hne := paths_ne hps
    simp only [OkV] at hv
    obtain ⟨vs, rfl, hv⟩ := hv
    simp only [Wf] at w
    simp only [dp] at hd'
    simp only [wo] at hQ
    have r1 : (sRec == sOpt) = false := rfl
    have r2 : (sRec == sList) = false := rfl
    have hlen := okvs_len hv
    have h8' := w.1.2.2
    simp_arith [b_law_without, enc, rec_in, r1]
    simp_arith [b_lw2, r2]
    simp_arith [b_lwR, h1, h2]
    intro p hp
    have e3 : ∀ x, delD (updD G p x) p = G := fun x => delD_updD hp
    rw [q_rng1 ⟨by omega, by omega⟩, ok_some, Int.toNat_natCast]
    refine And.intro (by show vs.length ≤ lim; omega) ?_
    refine wFor_ind (fun xs σ H => ∃ (pl ls : List (List Nat × Kd)) (pw ws acc : List D) (b : Nat) (o4 o5 : Option D), xs = rngF 1 ls.length (pl.length : Nat) ∧ toL fs = pl ++ ls ∧ vs = pw ++ ws ∧ pw.length = pl.length ∧ OkVs (fsOf ls) ws b ∧ acc.length ≤ pl.length ∧ wos P fs f vs = acc ++ wos P (fsOf ls) (f + lvn pl) ws ∧ H = updD G p (.lst acc) ∧
      σ = [some (.tup [.str sRec, .tup (encs fs)]), some (.lst (ps.map pathD)), some (.tup vs), some (.ref p), o4, o5, none]) ?_ ?_ _ _ _ ⟨[], toL fs, [], vs, [], m, none, none, by rw [hlen]; rfl, rfl, rfl, rfl, by rw [fsOf_toL]; exact hv, Nat.le_refl _, by rw [fsOf_toL]; rfl, rfl, rfl⟩
    · rintro σ H ⟨pl, ls, pw, ws, acc, b, o4, o5, hx, e1, _, _, _, _, e2, rfl, rfl⟩
      have : ls = [] := by cases ls <;> first | rfl | cases hx
      subst this
      simp only [fsOf, wos, List.append_nil] at e2
      simp_arith [updD_same, e3]
      rw [← e2]
      exact hQ
    · rintro x xs ih σ H ⟨pl, ls, pw, ws, acc, b, o4, o5, hx, e1, e4, e5, hok, hz, e2, rfl, rfl⟩
      cases ls with
      | nil => cases hx
      | cons q ls =>
        have hx : x :: xs = D.int (pl.length : Nat) :: rngF 1 ls.length ((pl.length : Nat) + 1) := hx
        injection hx with hx1 hx2
        subst hx1; subst hx2
        simp only [fsOf, OkVs] at hok
        obtain ⟨y, ws', a1', b1, rfl, hab, hv1, hv2⟩ := hok
        have hq : q ∈ toL fs := by rw [e1]; simp
        have := dps_eq q hq
        have h8 : pl.length ≤ 8 := by rw [e1, List.length_append] at h8'; omega
        have hf := paths_field hps e1 w.1.2.1
        have ha := paths_any hf
        have a1 : atI (encs fs) ((pl.length : Nat) : Int) = some (enc1 q) := by
          rw [at_nat, encs_eq, e1, List.map_append, List.getElem?_append_right (by rw [List.length_map]; exact Nat.le_refl _), List.length_map, Nat.sub_self]; rfl
        have a3 : atI vs ((pl.length : Nat) : Int) = some y := by
          rw [at_nat, e4, ← e5, List.getElem?_append_right (Nat.le_refl _), Nat.sub_self]; rfl
        rw [wos_step] at e2
        simp_arith [a1, enc1]
        refine ⟨ps, q.1, rfl, hne, ?_⟩
        simp_arith [List.length_map, ha]
        cases e : anyP P (f + lvn pl) (lv q.2).length with
        | false =>
          rw [e] at e2
          exact ih _ _ ⟨pl ++ [q], ls, pw ++ [y], ws', acc, b1, _, _, by rw [List.length_append, List.length_singleton, Int.natCast_add]; rfl, by rw [e1]; simp, by rw [e4]; simp, by simp [e5], hv2, by rw [List.length_append]; omega, by rw [lvn_snoc, ← Nat.add_assoc, e2]; rfl, rfl, rfl⟩
        | true =>
          rw [e] at e2
          simp_arith [updD_same, updD_updD, a1, a3, enc1]
          refine ⟨P, q.2, f + lvn pl, _, y, a1', rfl, (wfs_eq w.2 q hq).2, hv1, by omega, hf, ?_⟩
          simp_arith [updD_same, updD_updD]
          refine ⟨by omega, ih _ _ ⟨pl ++ [q], ls, pw ++ [y], ws', acc ++ [wo P q.2 (f + lvn pl) y], b1, _, _, by rw [List.length_append, List.length_singleton, Int.natCast_add]; rfl, by rw [e1]; simp, by rw [e4]; simp, by simp [e5], hv2, by simp only [List.length_append, List.length_singleton]; omega, by rw [lvn_snoc, ← Nat.add_assoc, e2, List.append_assoc]; rfl, rfl, rfl⟩⟩
end DL

namespace DL
open PySem PySem.Spec PyProof.Rows L2
/-! ## 30. is_schema, is_row, where they are right -/
/-! ### is_name -/
theorem all_in {s t : List Nat} {G : HD} {QD : KD} {i : Nat} {σ : StD} (h : ∀ c ∈ s, c ∈ t) (hQ : QD (.bl true) G) (hg : ∀ d : D, ((σ.set i (some d)).getD i none) = some d) :
    lcD (fun x H2 K => ok (asg (.n i) x σ) fun σ' => ok (σ'.getD i none) fun d => ok (inD d (.str t) H2) fun c => K (some (.bl c)) H2) (fun acc H2 => ok (blsOf acc) fun bs => QD (.bl (bs.all id)) H2) (s.map fun c => .str [c]) [] G := by
  refine lcD_ind (fun xs acc H => H = G ∧ (∀ d ∈ acc, d = .bl true) ∧ ∀ x ∈ xs, ∃ c, x = .str [c] ∧ c ∈ t) ?_ ?_ _ _ _ ⟨rfl, fun _ h => (nomatch h), fun x hx => ?_⟩
  · rintro acc H ⟨rfl, h1, _⟩
    obtain ⟨bs, k1, k2⟩ := all_true h1
    rw [k1, ok_some, k2]
    exact hQ
  · rintro x xs acc ih H ⟨rfl, h1, h2⟩
    obtain ⟨c, rfl, hc⟩ := h2 x List.mem_cons_self
    show ok ((σ.set i (some (.str [c]))).getD i none) _
    rw [hg, ok_some]
    show lcD _ _ xs (acc ++ [.bl (decide (c ∈ t))]) H
    rw [decide_eq_true hc]
    refine ih _ _ ⟨rfl, fun d hd => ?_, fun y hy => h2 y (List.mem_cons_of_mem _ hy)⟩
    rcases List.mem_append.mp hd with hd | hd
    · exact h1 d hd
    · rw [List.mem_singleton] at hd; exact hd
  · obtain ⟨c, hc, rfl⟩ := List.mem_map.mp hx
    exact ⟨c, rfl, h c hc⟩
/-! ### are_fields -/
/-! ### parts_of -/
/-! ### is_schema -/
abbrev SE := Kd × Nat
def SE.d (e : SE) : D := .tup [enc e.1, .int (e.2 : Nat)]
end DL

namespace DL
open PySem PySem.Spec PyProof.Rows L2
/-! ### is_row -/
def b_is_integer : Ss :=
 (.c (.ret (.boo true (.c (.isi (.var 0) [.int]) (.c (.nt (.isi (.var 0) [.bool])) .n))))
 .n)
def spIsInt : SpD := fun ds G Q _ => ∃ i, ds = [.int i] ∧ Q (.bl true) G
theorem is_integer_ok {Γ : Gam} (ds : List D) (G : HD) (QD : KD) (XD : KX) (h : spIsInt ds G QD XD) : wSs Γ b_is_integer { nx := fun _ H => QD .non H, rt := QD, ex := fun x _ H => XD x H } (startD 1 ds) G := by
  obtain ⟨i, rfl, hQ⟩ := h
  simp_arith [b_is_integer]
  exact hQ
def b_is_text (gMOST_SIGNS gSIGNS : Nat) : Ss :=
 (.c (.ite (.bo false (.c (.nt (.of (.isi (.var 0) [.str]))) (.c (.cmp .gt (.bf true .len (.c (.var 0) .n)) (.glb gMOST_SIGNS)) .n))) (.c (.ret (.con (.bl false)))
 .n) .n)
 (.c (.ret (.bf true .all (.c (.lc true (.cmp .inn (.var 1) (.glb gSIGNS)) (.n 1) (.of (.var 0)) .yes [("sign", 1)]) .n)))
 .n))
def spIsTx : SpD := fun ds G Q _ => ∃ s, ds = [.str s] ∧ TextOk s ∧ Q (.bl true) G
theorem is_text_ok {Γ : Gam} {gm gs : Nat} (hm : Γ.gl gm = .int 200) (hg : Γ.gl gs = .str signs) (ds : List D) (G : HD) (QD : KD) (XD : KX) (h : spIsTx ds G QD XD) : wSs Γ (b_is_text gm gs) { nx := fun _ H => QD .non H, rt := QD, ex := fun x _ H => XD x H } (startD 2 ds) G := by
  obtain ⟨s, rfl, hs, hQ⟩ := h
  have h2 := hs.1
  have e2 : ((200 : Int) < ((s.length : Nat) : Int)) = False := by simp only [eq_iff_iff, iff_false]; omega
  simp_arith [b_is_text, hm, hg, e2]
  exact all_in (i := 1) (σ := [some (.str s), none]) hs.2 hQ fun d => rfl
def b_is_leaf_value (cis_integer cis_text : Nat) : Ss :=
 (.c (.ite (.cmp .eq (.var 0) (.con (.str sInt))) (.c (.ret (.boo true (.c (.call cis_integer (.c (.var 1) .n)) (.c (.chn .le .lt (.neg (.bin true .pow (.con (.int 2)) (.con (.int 63)))) (.var 1) (.bin true .pow (.con (.int 2)) (.con (.int 63)))) .n))))
 .n) .n)
 (.c (.ite (.cmp .eq (.var 0) (.con (.str sBool))) (.c (.ret (.isi (.var 1) [.bool]))
 .n) .n)
 (.c (.ret (.call cis_text (.c (.var 1) .n)))
 .n)))
def spIsLv : SpD := fun ds G Q _ => ∃ k v, ds = [.str k, v] ∧ LeafV k v ∧ Q (.bl true) G
theorem is_leaf_value_ok {Γ : Gam} {ii it : Nat} (h1 : Γ.sp ii = spIsInt) (h2 : Γ.sp it = spIsTx) (ds : List D) (G : HD) (QD : KD) (XD : KX) (h : spIsLv ds G QD XD) : wSs Γ (b_is_leaf_value ii it) { nx := fun _ H => QD .non H, rt := QD, ex := fun x _ H => XD x H } (startD 2 ds) G := by
  obtain ⟨k, v, rfl, hv, hQ⟩ := h
  have a1 : (sText == sInt) = false := rfl
  have a2 : (sBool == sInt) = false := rfl
  have a3 : (sText == sBool) = false := rfl
  rcases hv with ⟨rfl, i, rfl, hi⟩ | ⟨rfl, s, rfl, hs⟩ | ⟨rfl, b, rfl⟩
  · have e2 : (2 : Int) ^ 63 = 9223372036854775808 := by decide
    have f1 : ((-9223372036854775808 : Int) ≤ i) = True := by simp only [eq_iff_iff, iff_true]; exact hi.1
    have f2 : (i < (9223372036854775808 : Int)) = True := by simp only [eq_iff_iff, iff_true]; exact hi.2
    simp_arith [b_is_leaf_value, h1, h2, beq_self_eq_true]
    refine ⟨i, rfl, ?_⟩
    simp_arith [e2, f1, f2]
    first
      | exact hQ
      | exact ⟨by decide, by decide, hQ⟩
      | exact ⟨by decide, ⟨by decide, hQ⟩⟩
  · simp_arith [b_is_leaf_value, h1, h2, a1, a3]
    exact ⟨s, rfl, hs, hQ⟩
  · simp_arith [b_is_leaf_value, h1, h2, a2, beq_self_eq_true]
    exact hQ
/-! ### is_value -/
abbrev IV := Kd × D × Nat
def IV.d (e : IV) : D := .tup [enc e.1, e.2.1]
def IV.w (e : IV) : Nat := sz e.1 * (e.2.2 + 1)
def IV.Ok (e : IV) : Prop := Wf e.1 ∧ OkV e.1 e.2.1 e.2.2
mutual
theorem sz_le : ∀ k, Wf k → sz k ≤ (lv k).length * dp k
  | .leaf k, _ => by simp [sz, lv, dp]
  | .one o a, w => by
    simp only [Wf] at w
    have h1 := sz_le a w.2
    have h2 := lv_pos a w.2
    simp only [sz, lv, dp, List.length_map, Nat.mul_add]
    omega
  | .recd fs, w => by
    simp only [Wf] at w
    have h1 := szs_le fs w.2
    have h2 := lvs_pos fs w.1.1 w.2
    simp only [sz, lv, dp, Nat.mul_add]
    omega
theorem szs_le : ∀ fs, Wfs fs → szs fs ≤ (lvs fs).length * dps fs
  | .nil, _ => by simp [szs]
  | .cons n k fs, w => by
    simp only [Wfs] at w
    have h1 := sz_le k w.2.1
    have h2 := szs_le fs w.2.2
    simp only [szs, lvs, dps, List.length_append, List.length_map, Nat.add_mul]
    have q1 : (lv k).length * dp k ≤ (lv k).length * max (dp k) (dps fs) := Nat.mul_le_mul_left _ (Nat.le_max_left _ _)
    have q2 : (lvs fs).length * dps fs ≤ (lvs fs).length * max (dp k) (dps fs) := Nat.mul_le_mul_left _ (Nat.le_max_right _ _)
    omega
end
/-! ### the leaves of a choice -/
def pick (P : Nat → Bool) : Nat → List Lf → List Lf
  | _, [] => []
  | f, x :: r => if P f = true then x :: pick P (f + 1) r else pick P (f + 1) r
section
variable {P : Nat → Bool}
theorem pick_app : ∀ (a b : List Lf) (f : Nat), pick P f (a ++ b) = pick P f a ++ pick P (f + a.length) b
  | [], b, f => rfl
  | x :: a, b, f => by
    have := pick_app a b (f + 1)
    simp only [List.cons_append, pick, List.length_cons]
    rw [this, show f + 1 + a.length = f + (a.length + 1) by omega]
    split <;> rfl
theorem pick_map (g : Lf → Lf) : ∀ (a : List Lf) (f : Nat), pick P f (a.map g) = (pick P f a).map g
  | [], f => rfl
  | x :: a, f => by
    simp only [List.map_cons, pick, pick_map g a (f + 1)]
    split <;> rfl
theorem pick_none : ∀ (a : List Lf) (f : Nat), anyP P f a.length = false → pick P f a = []
  | [], _, _ => rfl
  | x :: a, f, h => by
    have h1 : P f = false := by
      cases e : P f with
      | false => rfl
      | true => rw [anyP_iff.mpr ⟨f, Nat.le_refl _, by simp, e⟩] at h; cases h
    have h2 : anyP P (f + 1) a.length = false := by
      cases e : anyP P (f + 1) a.length with
      | false => rfl
      | true =>
        obtain ⟨i, q1, q2, q3⟩ := anyP_iff.mp e
        rw [anyP_iff.mpr ⟨i, by omega, by simp; omega, q3⟩] at h; cases h
    simp only [pick, h1, pick_none a (f + 1) h2]
    simp
mutual
theorem lv_pick : ∀ (k : Kd) (f : Nat), anyP P f (lv k).length = true → lv (chs P k f) = pick P f (lv k)
  | .leaf k, f, h => by
    obtain ⟨i, a, b, c⟩ := anyP_iff.mp h
    simp only [lv, List.length_singleton] at b
    have : i = f := by omega
    subst this
    simp only [chs, lv, pick, c, if_true]
  | .one o a, f, h => by
    simp only [lv, List.length_map] at h
    simp only [chs, lv, lv_pick a f h, pick_map]
  | .recd fs, f, h => by
    simp only [chs, lv]
    exact lvs_pick fs f
theorem lvs_pick : ∀ (fs : Fs) (f : Nat), lvs (chss P fs f) = pick P f (lvs fs)
  | .nil, f => by simp [chss, lvs, pick]
  | .cons n k fs, f => by
    have h2 := lvs_pick fs (f + (lv k).length)
    simp only [chss, lvs, pick_app, List.length_map, pick_map]
    cases e : anyP P f (lv k).length with
    | true => simp only [if_true, lvs, lv_pick k f e, h2]
    | false => simp only [Bool.false_eq_true, if_false, h2, pick_none _ f e, List.map_nil, List.nil_append]
end
end
theorem pick_congr {P Q : Nat → Bool} : ∀ (a : List Lf) (f : Nat), (∀ i, f ≤ i → P i = Q i) → pick P f a = pick Q f a
  | [], _, _ => rfl
  | x :: a, f, h => by
    simp only [pick, h f (Nat.le_refl _), pick_congr a (f + 1) fun i hi => h i (by omega)]
theorem pick_choice (d : Lf) : ∀ (l : List Lf) (f : Nat) (c : List Nat), c.Pairwise (· < ·) → (∀ x ∈ c, f ≤ x ∧ x < f + l.length) → pick (inC c) f l = c.map fun x => l.getD (x - f) d
  | [], f, c, _, h => by
    have : c = [] := by
      cases c with
      | nil => rfl
      | cons x c => have := h x List.mem_cons_self; simp at this; omega
    subst this; rfl
  | y :: l, f, c, p, h => by
    by_cases hf : f ∈ c
    · obtain ⟨x, c', rfl⟩ : ∃ x c', c = x :: c' := by cases c with | nil => cases hf | cons x c' => exact ⟨x, c', rfl⟩
      obtain ⟨p1, p2⟩ := List.pairwise_cons.mp p
      have hx : x = f := by
        rcases List.mem_cons.mp hf with e | e
        · exact e.symm
        · have := p1 f e; have := h x List.mem_cons_self; omega
      subst hx
      have ih := pick_choice d l (x + 1) c' p2 fun z hz => by have := p1 z hz; have := (h z (List.mem_cons_of_mem _ hz)).2; simp at this; omega
      have hc : pick (inC (x :: c')) (x + 1) l = pick (inC c') (x + 1) l := pick_congr l (x + 1) fun i hi => by
        unfold inC
        congr 1
        rw [List.mem_cons, eq_iff_iff]
        exact ⟨fun z => z.resolve_left (by omega), .inr⟩
      have hin : inC (x :: c') x = true := decide_eq_true List.mem_cons_self
      simp only [pick, hin, if_true, hc, ih, List.map_cons, Nat.sub_self, List.getD_cons_zero]
      congr 1
      apply List.map_congr_left
      intro z hz
      have := p1 z hz
      rw [show z - x = (z - (x + 1)) + 1 by omega, List.getD_cons_succ]
    · have hin : inC c f = false := decide_eq_false hf
      have hne : ∀ x ∈ c, x ≠ f := fun x hx e => hf (e ▸ hx)
      have ih := pick_choice d l (f + 1) c p fun z hz => by have h1 := h z hz; have h2 := hne z hz; simp at h1; omega
      simp only [pick, hin, Bool.false_eq_true, if_false, ih]
      apply List.map_congr_left
      intro z hz
      have h1 := h z hz
      have h2 := hne z hz
      rw [show z - f = (z - (f + 1)) + 1 by omega, List.getD_cons_succ]
end DL

namespace DL
open PySem PySem.Spec PyProof.Rows L2
/-! ## 27. cut -/
def b_cvN : Ss := (.c (.for_ (.n 11) (.of (.var 5)) (.c (.ex (.mt .append (.var 11) (.c (.tup (.c (.var 2) (.c (.var 3) (.c (.con .non) .n)))) .n)))
 .n))
 .n)
def b_cvR (cleaves ccut_value : Nat) : Ss := (.c (.set 6 (.con (.int 0)))
 (.c (.for_ (.t [(.n 7), (.t [(.n 8), (.n 9)])]) (.enu (.idx (.var 0) (.con (.int 1)))) (.c (.set 10 (.bf true .len (.c (.frz (.call cleaves (.c (.var 9) .n))) .n)))
 (.c (.ex (.call ccut_value (.c (.var 9) (.c (.idx (.var 1) (.var 7)) (.c (.var 2) (.c (.var 3) (.c (.var 4) (.c (.sl true (.var 5) (.var 6) (.bin true .add (.var 6) (.var 10))) .n))))))))
 (.c (.aug 6 .add (.var 10))
 .n))))
 .n))
def b_cvL (ccut_value : Nat) : Ss := (.c (.for_ (.t [(.n 6), (.n 12)]) (.enu (.var 1)) (.c (.ex (.call ccut_value (.c (.idx (.var 0) (.con (.int 1))) (.c (.var 12) (.c (.ife (.cmp .eq (.var 6) (.con (.int 0))) (.var 2) (.bin true .add (.var 4) (.con (.int 1)))) (.c (.bin true .add (.var 3) (.con (.int 1))) (.c (.bin true .add (.var 4) (.con (.int 1))) (.c (.var 5) .n))))))))
 .n))
 .n)
def b_cv3 (ccut_value : Nat) : Ss := (.c (.ite (.cmp .eq (.idx (.var 0) (.con (.int 0))) (.con (.str sOpt))) (.c (.ex (.call ccut_value (.c (.idx (.var 0) (.con (.int 1))) (.c (.var 1) (.c (.var 2) (.c (.bin true .add (.var 3) (.con (.int 1))) (.c (.var 4) (.c (.var 5) .n))))))))
 .n) (b_cvL ccut_value))
 .n)
def b_cv2 (ccut_value : Nat) : Ss := (.c (.ite (.bo false (.c (.cmp .isn (.var 1) (.con .non)) (.c (.bo true (.c (.cmp .eq (.idx (.var 0) (.con (.int 0))) (.con (.str sList))) (.c (.cmp .eq (.var 1) (.tup .n)) .n))) .n))) b_cvN (b_cv3 ccut_value))
 .n)
def b_cv1 (cleaves ccut_value : Nat) : Ss := (.c (.ite (.cmp .eq (.idx (.var 0) (.con (.int 0))) (.con (.str sRec))) (b_cvR cleaves ccut_value) (b_cv2 ccut_value))
 .n)
def b_cut_value (cleaves ccut_value gLEAVES : Nat) : Ss :=
 (.c (.ite (.cmp .inn (.idx (.var 0) (.con (.int 0))) (.glb gLEAVES)) (.c (.ex (.mt .append (.idx (.var 5) (.con (.int 0))) (.c (.tup (.c (.var 2) (.c (.var 3) (.c (.var 1) .n)))) .n)))
 .n) (b_cv1 cleaves ccut_value))
 .n)
/-- the i-th of these lists has so much more -/
def Cols (rs : List Addr) (G G' : HD) (f : Nat → List D) : Prop := (∀ (i : Nat) (r : Addr) (c : List D), rs[i]? = some r → G r = some (.lst c) → G' r = some (.lst (c ++ f i))) ∧ ∀ x, x ∉ rs → G' x = G x
theorem nd_inj {rs : List Addr} (nd : rs.Nodup) {i j : Nat} {r : Addr} (h1 : rs[i]? = some r) (h2 : rs[j]? = some r) : i = j := by
  obtain ⟨a1, b1⟩ := List.getElem?_eq_some_iff.mp h1
  obtain ⟨a2, b2⟩ := List.getElem?_eq_some_iff.mp h2
  have := List.pairwise_iff_getElem.mp nd
  rcases Nat.lt_trichotomy i j with h | h | h
  · exact absurd (b1.trans b2.symm) (this i j a1 a2 h)
  · exact h
  · exact absurd (b2.trans b1.symm) (this j i a2 a1 h)
theorem cut_mid {α : Type} {xs : List α} {a b : Nat} (h : a + b ≤ xs.length) : cutL xs (some (a : Int)) (some ((a : Int) + (b : Int))) = (xs.drop a).take b := by
  unfold cutL
  rw [show (a : Int) + (b : Int) = ((a + b : Nat) : Int) by omega, HT.sIx_nat, HT.sIx_nat, Nat.min_eq_left (by omega), Nat.min_eq_left (by omega), Nat.add_sub_cancel_left]
theorem en_opt {a : Kd} {i : Nat} {v : D} {t l s : Int} (h : v ≠ .non) : en (.one true a) i v t l s = en a i v t (l + 1) s := by
  cases v <;> first | exact absurd rfl h | simp only [en]
def spCut (n : Nat) : SpD := fun ds G Q _ => ∃ k v m t l s rs, ds = [enc k, v, .int t, .int l, .int s, .lst (rs.map .ref)] ∧ Wf k ∧ OkV k v m ∧ (dp k ≤ n ∧ dp k ≤ 100) ∧ (lv k).length ≤ 1000 ∧ (rs.length = (lv k).length ∧ rs.Nodup) ∧
  (∀ (i : Nat) (r : Addr), rs[i]? = some r → ∃ c, G r = some (.lst c) ∧ c.length + (en k i v t l s).length ≤ 100000) ∧ ∀ G', Cols rs G G' (fun i => en k i v t l s) → Q .non G'
theorem cvN_ok {Γ : Gam} {E : EndsD} {o0 o1 o4 : Option D} {t l : Int} {rs : List Addr} {G : HD} (nd : rs.Nodup) (hc : ∀ r ∈ rs, ∃ c, G r = some (.lst c) ∧ c.length ≤ 100000)
    (h : ∀ σ G', Cols rs G G' (fun _ => [trip t l .non]) → E.nx σ G') :
    wSs Γ b_cvN E [o0, o1, some (.int t), some (.int l), o4, some (.lst (rs.map .ref)), none, none, none, none, none, none, none] G := by
  have hlim : lim = 16777216 := rfl
  simp_arith [b_cvN]
  refine wFor_ind (fun xs σ H => ∃ (a b : List Addr) (o11 : Option D), xs = b.map .ref ∧ rs = a ++ b ∧ σ = [o0, o1, some (.int t), some (.int l), o4, some (.lst (rs.map .ref)), none, none, none, none, none, o11, none] ∧
    (∀ r ∈ a, ∀ c, G r = some (.lst c) → H r = some (.lst (c ++ [trip t l .non]))) ∧ ∀ x, x ∉ a → H x = G x) ?_ ?_ _ _ _ ⟨[], rs, none, rfl, rfl, rfl, fun _ h => (nomatch h), fun _ _ => rfl⟩
  · rintro σ H ⟨a, b, o11, hx, hr, rfl, k1, k2⟩
    have : b = [] := by cases b <;> first | rfl | cases hx
    subst this
    rw [List.append_nil] at hr
    subst hr
    exact h _ _ ⟨fun i r c hi hg => k1 r (List.mem_of_getElem? hi) c hg, k2⟩
  · rintro x xs ih σ H ⟨a, b, o11, hx, hr, rfl, k1, k2⟩
    cases b with
    | nil => cases hx
    | cons r b =>
      rw [List.map_cons] at hx
      injection hx with hx1 hx2
      subst hx1; subst hx2
      have hra : r ∉ a := fun z => by
        rw [hr, List.nodup_append] at nd
        exact nd.2.2 r z r List.mem_cons_self rfl
      obtain ⟨c, hg, hl⟩ := hc r (by rw [hr]; simp)
      have hH : H r = some (.lst c) := (k2 r hra).trans hg
      simp_arith [hH]
      refine ⟨by omega, ih _ _ ⟨a ++ [r], b, _, rfl, by rw [hr]; simp, rfl, fun y hy c' hc' => ?_, fun y hy => ?_⟩⟩
      · rcases List.mem_append.mp hy with hy | hy
        · rw [updD_ne (fun z => hra (by rw [← z]; exact hy))]; exact k1 y hy c' hc'
        · rw [List.mem_singleton] at hy
          subst hy
          rw [hg] at hc'
          cases hc'
          exact updD_same
      · rw [List.mem_append, not_or, List.mem_singleton] at hy
        rw [updD_ne hy.2]
        exact k2 y hy.1
theorem cvL_ok {Γ : Gam} {cv n : Nat} (h1 : Γ.sp cv = spCut n) {E : EndsD} {a : Kd} {vs : List D} {m : Nat} {t l s : Int} {rs : List Addr} {G : HD} (w : Wf a) (hv : OkV (.one false a) (.tup vs) m) (hd' : dp a ≤ n ∧ dp a ≤ 100) (hl : (lv a).length ≤ 1000) (hr : rs.length = (lv a).length) (nd : rs.Nodup)
    (hc : ∀ (i : Nat) (r : Addr), rs[i]? = some r → ∃ c, G r = some (.lst c) ∧ c.length + (enl (fun t' y => en a i y t' (l + 1) (s + 1)) t s vs).length ≤ 100000)
    (h : ∀ σ G', Cols rs G G' (fun i => enl (fun t' y => en a i y t' (l + 1) (s + 1)) t s vs) → E.nx σ G') :
    wSs Γ (b_cvL cv) E [some (.tup [.str (sOne false), enc a]), some (.tup vs), some (.int t), some (.int l), some (.int s), some (.lst (rs.map .ref)), none, none, none, none, none, none, none] G := by
  obtain ⟨vs', evs, _, hall⟩ := okv_list hv
  cases evs
  simp_arith [b_cvL, h1]
  refine wFor_ind (fun xs σ H => ∃ (pre post : List D) (o6 o12 : Option D), xs = enuF pre.length post ∧ vs = pre ++ post ∧ σ = [some (.tup [.str (sOne false), enc a]), some (.tup vs), some (.int t), some (.int l), some (.int s), some (.lst (rs.map .ref)), o6, none, none, none, none, none, o12] ∧
    Cols rs G H (fun i => enl (fun t' y => en a i y t' (l + 1) (s + 1)) t s pre)) ?_ ?_ _ _ _ ⟨[], vs, none, none, rfl, rfl, rfl, fun i r c _ hg => by rw [hg]; simp [enl], fun _ _ => rfl⟩
  · rintro σ H ⟨pre, post, o6, o12, hx, hp, rfl, hC⟩
    have : post = [] := by cases post <;> first | rfl | cases hx
    subst this
    rw [List.append_nil] at hp
    subst hp
    exact h _ _ hC
  · rintro x xs ih σ H ⟨pre, post, o6, o12, hx, hp, rfl, hC⟩
    cases post with
    | nil => cases hx
    | cons y post =>
      have hx : x :: xs = D.tpl [.int (pre.length : Nat), y] :: enuF (pre.length + 1) post := hx
      injection hx with hx1 hx2
      subst hx1; subst hx2
      obtain ⟨m', _, hy⟩ := hall y (by rw [hp]; simp)
      have e0 : ((((pre.length : Nat)) : Int) == 0) = pre.isEmpty := by cases pre <;> simp <;> omega
      have main : ∀ t' : Int, t' = (if pre.isEmpty = true then t else s + 1) → ∀ (Q : KD) (X : KX), (∀ G', Cols rs G G' (fun i => enl (fun t' y => en a i y t' (l + 1) (s + 1)) t s (pre ++ [y])) → Q .non G') → spCut n [enc a, y, .int t', .int (l + 1), .int (s + 1), .lst (rs.map .ref)] H Q X := by
        intro t' ht' Q X hQ
        refine ⟨a, y, m', t', l + 1, s + 1, rs, rfl, w, hy, hd', hl, ⟨hr, nd⟩, fun i r hi => ?_, fun G' hG' => hQ G' ⟨fun i r c hi hg => ?_, fun x hx => (hG'.2 x hx).trans (hC.2 x hx)⟩⟩
        · obtain ⟨c, hg, hcl⟩ := hc i r hi
          refine ⟨_, hC.1 i r c hi hg, ?_⟩
          obtain ⟨q, hq⟩ := enl_app (fun t' y => en a i y t' (l + 1) (s + 1)) t s (pre ++ [y]) post
          rw [List.append_assoc, List.singleton_append, ← hp, enl_snoc, ← ht'] at hq
          rw [hq] at hcl
          simp only [List.length_append] at hcl ⊢
          omega
        · rw [hG'.1 i r _ hi (hC.1 i r c hi hg)]
          simp only [enl_snoc, ← ht', List.append_assoc]
      simp_arith [e0]
      cases hz : pre.isEmpty with
      | true =>
        refine main t (by rw [hz]; rfl) _ _ fun G' hG' => ?_
        exact ih _ _ ⟨pre ++ [y], post, _, _, by rw [List.length_append, List.length_singleton], by rw [hp]; simp, rfl, hG'⟩
      | false =>
        simp_arith []
        refine main (s + 1) (by rw [hz]; rfl) _ _ fun G' hG' => ?_
        exact ih _ _ ⟨pre ++ [y], post, _, _, by rw [List.length_append, List.length_singleton], by rw [hp]; simp, rfl, hG'⟩
theorem lvs_fsOf (p : List Nat × Kd) (ls : List (List Nat × Kd)) : (lvs (fsOf (p :: ls))).length = (lv p.2).length + (lvs (fsOf ls)).length := by
  simp [fsOf, lvs]
theorem cvR_ok {Γ : Gam} {lf cv n : Nat} (h1 : Γ.sp cv = spCut n) (h2 : Γ.sp lf = spLeaves) {E : EndsD} {fs : Fs} {vs : List D} {m : Nat} {t l s : Int} {rs : List Addr} {G : HD} (w : Wfs fs) (hv : OkVs fs vs m) (hd' : dps fs ≤ n ∧ dps fs ≤ 100) (hl : (lvs fs).length ≤ 1000) (hr : rs.length = (lvs fs).length) (nd : rs.Nodup)
    (hc : ∀ (i : Nat) (r : Addr), rs[i]? = some r → ∃ c, G r = some (.lst c) ∧ c.length + (ens fs i vs t l s).length ≤ 100000)
    (h : ∀ σ G', Cols rs G G' (fun i => ens fs i vs t l s) → E.nx σ G') :
    wSs Γ (b_cvR lf cv) E [some (.tup [.str sRec, .tup (encs fs)]), some (.tup vs), some (.int t), some (.int l), some (.int s), some (.lst (rs.map .ref)), none, none, none, none, none, none, none] G := by
  simp_arith [b_cvR, h1, h2]
  refine wFor_ind (fun xs σ H => ∃ (pl ls : List (List Nat × Kd)) (pw ws : List D) (b off : Nat) (o7 o8 o9 o10 : Option D), xs = enuF pl.length (ls.map enc1) ∧ toL fs = pl ++ ls ∧ vs = pw ++ ws ∧ pw.length = pl.length ∧ OkVs (fsOf ls) ws b ∧ off + (lvs (fsOf ls)).length = rs.length ∧
    (∀ i, ens fs (off + i) vs t l s = ens (fsOf ls) i ws t l s) ∧
    (∀ (i : Nat) (r : Addr) (c : List D), i < off → rs[i]? = some r → G r = some (.lst c) → H r = some (.lst (c ++ ens fs i vs t l s))) ∧ (∀ (i : Nat) (r : Addr), off ≤ i → rs[i]? = some r → H r = G r) ∧ (∀ x, x ∉ rs → H x = G x) ∧
    σ = [some (.tup [.str sRec, .tup (encs fs)]), some (.tup vs), some (.int t), some (.int l), some (.int s), some (.lst (rs.map .ref)), some (.int off), o7, o8, o9, o10, none, none]) ?_ ?_ _ _ _
    ⟨[], toL fs, [], vs, m, 0, none, none, none, none, by rw [encs_eq]; rfl, rfl, rfl, rfl, by rw [fsOf_toL]; exact hv, by rw [fsOf_toL]; omega, fun i => by rw [fsOf_toL, Nat.zero_add], fun i r c hi => absurd hi (Nat.not_lt_zero _), fun _ _ _ _ => rfl, fun _ _ => rfl, rfl⟩
  · rintro σ H ⟨pl, ls, pw, ws, b, off, o7, o8, o9, o10, hx, e1, e2, e3, hok, hoff, hens, hA, hB, hC, rfl⟩
    have : ls = [] := by cases ls <;> first | rfl | cases hx
    subst this
    have hoff : off = rs.length := by simpa [fsOf, lvs] using hoff
    exact h _ _ ⟨fun i r c hi hg => hA i r c (by rw [hoff]; exact (List.getElem?_eq_some_iff.mp hi).1) hi hg, hC⟩
  · rintro x xs ih σ H ⟨pl, ls, pw, ws, b, off, o7, o8, o9, o10, hx, e1, e2, e3, hok, hoff, hens, hA, hB, hC, rfl⟩
    cases ls with
    | nil => cases hx
    | cons p ls =>
      have hx : x :: xs = D.tpl [.int (pl.length : Nat), .tup [.str p.1, enc p.2]] :: enuF (pl.length + 1) (ls.map enc1) := hx
      injection hx with hx1 hx2
      subst hx1; subst hx2
      simp only [fsOf, OkVs] at hok
      obtain ⟨v, ws', a1, b1, rfl, hab, hv1, hv2⟩ := hok
      rw [lvs_fsOf] at hoff
      have hp : p ∈ toL fs := by rw [e1]; simp
      have wp := (wfs_eq w p hp).2
      have dpp := dps_eq p hp
      have ev : atI vs ((pl.length : Nat) : Int) = some v := by
        rw [at_nat, e2, ← e3, List.getElem?_append_right (Nat.le_refl _), Nat.sub_self]; rfl
      have ec : cutL (rs.map D.ref) (some (off : Int)) (some ((off : Int) + ((lv p.2).length : Int))) = ((rs.drop off).take (lv p.2).length).map D.ref := by
        rw [cut_mid (by rw [List.length_map]; omega), List.map_take, List.map_drop]
      have hin : ∀ (i : Nat) (r : Addr), ((rs.drop off).take (lv p.2).length)[i]? = some r → i < (lv p.2).length ∧ rs[off + i]? = some r := fun i r hi => by
        have hlt := (List.getElem?_eq_some_iff.mp hi).1
        rw [List.length_take] at hlt
        rw [List.getElem?_take_of_lt (by omega), List.getElem?_drop] at hi
        exact ⟨by omega, hi⟩
      have hen : ∀ i, i < (lv p.2).length → ens fs (off + i) vs t l s = en p.2 i v t l s := fun i hi => by
        rw [hens i]; simp only [fsOf, ens]; rw [if_pos hi]
      simp_arith []
      refine ⟨p.2, rfl, wp, by omega, by omega, fun q hq => ?_⟩
      have e5 : ∀ x, delD (updD H q x) q = H := fun x => delD_updD hq
      simp_arith [updD_same, e5, List.length_map, ev, ec]
      refine ⟨p.2, v, a1, t, l, s, _, rfl, wp, hv1, ⟨by omega, by omega⟩, by omega, ⟨by rw [List.length_take, List.length_drop]; omega, nd.sublist ((List.take_sublist _ _).trans (List.drop_sublist _ _))⟩, fun i r hi => ?_, fun G' hG' => ?_⟩
      · obtain ⟨hi1, hi2⟩ := hin i r hi
        obtain ⟨c, hg, hcl⟩ := hc (off + i) r hi2
        rw [hen i hi1] at hcl
        exact ⟨c, (hB (off + i) r (by omega) hi2).trans hg, hcl⟩
      · simp_arith []
        have hout : ∀ (i : Nat) (r : Addr), rs[i]? = some r → (i < off ∨ off + (lv p.2).length ≤ i) → r ∉ (rs.drop off).take (lv p.2).length := fun i r hi ho hm => by
          obtain ⟨j, hj, ej⟩ := List.mem_iff_getElem.mp hm
          obtain ⟨q1, q2⟩ := hin j r (by rw [← ej]; exact List.getElem?_eq_getElem hj)
          have := nd_inj nd hi q2
          omega
        refine ih _ _ ⟨pl ++ [p], ls, pw ++ [v], ws', b1, off + (lv p.2).length, _, _, _, _, by rw [List.length_append, List.length_singleton], by rw [e1]; simp, by rw [e2]; simp, by simp [e3], hv2, by omega, fun i => ?_, fun i r c hi hri hg => ?_, fun i r hi hri => ?_, fun x hx => ?_, rfl⟩
        · rw [Nat.add_assoc, hens]
          simp only [fsOf, ens]
          rw [if_neg (by omega), Nat.add_sub_cancel_left]
        · by_cases hlt : i < off
          · rw [hG'.2 r (hout i r hri (.inl hlt))]
            exact hA i r c hlt hri hg
          · have hj : ((rs.drop off).take (lv p.2).length)[i - off]? = some r := by
              rw [List.getElem?_take_of_lt (by omega), List.getElem?_drop, show off + (i - off) = i by omega]; exact hri
            have := hen (i - off) (by omega)
            rw [show off + (i - off) = i by omega] at this
            rw [this]
            exact hG'.1 (i - off) r c hj ((hB i r (by omega) hri).trans hg)
        · rw [hG'.2 r (hout i r hri (.inr hi))]
          exact hB i r (by omega) hri
        · rw [hG'.2 x (fun z => hx (List.mem_of_mem_drop (List.mem_of_mem_take z)))]
          exact hC x hx
theorem cut_value_ok {Γ : Gam} {lf cv gl n : Nat} (h1 : Γ.sp cv = spCut n) (h2 : Γ.sp lf = spLeaves) (hg : Γ.gl gl = .tup [.str sInt, .str sText, .str sBool]) (ds : List D) (G : HD) (QD : KD) (XD : KX) (h : spCut (n + 1) ds G QD XD) :
    wSs Γ (b_cut_value lf cv gl) { nx := fun _ H => QD .non H, rt := QD, ex := fun x _ H => XD x H } (startD 13 ds) G := by
  obtain ⟨k, v, m, t, l, s, rs, rfl, w, hv, hd', hl, ⟨hr, nd⟩, hc, hQ⟩ := h
  have hlim : lim = 16777216 := rfl
  cases k with
  | leaf k =>
    simp only [lv, List.length_singleton] at hr
    obtain ⟨r, rfl⟩ := List.length_eq_one_iff.mp hr
    obtain ⟨c, hgr, hcl⟩ := hc 0 r rfl
    simp_arith [b_cut_value, h1, h2, hg, enc, leaf_in w, hgr]
    refine ⟨by omega, hQ _ ⟨fun i r' c' hi hg' => ?_, fun x hx => ?_⟩⟩
    · have : i = 0 := by have := (List.getElem?_eq_some_iff.mp hi).1; simp at this; exact this
      subst this
      simp at hi; subst hi
      rw [hgr] at hg'; cases hg'
      rw [updD_same]
      simp only [en]
      rfl
    · rw [List.mem_singleton] at hx
      exact updD_ne hx
  | recd fs =>
    simp only [OkV] at hv
    obtain ⟨vs, rfl, hv⟩ := hv
    simp only [Wf] at w
    simp only [dp] at hd'
    simp only [lv] at hl hr
    simp_arith [b_cut_value, hg, enc, rec_in]
    simp_arith [b_cv1, beq_self_eq_true]
    refine cvR_ok h1 h2 w.2 hv ⟨by omega, by omega⟩ hl hr nd (fun i r hi => ?_) fun σ G' hG' => ?_
    · obtain ⟨c, q1, q2⟩ := hc i r hi
      simp only [en] at q2
      exact ⟨c, q1, q2⟩
    · refine hQ G' ?_
      simpa only [en] using hG'
  | one o a =>
    simp only [Wf] at w
    simp only [dp] at hd'
    simp only [lv, List.length_map] at hl hr
    have hcN : ∀ r ∈ rs, ∃ c, G r = some (.lst c) ∧ c.length ≤ 100000 := fun r hm => by
      obtain ⟨i, hi, e⟩ := List.mem_iff_getElem.mp hm
      obtain ⟨c, q1, q2⟩ := hc i r (by rw [← e]; exact List.getElem?_eq_getElem hi)
      exact ⟨c, q1, by omega⟩
    cases o with
    | true =>
      have o1 : (sOne true == sList) = false := rfl
      have o2 : (sOne true == sOpt) = true := rfl
      by_cases hz : v = .non
      · subst hz
        simp_arith [b_cut_value, hg, enc, one_in]
        simp_arith [b_cv1, one_nr]
        simp_arith [b_cv2]
        refine cvN_ok nd hcN fun σ G' hG' => hQ G' ?_
        simpa only [en] using hG'
      · simp only [OkV] at hv
        have hv := hv.resolve_left hz
        have isv : ∀ H, cmpD .isn v .non H = some false := fun H => is_val hz
        simp_arith [b_cut_value, hg, enc, one_in]
        simp_arith [b_cv1, one_nr]
        simp_arith [b_cv2, o1, isv]
        simp_arith [b_cv3, h1, o2]
        refine ⟨a, v, m, t, l + 1, s, rs, rfl, w.2, hv, ⟨by omega, by omega⟩, hl, ⟨hr, nd⟩, fun i r hi => ?_, fun G' hG' => hQ G' ?_⟩
        · obtain ⟨c, q1, q2⟩ := hc i r hi
          rw [en_opt hz] at q2
          exact ⟨c, q1, q2⟩
        · simpa only [en_opt hz] using hG'
    | false =>
      have o1 : (sOne false == sList) = true := rfl
      have o2 : (sOne false == sOpt) = false := rfl
      have hpy := py_okv _ _ _ hv
      have hv0 := hv
      obtain ⟨vs, rfl, _, _⟩ := okv_list hv
      have hpys : ∃ ys, pys vs = some ys := by
        obtain ⟨x, hx⟩ := hpy
        simp only [py] at hx
        split at hx
        · rename_i xs e; exact ⟨xs, e⟩
        · cases hx
      have en0 : ∀ H, eqD (.tup vs) (.tup []) H = some vs.isEmpty := fun H => eq_nil hpys
      simp_arith [b_cut_value, hg, enc, one_in]
      simp_arith [b_cv1, one_nr]
      simp_arith [b_cv2, o1, en0]
      cases vs with
      | nil =>
        refine cvN_ok nd hcN fun σ G' hG' => hQ G' ?_
        simpa only [en] using hG'
      | cons x vs =>
        simp_arith [b_cv3, List.isEmpty_cons, o2]
        refine cvL_ok h1 w.2 hv0 ⟨by omega, by omega⟩ hl hr nd (fun i r hi => ?_) fun σ G' hG' => hQ G' ?_
        · obtain ⟨c, q1, q2⟩ := hc i r hi
          simp only [en] at q2
          exact ⟨c, q1, q2⟩
        · simpa only [en] using hG'
/-! ### cut -/
end DL

namespace DL
open PySem PySem.Spec PyProof.Rows L2
/-! ## 74. Columns: joining, plain -/
/-- behind the first entry of a value all turns are above s, all levels at least l -/
def Bd (s l : Int) (e : D) : Prop := ∃ (t' l' : Int) (x : D), e = trip t' l' x ∧ s < t' ∧ l ≤ l'
def Hd (t l s : Int) (es : List D) : Prop := ∃ (l' : Int) (x : D) (r : List D), es = trip t l' x :: r ∧ l ≤ l' ∧ ∀ e ∈ r, Bd s l e
theorem Bd.mono {s s' l l' : Int} {e : D} (hs : s' ≤ s) (hl : l' ≤ l) : Bd s l e → Bd s' l' e := fun ⟨t, m, x, h1, h2, h3⟩ => ⟨t, m, x, h1, by omega, by omega⟩
theorem hd_all {t l s s0 : Int} {es : List D} (h : Hd t l s es) (ht : s0 < t) (hs : s0 ≤ s) : ∀ e ∈ es, Bd s0 l e := by
  obtain ⟨l', x, r, rfl, h1, h2⟩ := h
  intro e he
  rcases List.mem_cons.mp he with rfl | he
  · exact ⟨t, l', x, rfl, ht, h1⟩
  · exact (h2 e he).mono hs (Int.le_refl _)
theorem hd_enl {f : Int → D → List D} {t l s : Int} {x : D} {xs : List D} (h : ∀ t' y, y ∈ x :: xs → Hd t' (l + 1) (s + 1) (f t' y)) : Hd t l s (enl f t s (x :: xs)) := by
  obtain ⟨l', x0, r, e, h1, h2⟩ := h t x List.mem_cons_self
  refine ⟨l', x0, r ++ xs.flatMap (f (s + 1)), by simp only [enl]; rw [e]; rfl, by omega, fun e he => ?_⟩
  rcases List.mem_append.mp he with he | he
  · exact (h2 e he).mono (by omega) (by omega)
  · obtain ⟨y, hy, he⟩ := List.mem_flatMap.mp he
    exact (hd_all (h (s + 1) y (List.mem_cons_of_mem _ hy)) (s0 := s) (by omega) (by omega) e he).mono (Int.le_refl _) (by omega)
mutual
theorem en_hd : ∀ (k : Kd) (i : Nat) (v : D) (n : Nat) (t l s : Int), Wf k → OkV k v n → i < (lv k).length → Hd t l s (en k i v t l s)
  | .leaf k, i, v, n, t, l, s, _, _, _ => by
    simp only [en]
    exact ⟨l, v, [], rfl, Int.le_refl _, fun e h => nomatch h⟩
  | .one true a, i, v, n, t, l, s, w, hv, hi => by
    simp only [lv, List.length_map] at hi
    simp only [Wf] at w
    by_cases hn : v = .non
    · subst hn
      simp only [en]
      exact ⟨l, .non, [], rfl, Int.le_refl _, fun e h => nomatch h⟩
    · rw [en_opt hn]
      simp only [OkV] at hv
      obtain ⟨l', x, r, e, h1, h2⟩ := en_hd a i v n t (l + 1) s w.2 (hv.resolve_left hn) hi
      exact ⟨l', x, r, e, by omega, fun e he => (h2 e he).mono (Int.le_refl _) (by omega)⟩
  | .one false a, i, v, n, t, l, s, w, hv, hi => by
    simp only [lv, List.length_map] at hi
    simp only [Wf] at w
    obtain ⟨vs, rfl, _, hvs⟩ := okv_list hv
    cases vs with
    | nil =>
      simp only [en]
      exact ⟨l, .non, [], rfl, Int.le_refl _, fun e h => nomatch h⟩
    | cons x xs =>
      simp only [en]
      exact hd_enl fun t' y hy => by
        obtain ⟨m, _, q⟩ := hvs y hy
        exact en_hd a i y m t' (l + 1) (s + 1) w.2 q hi
  | .recd fs, i, v, n, t, l, s, w, hv, hi => by
    simp only [lv] at hi
    simp only [Wf] at w
    simp only [OkV] at hv
    obtain ⟨vs, rfl, q⟩ := hv
    simp only [en]
    exact ens_hd fs i vs n t l s w.2 q hi
theorem ens_hd : ∀ (fs : Fs) (i : Nat) (vs : List D) (n : Nat) (t l s : Int), Wfs fs → OkVs fs vs n → i < (lvs fs).length → Hd t l s (ens fs i vs t l s)
  | .nil, i, vs, n, t, l, s, _, _, hi => by simp [lvs] at hi
  | .cons m k fs, i, vs, n, t, l, s, w, hv, hi => by
    simp only [Wfs] at w
    simp only [OkVs] at hv
    obtain ⟨v, r, a, b, rfl, _, h1, h2⟩ := hv
    simp only [lvs, List.length_append, List.length_map] at hi
    simp only [ens]
    split
    · rename_i c
      exact en_hd k i v a t l s w.2.1 h1 c
    · exact ens_hd fs _ r b t l s w.2.2 h2 (by omega)
end
/-! ### the shape -/
/-- what a column tells of some common steps -/
def shp (c tt : Int) (es : List D) : List D := es.filterMap fun e => match e with
  | .tup [.int t, .int l, _] => if t ≤ tt then some (.tup [.int t, .int (if c < l then c else l)]) else none
  | _ => none
theorem shp_app (c tt : Int) (a b : List D) : shp c tt (a ++ b) = shp c tt a ++ shp c tt b := List.filterMap_append
theorem shp_hd {t l s : Int} {es : List D} (h : Hd t l s es) (ht : t ≤ s) : shp l s es = [.tup [.int t, .int l]] := by
  obtain ⟨l', x, r, rfl, h1, h2⟩ := h
  have e1 : shp l s (trip t l' x :: r) = shp l s [trip t l' x] ++ shp l s r := shp_app l s [trip t l' x] r
  have e2 : shp l s r = [] := by
    unfold shp
    rw [List.filterMap_eq_nil_iff]
    intro e he
    obtain ⟨t', l2, y, rfl, h3, _⟩ := h2 e he
    simp only [trip]
    rw [if_neg (by omega)]
  have e3 : shp l s [trip t l' x] = [.tup [.int t, .int l]] := by
    unfold shp trip
    simp only [List.filterMap_cons, List.filterMap_nil, if_pos ht]
    by_cases c : l < l'
    · rw [if_pos c]
    · rw [if_neg c, show l' = l by omega]
  rw [e1, e2, e3]; rfl
mutual
/-- how many steps two paths have in common, and how many of them are lists -/
def cm : Kd → List (List Nat) → List (List Nat) → Int × Int
  | .leaf _, _, _ => (0, 0)
  | .one o a, p, q => ((cm a p q).1 + 1, (cm a p q).2 + (if o then 0 else 1))
  | .recd fs, p, q => match p, q with
    | x :: p', y :: q' => if x = y then cms fs x p' q' else (0, 0)
    | _, _ => (0, 0)
def cms : Fs → List Nat → List (List Nat) → List (List Nat) → Int × Int
  | .nil, _, _, _ => (0, 0)
  | .cons n k fs, x, p, q => if n = x then cm k p q else cms fs x p q
end
theorem nd_inj2 {α : Type} : ∀ {rs : List α} {i j : Nat} {r : α}, rs.Nodup → rs[i]? = some r → rs[j]? = some r → i = j
  | [], i, _, _, _, h, _ => by simp at h
  | x :: rs, 0, 0, _, _, _, _ => rfl
  | x :: rs, 0, j + 1, r, nd, h1, h2 => by
    simp at h1 h2
    subst h1
    exact absurd (List.mem_of_getElem? h2) (List.nodup_cons.mp nd).1
  | x :: rs, i + 1, 0, r, nd, h1, h2 => by
    simp at h1 h2
    subst h2
    exact absurd (List.mem_of_getElem? h1) (List.nodup_cons.mp nd).1
  | x :: rs, i + 1, j + 1, r, nd, h1, h2 => by
    exact congrArg (· + 1) (nd_inj2 (List.nodup_cons.mp nd).2 (by simpa using h1) (by simpa using h2))
theorem wfs_in : ∀ {fs : Fs} {q : List Nat × Kd}, Wfs fs → q ∈ toL fs → Wf q.2
  | .nil, _, _, h => by simp [toL] at h
  | .cons n k fs, q, w, h => by
    simp only [Wfs] at w
    simp only [toL] at h
    rcases List.mem_cons.mp h with rfl | h
    · exact w.2.1
    · exact wfs_in w.2.2 h
theorem cms_at : ∀ {fs : Fs} {j : Nat} {p : List Nat × Kd} {q r : List (List Nat)}, ((toL fs).map Prod.fst).Nodup → (toL fs)[j]? = some p → cms fs p.1 q r = cm p.2 q r
  | .nil, j, p, q, r, _, h => by simp [toL] at h
  | .cons n k fs, j, p, q, r, nd, h => by
    simp only [toL, List.map_cons, List.nodup_cons] at nd
    cases j with
    | zero =>
      simp [toL] at h
      subst h
      simp only [cms, if_true]
    | succ j =>
      have h : (toL fs)[j]? = some p := by simpa [toL] using h
      have ne : n ≠ p.1 := fun z => nd.1 (by rw [z]; exact List.mem_map_of_mem (List.mem_of_getElem? h))
      simp only [cms]
      rw [if_neg ne]
      exact cms_at nd.2 h
theorem shp_enl {f g : Int → D → List D} {c tt t s : Int} : ∀ {xs : List D} (x : D), (∀ t' y, t' ≤ s + 1 → y ∈ x :: xs → shp c tt (f t' y) = shp c tt (g t' y)) → t ≤ s → shp c tt (enl f t s (x :: xs)) = shp c tt (enl g t s (x :: xs)) := by
  intro xs x h ht
  simp only [enl]
  rw [shp_app, shp_app, h t x (by omega) List.mem_cons_self]
  congr 1
  have h2 : ∀ y ∈ xs, shp c tt (f (s + 1) y) = shp c tt (g (s + 1) y) := fun y hy => h _ y (Int.le_refl _) (List.mem_cons_of_mem _ hy)
  clear h
  induction xs with
  | nil => rfl
  | cons y ys ih =>
    rw [List.flatMap_cons, List.flatMap_cons, shp_app, shp_app, h2 y List.mem_cons_self, ih fun z hz => h2 z (List.mem_cons_of_mem _ hz)]
theorem shp_cm : ∀ (n : Nat) (k : Kd) (i j : Nat) (a b : Lf) (v : D) (m : Nat) (t l s : Int), dp k ≤ n → Wf k → OkV k v m → t ≤ s → (lv k)[i]? = some a → (lv k)[j]? = some b →
    shp (l + (cm k a.p b.p).1) (s + (cm k a.p b.p).2) (en k i v t l s) = shp (l + (cm k a.p b.p).1) (s + (cm k a.p b.p).2) (en k j v t l s)
  | 0, k, _, _, _, _, _, _, _, _, _, hn, _, _, _, _, _ => absurd hn (by have := dpos k; omega)
  | n + 1, .leaf w, i, j, a, b, v, m, t, l, s, _, _, _, _, _, _ => by simp only [en]
  | n + 1, .one true k, i, j, a, b, v, m, t, l, s, hn, w, hv, ht, ha, hb => by
    simp only [Wf] at w
    simp only [dp] at hn
    simp only [lv, List.getElem?_map] at ha hb
    obtain ⟨a', ha', rfl⟩ := Option.map_eq_some_iff.mp ha
    obtain ⟨b', hb', rfl⟩ := Option.map_eq_some_iff.mp hb
    by_cases hv0 : v = .non
    · subst hv0; simp only [en]
    · rw [en_opt hv0, en_opt hv0]
      simp only [OkV] at hv
      have := shp_cm n k i j a' b' v m t (l + 1) s (by omega) w.2 (hv.resolve_left hv0) ht ha' hb'
      simp only [cm, if_true, Int.add_zero]
      rw [show l + ((cm k a'.p b'.p).1 + 1) = l + 1 + (cm k a'.p b'.p).1 by omega]
      exact this
  | n + 1, .one false k, i, j, a, b, v, m, t, l, s, hn, w, hv, ht, ha, hb => by
    simp only [Wf] at w
    simp only [dp] at hn
    simp only [lv, List.getElem?_map] at ha hb
    obtain ⟨a', ha', rfl⟩ := Option.map_eq_some_iff.mp ha
    obtain ⟨b', hb', rfl⟩ := Option.map_eq_some_iff.mp hb
    obtain ⟨vs, rfl, _, hvs⟩ := okv_list hv
    cases vs with
    | nil => simp only [en]
    | cons x xs =>
      simp only [en]
      refine shp_enl x (fun t' y ht' hy => ?_) ht
      obtain ⟨m', _, q⟩ := hvs y hy
      have := shp_cm n k i j a' b' y m' t' (l + 1) (s + 1) (by omega) w.2 q ht' ha' hb'
      simp only [cm, Bool.false_eq_true, if_false]
      rw [show l + ((cm k a'.p b'.p).1 + 1) = l + 1 + (cm k a'.p b'.p).1 by omega, show s + ((cm k a'.p b'.p).2 + 1) = s + 1 + (cm k a'.p b'.p).2 by omega]
      exact this
  | n + 1, .recd fs, i, j, a, b, v, m, t, l, s, hn, w, hv, ht, ha, hb => by
    have w0 := w
    have hv0 := hv
    simp only [Wf] at w
    simp only [dp] at hn
    simp only [OkV] at hv
    obtain ⟨vs, rfl, q⟩ := hv
    have hi : i < (lv (.recd fs)).length := (List.getElem?_eq_some_iff.mp ha).1
    have hj : j < (lv (.recd fs)).length := (List.getElem?_eq_some_iff.mp hb).1
    simp only [lv] at ha hb
    obtain ⟨j1, p1, w1, i1, a', m1, e1, e2, e3, e4, e5, e6, e7⟩ := ens_at fs vs m i a q ha
    obtain ⟨j2, p2, w2, i2, b', m2, f1, f2, f3, f4, f5, f6, f7⟩ := ens_at fs vs m j b q hb
    rw [e3, f3]
    by_cases hp : p1.1 = p2.1
    · have hjj : j1 = j2 := by
        have g1 : ((toL fs).map Prod.fst)[j1]? = some p1.1 := by rw [List.getElem?_map, e1]; rfl
        have g2 : ((toL fs).map Prod.fst)[j2]? = some p1.1 := by rw [List.getElem?_map, f1, hp]; rfl
        exact nd_inj2 w.1.2.1 g1 g2
      subst hjj
      rw [e1] at f1; cases f1
      rw [e2] at f2; cases f2
      have ec : cm (.recd fs) (p1.1 :: a'.p) (p1.1 :: b'.p) = cm p1.2 a'.p b'.p := by
        simp only [cm, if_true]
        exact cms_at w.1.2.1 e1
      rw [ec]
      simp only [en]
      rw [e7, f7]
      exact shp_cm n p1.2 i1 i2 a' b' w1 m1 t l s (by have := dps_eq p1 (List.mem_of_getElem? e1); omega) (wfs_in w.2 (List.mem_of_getElem? e1)) e5 ht e4 f4
    · have ec : cm (.recd fs) (p1.1 :: a'.p) (p2.1 :: b'.p) = (0, 0) := by
        simp only [cm]
        rw [if_neg hp]
      rw [ec, Int.add_zero, Int.add_zero, shp_hd (en_hd _ i _ m t l s w0 hv0 hi) ht, shp_hd (en_hd _ j _ m t l s w0 hv0 hj) ht]
/-! ### the steps' floors -/
/-- how many steps up to the j-th list -/
def flr : List (List Nat) → Nat → Int
  | [], _ => 0
  | x :: st, j => if x = sList then (if j = 1 then 1 else flr st (j - 1) + 1) else flr st j + 1
def nls (st : List (List Nat)) : Nat := st.countP fun x => decide (x = sList)
/-- an entry behind another one -/
def Nxt (st : List (List Nat)) (l s : Int) (e f : D) : Prop := ∃ (j : Nat) (t l1 l2 : Int) (x y : D), e = trip t l1 x ∧ f = trip (s + j) l2 y ∧ 1 ≤ j ∧ j ≤ nls st ∧ l + flr st j ≤ l1 ∧ l + flr st j ≤ l2
def Chn (R : D → D → Prop) : List D → Prop
  | [] => True
  | [_] => True
  | e :: f :: r => R e f ∧ Chn R (f :: r)
theorem chn_app {R : D → D → Prop} : ∀ {a b : List D}, Chn R a → Chn R b → (∀ e ∈ a.getLast?, ∀ f ∈ b.head?, R e f) → Chn R (a ++ b)
  | [], b, _, h, _ => h
  | [e], [], _, _, _ => trivial
  | [e], f :: r, _, h, hh => ⟨hh e rfl f rfl, h⟩
  | e :: f :: r, b, h1, h2, hh => ⟨h1.1, chn_app h1.2 h2 (by simpa using hh)⟩
theorem chn_mono {R R' : D → D → Prop} (h : ∀ e f, R e f → R' e f) : ∀ {a : List D}, Chn R a → Chn R' a
  | [], _ => trivial
  | [_], _ => trivial
  | _ :: _ :: _, q => ⟨h _ _ q.1, chn_mono h q.2⟩
/-- an entry of a leaf with steps st and a word, from l and s on -/
def Ent (st : List (List Nat)) (w : List Nat) (t l s : Int) (e : D) : Prop := ∃ (t' l' : Int) (x : D), e = trip t' l' x ∧ (t' = t ∨ ∃ j : Nat, t' = s + j ∧ 1 ≤ j ∧ j ≤ nls st) ∧ l ≤ l' ∧ l' ≤ l + st.length ∧ (l' < l + st.length → x = .non) ∧ (l' = l + st.length → LeafV w x)
theorem ent_opt {st : List (List Nat)} {w : List Nat} {t l s : Int} {e : D} : Ent st w t (l + 1) s e → Ent (sOpt :: st) w t l s e := fun ⟨t', l', x, h1, h2, h3, h4, h5, h6⟩ => by
  have hn : nls (sOpt :: st) = nls st := by simp [nls, sOpt, sList]
  refine ⟨t', l', x, h1, by rw [hn]; exact h2, by omega, by simp only [List.length_cons]; omega, fun z => h5 (by simp only [List.length_cons] at z; omega), fun z => h6 (by simp only [List.length_cons] at z; omega)⟩
theorem ent_list {st : List (List Nat)} {w : List Nat} {t l s t0 : Int} {e : D} (ht : t0 = t ∨ t0 = s + 1) : Ent st w t0 (l + 1) (s + 1) e → Ent (sList :: st) w t l s e := fun ⟨t', l', x, h1, h2, h3, h4, h5, h6⟩ => by
  have hn : nls (sList :: st) = nls st + 1 := by simp [nls]
  refine ⟨t', l', x, h1, ?_, by omega, by simp only [List.length_cons]; omega, fun z => h5 (by simp only [List.length_cons] at z; omega), fun z => h6 (by simp only [List.length_cons] at z; omega)⟩
  rw [hn]
  rcases h2 with h2 | ⟨j, h2, h7, h8⟩
  · rcases ht with ht | ht
    · exact .inl (by omega)
    · exact .inr ⟨1, by omega, by omega, by omega⟩
  · exact .inr ⟨j + 1, by omega, by omega, by omega⟩
theorem nxt_opt {st : List (List Nat)} {l s : Int} {e f : D} : Nxt st (l + 1) s e f → Nxt (sOpt :: st) l s e f := fun ⟨j, t, l1, l2, x, y, h1, h2, h3, h4, h5, h6⟩ => by
  have hn : nls (sOpt :: st) = nls st := by simp [nls, sOpt, sList]
  have hf : flr (sOpt :: st) j = flr st j + 1 := by simp [flr, sOpt, sList]
  exact ⟨j, t, l1, l2, x, y, h1, h2, h3, by rw [hn]; exact h4, by rw [hf]; omega, by rw [hf]; omega⟩
theorem nxt_list {st : List (List Nat)} {l s : Int} {e f : D} : Nxt st (l + 1) (s + 1) e f → Nxt (sList :: st) l s e f := fun ⟨j, t, l1, l2, x, y, h1, h2, h3, h4, h5, h6⟩ => by
  have hn : nls (sList :: st) = nls st + 1 := by simp [nls]
  have hf : flr (sList :: st) (j + 1) = flr st j + 1 := by
    simp only [flr, if_true]
    rw [if_neg (by omega)]
    rfl
  exact ⟨j + 1, t, l1, l2, x, y, h1, by rw [h2]; congr 1; omega, by omega, by rw [hn]; omega, by rw [hf]; omega, by rw [hf]; omega⟩
theorem enl_chn {f : Int → D → List D} {st : List (List Nat)} {w : List Nat} {l s : Int} : ∀ {xs : List D} {t : Int} (x : D),
    (∀ t' y, y ∈ x :: xs → Hd t' (l + 1) (s + 1) (f t' y) ∧ (∀ e ∈ f t' y, Ent st w t' (l + 1) (s + 1) e) ∧ Chn (Nxt st (l + 1) (s + 1)) (f t' y)) → Chn (Nxt (sList :: st) l s) (enl f t s (x :: xs))
  | [], t, x, h => by
    simp only [enl, List.flatMap_nil, List.append_nil]
    exact chn_mono (fun _ _ => nxt_list) (h t x List.mem_cons_self).2.2
  | y :: ys, t, x, h => by
    have ih := enl_chn (xs := ys) (t := s + 1) y fun t' z hz => h t' z (List.mem_cons_of_mem _ hz)
    simp only [enl, List.flatMap_cons] at ih ⊢
    refine chn_app (chn_mono (fun _ _ => nxt_list) (h t x List.mem_cons_self).2.2) ih fun e he g hg => ?_
    obtain ⟨t', l', x', e1, _, e2, _⟩ := (h t x List.mem_cons_self).2.1 e (List.mem_of_getLast? he)
    obtain ⟨l2, y', r, e3, e4, _⟩ := (h (s + 1) y (by simp)).1
    have hg2 : g = trip (s + 1) l2 y' := by
      rw [e3] at hg
      simpa using hg.symm
    have hf : flr (sList :: st) 1 = 1 := by simp [flr]
    have hn : nls (sList :: st) = nls st + 1 := by simp [nls]
    exact ⟨1, t', l', l2, x', y', e1, hg2, by omega, by rw [hn]; omega, by rw [hf]; omega, by rw [hf]; omega⟩
mutual
theorem en_all : ∀ (k : Kd) (i : Nat) (a : Lf) (v : D) (m : Nat) (t l s : Int), Wf k → OkV k v m → (lv k)[i]? = some a → (∀ e ∈ en k i v t l s, Ent a.s a.k t l s e) ∧ Chn (Nxt a.s l s) (en k i v t l s)
  | .leaf w, i, a, v, m, t, l, s, _, hv, ha => by
    simp only [lv] at ha
    have : a = ⟨[], [], w⟩ := by
      cases i with
      | zero => exact (Option.some.inj ha).symm
      | succ i => simp at ha
    subst this
    simp only [OkV] at hv
    simp only [en]
    refine ⟨fun e he => ?_, trivial⟩
    rw [List.mem_singleton] at he
    subst he
    exact ⟨t, l, v, rfl, .inl rfl, by omega, by simp, fun z => by simp at z, fun _ => hv⟩
  | .one true k, i, a, v, m, t, l, s, w, hv, ha => by
    simp only [Wf] at w
    simp only [lv, List.getElem?_map] at ha
    obtain ⟨a', ha', rfl⟩ := Option.map_eq_some_iff.mp ha
    by_cases hv0 : v = .non
    · subst hv0
      simp only [en]
      refine ⟨fun e he => ?_, trivial⟩
      rw [List.mem_singleton] at he
      subst he
      exact ⟨t, l, .non, rfl, .inl rfl, by omega, by simp only [List.length_cons]; omega, fun _ => rfl, fun z => by simp only [List.length_cons] at z; omega⟩
    · rw [en_opt hv0]
      simp only [OkV] at hv
      obtain ⟨h1, h2⟩ := en_all k i a' v m t (l + 1) s w.2 (hv.resolve_left hv0) ha'
      exact ⟨fun e he => ent_opt (h1 e he), chn_mono (fun _ _ => nxt_opt) h2⟩
  | .one false k, i, a, v, m, t, l, s, w, hv, ha => by
    simp only [Wf] at w
    simp only [lv, List.getElem?_map] at ha
    obtain ⟨a', ha', rfl⟩ := Option.map_eq_some_iff.mp ha
    obtain ⟨vs, rfl, _, hvs⟩ := okv_list hv
    cases vs with
    | nil =>
      simp only [en]
      refine ⟨fun e he => ?_, trivial⟩
      rw [List.mem_singleton] at he
      subst he
      exact ⟨t, l, .non, rfl, .inl rfl, by omega, by simp only [List.length_cons]; omega, fun _ => rfl, fun z => by simp only [List.length_cons] at z; omega⟩
    | cons x xs =>
      simp only [en]
      have each : ∀ t' y, y ∈ x :: xs → Hd t' (l + 1) (s + 1) (en k i y t' (l + 1) (s + 1)) ∧ (∀ e ∈ en k i y t' (l + 1) (s + 1), Ent a'.s a'.k t' (l + 1) (s + 1) e) ∧ Chn (Nxt a'.s (l + 1) (s + 1)) (en k i y t' (l + 1) (s + 1)) := fun t' y hy => by
        obtain ⟨m', _, q⟩ := hvs y hy
        exact ⟨en_hd k i y m' t' (l + 1) (s + 1) w.2 q (List.getElem?_eq_some_iff.mp ha').1, en_all k i a' y m' t' (l + 1) (s + 1) w.2 q ha'⟩
      refine ⟨fun e he => ?_, enl_chn x each⟩
      simp only [enl] at he
      rcases List.mem_append.mp he with he | he
      · exact ent_list (.inl rfl) ((each t x List.mem_cons_self).2.1 e he)
      · obtain ⟨y, hy, he⟩ := List.mem_flatMap.mp he
        exact ent_list (.inr rfl) ((each (s + 1) y (List.mem_cons_of_mem _ hy)).2.1 e he)
  | .recd fs, i, a, v, m, t, l, s, w, hv, ha => by
    simp only [Wf] at w
    simp only [OkV] at hv
    obtain ⟨vs, rfl, q⟩ := hv
    simp only [lv] at ha
    simp only [en]
    exact ens_all fs i a vs m t l s w.2 q ha
theorem ens_all : ∀ (fs : Fs) (i : Nat) (a : Lf) (vs : List D) (m : Nat) (t l s : Int), Wfs fs → OkVs fs vs m → (lvs fs)[i]? = some a → (∀ e ∈ ens fs i vs t l s, Ent a.s a.k t l s e) ∧ Chn (Nxt a.s l s) (ens fs i vs t l s)
  | .nil, i, a, vs, m, t, l, s, _, _, ha => by simp [lvs] at ha
  | .cons n k fs, i, a, vs, m, t, l, s, w, hv, ha => by
    simp only [Wfs] at w
    simp only [OkVs] at hv
    obtain ⟨v, r, x, y, rfl, _, h1, h2⟩ := hv
    simp only [lvs] at ha
    simp only [ens]
    split
    · rename_i c
      rw [List.getElem?_append_left (by rw [List.length_map]; exact c), List.getElem?_map] at ha
      obtain ⟨a', ha', rfl⟩ := Option.map_eq_some_iff.mp ha
      exact en_all k i a' v x t l s w.2.1 h1 ha'
    · rename_i c
      rw [List.getElem?_append_right (by rw [List.length_map]; omega), List.length_map] at ha
      exact ens_all fs _ a r y t l s w.2.2 h2 ha
end
/-! ### the steps' floors, as a list -/
def flL : Nat → List (List Nat) → List Int
  | _, [] => []
  | b, x :: st => if x = sList then ((b + 1 : Nat) : Int) :: flL (b + 1) st else flL (b + 1) st
theorem flL_len : ∀ (b : Nat) (st : List (List Nat)), (flL b st).length = nls st
  | b, [] => rfl
  | b, x :: st => by
    have := flL_len (b + 1) st
    simp only [flL, nls, List.countP_cons] at this ⊢
    by_cases c : x = sList
    · simp [c, this]
    · simp [c, this]
theorem flL_at : ∀ (b : Nat) (st : List (List Nat)) (j : Nat), j < nls st → (flL b st)[j]? = some (b + flr st (j + 1))
  | b, [], j, h => by simp [nls] at h
  | b, x :: st, j, h => by
    by_cases c : x = sList
    · subst c
      have hn : nls (sList :: st) = nls st + 1 := by simp [nls]
      simp only [flL, if_true]
      cases j with
      | zero => simp [flr]
      | succ j =>
        rw [List.getElem?_cons_succ, flL_at (b + 1) st j (by omega)]
        simp only [flr, if_true]
        rw [if_neg (by omega)]
        congr 1
        simp; omega
    · have hn : nls (x :: st) = nls st := by simp [nls, c]
      simp only [flL, if_neg c, flr]
      rw [flL_at (b + 1) st j (by omega)]
      congr 1
      simp; omega
/-! ### what a choice makes of entries -/
section
variable {P : Nat → Bool}
mutual
theorem en_chs : ∀ (k : Kd) (f i : Nat) (v : D) (n : Nat) (t l s : Int), Wf k → OkV k v n → i < (lv k).length → P (f + i) = true → en (chs P k f) (cnt P (f + i) - cnt P f) (wo P k f v) t l s = en k i v t l s
  | .leaf k, f, i, v, n, t, l, s, _, _, _, _ => by simp only [chs, wo, en]
  | .one true k, f, i, v, n, t, l, s, w, hv, hi, hp => by
    simp only [Wf] at w
    simp only [lv, List.length_map] at hi
    by_cases hv0 : v = .non
    · subst hv0; simp only [chs, wo, en]
    · simp only [OkV] at hv
      have h2 := hv.resolve_left hv0
      rw [wo_opt hv0]
      simp only [chs]
      rw [en_opt hv0, en_opt (wo_ne h2 (w.1 trivial))]
      exact en_chs k f i v n t (l + 1) s w.2 h2 hi hp
  | .one false k, f, i, v, n, t, l, s, w, hv, hi, hp => by
    simp only [Wf] at w
    simp only [lv, List.length_map] at hi
    obtain ⟨vs, rfl, hlen, hvs⟩ := okv_list hv
    cases vs with
    | nil => simp only [chs, wo, en, List.map_nil]
    | cons x xs =>
      simp only [chs, wo, en, List.map_cons, enl]
      obtain ⟨m, _, q⟩ := hvs x List.mem_cons_self
      rw [en_chs k f i x m t (l + 1) (s + 1) w.2 q hi hp]
      congr 1
      have h2 : ∀ y ∈ xs, en (chs P k f) (cnt P (f + i) - cnt P f) (wo P k f y) (s + 1) (l + 1) (s + 1) = en k i y (s + 1) (l + 1) (s + 1) := fun y hy => by
        obtain ⟨m, _, q⟩ := hvs y (List.mem_cons_of_mem _ hy)
        exact en_chs k f i y m (s + 1) (l + 1) (s + 1) w.2 q hi hp
      clear hvs hv q hlen
      induction xs with
      | nil => rfl
      | cons y ys ih =>
        rw [List.map_cons, List.flatMap_cons, List.flatMap_cons, h2 y List.mem_cons_self, ih fun z hz => h2 z (List.mem_cons_of_mem _ hz)]
  | .recd fs, f, i, v, n, t, l, s, w, hv, hi, hp => by
    simp only [Wf] at w
    simp only [lv] at hi
    simp only [OkV] at hv
    obtain ⟨vs, rfl, q⟩ := hv
    simp only [chs, wo, en]
    exact ens_chs fs f i vs n t l s w.2 q hi hp
theorem ens_chs : ∀ (fs : Fs) (f i : Nat) (vs : List D) (n : Nat) (t l s : Int), Wfs fs → OkVs fs vs n → i < (lvs fs).length → P (f + i) = true → ens (chss P fs f) (cnt P (f + i) - cnt P f) (wos P fs f vs) t l s = ens fs i vs t l s
  | .nil, f, i, vs, n, t, l, s, _, _, hi, _ => by simp [lvs] at hi
  | .cons m k fs, f, i, vs, n, t, l, s, w, hv, hi, hp => by
    simp only [Wfs] at w
    simp only [OkVs] at hv
    obtain ⟨v, r, a, b, rfl, _, h1, h2⟩ := hv
    simp only [lvs, List.length_append, List.length_map] at hi
    simp only [chss, wos]
    have c1 : cnt P f ≤ cnt P (f + i) := cnt_mono (by omega)
    cases ea : anyP P f (lv k).length with
    | true =>
      have hl := lv_chs (P := P) k f ea
      rw [if_pos rfl, if_pos rfl]
      simp only [ens]
      by_cases c : i < (lv k).length
      · have c2 : cnt P (f + i) < cnt P (f + (lv k).length) := by
          have := cnt_mono (P := P) (a := f + i + 1) (b := f + (lv k).length) (by omega)
          rw [cnt_step hp] at this
          omega
        rw [if_pos (by omega), if_pos c]
        exact en_chs k f i v a t l s w.2.1 h1 c hp
      · have c2 : cnt P (f + (lv k).length) ≤ cnt P (f + i) := cnt_mono (by omega)
        rw [if_neg (by omega), if_neg c]
        have := ens_chs fs (f + (lv k).length) (i - (lv k).length) r b t l s w.2.2 h2 (by omega) (by rw [show f + (lv k).length + (i - (lv k).length) = f + i by omega]; exact hp)
        rw [show f + (lv k).length + (i - (lv k).length) = f + i by omega] at this
        rw [show cnt P (f + i) - cnt P f - (lv (chs P k f)).length = cnt P (f + i) - cnt P (f + (lv k).length) by omega]
        exact this
    | false =>
      have hl := cnt_none ea
      rw [if_neg Bool.false_ne_true, if_neg Bool.false_ne_true]
      have c : ¬ i < (lv k).length := fun c => by
        have : anyP P f (lv k).length = true := anyP_iff.mpr ⟨f + i, by omega, by omega, hp⟩
        rw [ea] at this; cases this
      have := ens_chs fs (f + (lv k).length) (i - (lv k).length) r b t l s w.2.2 h2 (by omega) (by rw [show f + (lv k).length + (i - (lv k).length) = f + i by omega]; exact hp)
      rw [show f + (lv k).length + (i - (lv k).length) = f + i by omega, hl] at this
      conv => rhs; simp only [ens]
      rw [if_neg c]
      exact this
end
end
end DL

namespace DL
open PySem PySem.Spec PyProof.Rows L2
/-! ## 75. floors, is_entry, is_column -/
def b_floors : Ss :=
 (.c (.set 1 (.lst false (.c (.con (.int 0)) .n)))
 (.c (.for_ (.t [(.n 2), (.n 3)]) (.enu (.var 0)) (.c (.ite (.cmp .eq (.var 3) (.con (.str sList))) (.c (.ex (.mt .append (.var 1) (.c (.bin true .add (.var 2) (.con (.int 1))) .n)))
 .n) .n)
 .n))
 (.c (.ret (.frz (.var 1)))
 .n)))
def flD (st : List (List Nat)) : List D := (0 :: flL 0 st).map D.int
def spFloors : SpD := fun ds G Q _ => ∃ st : List (List Nat), ds = [.tup (st.map .str)] ∧ st.length ≤ 1000 ∧ Q (.lst (flD st)) G
theorem enuF_cons {k : Nat} {d : D} {ds : List D} : enuF k (d :: ds) = .tpl [.int (k : Nat), d] :: enuF (k + 1) ds := rfl
theorem floors_ok {Γ : Gam} (ds : List D) (G : HD) (QD : KD) (XD : KX) (h : spFloors ds G QD XD) : wSs Γ b_floors { nx := fun _ H => QD .non H, rt := QD, ex := fun x _ H => XD x H } (startD 4 ds) G := by
  obtain ⟨st, rfl, hl, hQ⟩ := h
  have hlim : lim = 16777216 := rfl
  simp_arith [b_floors]
  intro p hp
  refine wFor_ind (fun xs σ H => ∃ (k : Nat) (r : List (List Nat)) (acc : List Int) (o2 o3 : Option D), xs = enuF k (r.map .str) ∧ 0 :: flL 0 st = acc ++ flL k r ∧ acc.length + r.length ≤ 1001 ∧ σ = [some (.tup (st.map .str)), some (.ref p), o2, o3] ∧ H = updD G p (.lst (acc.map .int))) ?_ ?_ _ _ _
    ⟨0, st, [0], none, none, rfl, rfl, by simp; omega, rfl, rfl⟩
  · rintro σ H ⟨k, r, acc, o2, o3, hx, he, _, rfl, rfl⟩
    have : r = [] := by cases r <;> first | rfl | cases hx
    subst this
    simp only [flL, List.append_nil] at he
    simp_arith [updD_same]
    rw [delD_updD hp, ← he]
    exact hQ
  · rintro x xs ih σ H ⟨k, r, acc, o2, o3, hx, he, hn, rfl, rfl⟩
    cases r with
    | nil => cases hx
    | cons y r =>
      rw [List.map_cons, enuF_cons] at hx
      injection hx with h1 h2
      subst h1; subst h2
      simp only [List.length_cons] at hn
      simp only [flL] at he
      simp_arith []
      by_cases c : y = sList
      · have e : (y == sList) = true := by rw [beq_iff_eq]; exact c
        rw [if_pos c] at he
        simp_arith [e, updD_same, List.length_map, updD_updD]
        refine And.intro (by omega) (ih _ _ ⟨k + 1, r, acc ++ [((k + 1 : Nat) : Int)], _, _, rfl, by rw [he]; simp, by simp; omega, rfl, ?_⟩)
        rw [List.map_append]; rfl
      · have e : (y == sList) = false := by rw [beq_eq_false_iff_ne]; exact c
        rw [if_neg c] at he
        simp_arith [e]
        exact ih _ _ ⟨k + 1, r, acc, _, _, rfl, he, by omega, rfl, rfl⟩
theorem flD_len {st : List (List Nat)} : (flD st).length = nls st + 1 := by simp [flD, flL_len]
theorem flD_at {st : List (List Nat)} {j : Nat} (h1 : 1 ≤ j) (h2 : j ≤ nls st) : (flD st)[j]? = some (.int (flr st j)) := by
  cases j with
  | zero => omega
  | succ j =>
    have := flL_at 0 st j (by omega)
    unfold flD
    rw [List.getElem?_map, List.getElem?_cons_succ, this]
    simp
def b_is_entry (cis_integer cfloors cis_leaf_value : Nat) : Ss :=
 (.c (.ite (.bo false (.c (.nt (.of (.isi (.var 1) [.tuple]))) (.c (.cmp .ne (.bf true .len (.c (.var 1) .n)) (.con (.int 3))) (.c (.nt (.of (.call cis_integer (.c (.idx (.var 1) (.con (.int 0))) .n)))) (.c (.nt (.of (.call cis_integer (.c (.idx (.var 1) (.con (.int 1))) .n)))) .n))))) (.c (.ret (.con (.bl false)))
 .n) .n)
 (.c (.set 2 (.bf true .len (.c (.idx (.var 0) (.con (.int 1))) .n)))
 (.c (.ite (.bo false (.c (.nt (.chn .le .lt (.con (.int 0)) (.idx (.var 1) (.con (.int 0))) (.bf true .len (.c (.call cfloors (.c (.idx (.var 0) (.con (.int 1))) .n)) .n)))) (.c (.nt (.chn .le .le (.con (.int 0)) (.idx (.var 1) (.con (.int 1))) (.var 2))) .n))) (.c (.ret (.con (.bl false)))
 .n) .n)
 (.c (.ite (.cmp .lt (.idx (.var 1) (.con (.int 1))) (.var 2)) (.c (.ret (.cmp .isn (.idx (.var 1) (.con (.int 2))) (.con .non)))
 .n) .n)
 (.c (.ret (.call cis_leaf_value (.c (.idx (.var 0) (.con (.int 2))) (.c (.idx (.var 1) (.con (.int 2))) .n))))
 .n)))))
def spIsEnt : SpD := fun ds G Q _ => ∃ (a : Lf) (e : D), ds = [a.d, e] ∧ a.s.length ≤ 1000 ∧ Ent a.s a.k 0 0 0 e ∧ Q (.bl true) G
theorem is_entry_ok {Γ : Gam} {ii fl il : Nat} (h1 : Γ.sp ii = spIsInt) (h2 : Γ.sp fl = spFloors) (h3 : Γ.sp il = spIsLv) (ds : List D) (G : HD) (QD : KD) (XD : KX) (h : spIsEnt ds G QD XD) : wSs Γ (b_is_entry ii fl il) { nx := fun _ H => QD .non H, rt := QD, ex := fun x _ H => XD x H } (startD 3 ds) G := by
  obtain ⟨a, e, rfl, hl, ⟨t, l, x, rfl, ht, l1, l2, h4, h5⟩, hQ⟩ := h
  have t0 : 0 ≤ t ∧ t < ((flD a.s).length : Nat) := by
    rw [flD_len]
    rcases ht with rfl | ⟨j, rfl, j1, j2⟩
    · omega
    · omega
  have i3 : (((3 : Nat) : Int) == 3) = true := rfl
  simp_arith [b_is_entry, h1, h2, h3, trip, Lf.d]
  have b1 : decide ((0 : Int) ≤ t) = true := decide_eq_true t0.1
  have b2 : decide (t < ((flD a.s).length : Nat)) = true := decide_eq_true t0.2
  have b3 : decide ((0 : Int) ≤ l) = true := decide_eq_true (by omega)
  have b4 : decide (l ≤ ((a.s.length : Nat) : Int)) = true := decide_eq_true (by omega)
  refine ⟨_, rfl, _, rfl, ?_⟩
  simp_arith [b1]
  refine ⟨a.s, rfl, hl, ?_⟩
  simp_arith [b2, b3, b4, List.length_map]
  by_cases c : l < ((a.s.length : Nat) : Int)
  · have := h4 (by omega)
    subst this
    simp_arith [c]
    exact hQ
  · simp_arith [c]
    exact ⟨a.k, x, rfl, h5 (by omega), hQ⟩
def b_is_column (cis_entry cfloors : Nat) : Ss :=
 (.c (.ite (.bo false (.c (.nt (.of (.isi (.var 1) [.list]))) (.c (.nt (.of (.bf true .all (.c (.lc true (.call cis_entry (.c (.var 0) (.c (.var 7) .n))) (.n 7) (.of (.var 1)) .yes [("entry", 7)]) .n)))) .n))) (.c (.ret (.con (.bl false)))
 .n) .n)
 (.c (.set 2 (.call cfloors (.c (.idx (.var 0) (.con (.int 1))) .n)))
 (.c (.for_ (.t [(.n 3), (.t [(.n 4), (.n 5), (.n 6)])]) (.enu (.var 1)) (.c (.ite (.bo true (.c (.cmp .gt (.var 4) (.con (.int 0))) (.c (.bo false (.c (.cmp .eq (.var 3) (.con (.int 0))) (.c (.cmp .lt (.var 5) (.idx (.var 2) (.var 4))) (.c (.cmp .lt (.idx (.idx (.var 1) (.bin true .sub (.var 3) (.con (.int 1)))) (.con (.int 1))) (.idx (.var 2) (.var 4))) .n)))) .n))) (.c (.ret (.con (.bl false)))
 .n) .n)
 .n))
 (.c (.ret (.boo false (.c (.nt (.var 1)) (.c (.cmp .eq (.idx (.idx (.var 1) (.con (.int 0))) (.con (.int 0))) (.con (.int 0))) .n))))
 .n))))
def Nx0 (st : List (List Nat)) (e f : D) : Prop := (∃ (l : Int) (x : D), f = trip 0 l x) ∨ Nxt st 0 0 e f
/-- a column of a leaf -/
def ColR (a : Lf) (es : List D) : Prop := (∀ e ∈ es, Ent a.s a.k 0 0 0 e) ∧ Chn (Nx0 a.s) es ∧ ∀ e ∈ es.head?, ∃ (l : Int) (x : D), e = trip 0 l x
theorem chn_get {R : D → D → Prop} : ∀ {es : List D} {k : Nat} {e f : D}, Chn R es → es[k]? = some e → es[k + 1]? = some f → R e f
  | [], _, _, _, _, h, _ => by simp at h
  | [_], k, _, _, _, _, h => by simp at h
  | a :: b :: r, 0, e, f, h, h1, h2 => by simp at h1 h2; rw [← h1, ← h2]; exact h.1
  | a :: b :: r, k + 1, e, f, h, h1, h2 => chn_get h.2 (by simpa using h1) (by simpa using h2)
def spIsCol : SpD := fun ds G Q _ => ∃ (a : Lf) (es : List D), ds = [a.d, .lst es] ∧ a.s.length ≤ 1000 ∧ ColR a es ∧ Q (.bl true) G
theorem is_column_ok {Γ : Gam} {ie fl : Nat} (h1 : Γ.sp ie = spIsEnt) (h2 : Γ.sp fl = spFloors) (ds : List D) (G : HD) (QD : KD) (XD : KX) (h : spIsCol ds G QD XD) : wSs Γ (b_is_column ie fl) { nx := fun _ H => QD .non H, rt := QD, ex := fun x _ H => XD x H } (startD 8 ds) G := by
  obtain ⟨a, es, rfl, hl, ⟨c1, c2, c3⟩, hQ⟩ := h
  have hlim : lim = 16777216 := rfl
  have ea : a.d = .tup [.tup (a.p.map .str), .tup (a.s.map .str), .str a.k] := rfl
  generalize hA : a.d = A at ea
  simp_arith [b_is_column, h1, h2]
  refine lcD_ind (fun xs acc H => H = G ∧ (∀ x ∈ xs, x ∈ es) ∧ ∀ d ∈ acc, d = .bl true) ?_ ?_ _ _ _ ⟨rfl, fun x h => h, fun _ h => nomatch h⟩
  · rintro acc H ⟨rfl, _, hacc⟩
    obtain ⟨bs, hb1, hb2⟩ := all_true hacc
    rw [hb1, ok_some, hb2]
    simp_arith [ea]
    refine ⟨a.s, rfl, hl, ?_⟩
    simp_arith []
    refine wFor_ind (fun xs σ H' => H' = H ∧ ∃ (k : Nat) (o3 o4 o5 o6 : Option D), xs = enuF k (es.drop k) ∧ k ≤ es.length ∧ σ = [some (.tup [.tup (a.p.map .str), .tup (a.s.map .str), .str a.k]), some (.lst es), some (.lst (flD a.s)), o3, o4, o5, o6, none]) ?_ ?_ _ _ _
      ⟨rfl, 0, none, none, none, none, rfl, Nat.zero_le _, rfl⟩
    · rintro σ H' ⟨rfl, k, o3, o4, o5, o6, _, _, rfl⟩
      simp_arith []
      cases es with
      | nil => exact hQ
      | cons e r =>
        obtain ⟨l, x, he⟩ := c3 e rfl
        subst he
        have e0 : ((r.length + 1) != 0) = true := by simp
        simp_arith [e0, trip, beq_self_eq_true]
        exact hQ
    · rintro x xs ih σ H' ⟨rfl, k, o3, o4, o5, o6, hx, hk, rfl⟩
      have hlt : k < es.length := by
        rcases Nat.lt_or_ge k es.length with h | h
        · exact h
        · rw [List.drop_eq_nil_of_le h] at hx; cases hx
      obtain ⟨e, he⟩ : ∃ e, es[k]? = some e := ⟨es[k], List.getElem?_eq_getElem hlt⟩
      have hd : es.drop k = e :: es.drop (k + 1) := by
        rw [List.drop_eq_getElem_cons hlt]
        rw [List.getElem?_eq_getElem hlt] at he
        rw [Option.some.inj he]
      rw [hd, enuF_cons] at hx
      injection hx with hx1 hx2
      subst hx1; subst hx2
      obtain ⟨t, l, y, rfl, ht, _⟩ := c1 e (List.mem_of_getElem? he)
      have next := ih [some (.tup [.tup (a.p.map .str), .tup (a.s.map .str), .str a.k]), some (.lst es), some (.lst (flD a.s)), some (.int k), some (.int t), some (.int l), some y, none] H' ⟨rfl, k + 1, _, _, _, _, rfl, hlt, rfl⟩
      simp_arith [trip]
      by_cases t0 : 0 < t
      · obtain ⟨j, hj, j1, j2⟩ : ∃ j : Nat, t = j ∧ 1 ≤ j ∧ j ≤ nls a.s := by
          rcases ht with h | ⟨j, h, j1, j2⟩
          · omega
          · exact ⟨j, by omega, j1, j2⟩
        subst hj
        cases k with
        | zero =>
          obtain ⟨l0, x0, h0⟩ := c3 (trip j l y) (by rw [List.head?_eq_getElem?]; exact he)
          unfold trip at h0
          injection h0 with h0; injection h0 with h0 _; injection h0 with h0
          omega
        | succ k =>
          obtain ⟨f, hf⟩ : ∃ f, es[k]? = some f := ⟨es[k]'(by omega), List.getElem?_eq_getElem (by omega)⟩
          have nx := chn_get c2 hf he
          rcases nx with ⟨l0, x0, h0⟩ | ⟨j', t1, l1, l2, x1, y1, e1, e2, e3, e4, e5, e6⟩
          · unfold trip at h0
            injection h0 with h0; injection h0 with h0 _; injection h0 with h0
            omega
          · subst e1
            unfold trip at e2
            injection e2 with e2; injection e2 with e2 e2'; injection e2 with e2; injection e2' with e2' _; injection e2' with e2'
            have hjj : j' = j := by omega
            subst hjj
            subst e2'
            have fa := flD_at e3 e4
            have k0 : ((((k + 1 : Nat)) : Int) == 0) = false := by rw [beq_eq_false_iff_ne]; omega
            have ek : (((k + 1 : Nat)) : Int) - 1 = ((k : Nat) : Int) := by omega
            have g1 : (l < flr a.s j') = False := by simp only [eq_iff_iff, iff_false]; omega
            have g2 : (l1 < flr a.s j') = False := by simp only [eq_iff_iff, iff_false]; omega
            simp_arith [t0, k0, at_nat, fa, g1, ek, hf, trip, g2]
            exact next
      · simp_arith [t0]
        exact next
  · rintro x xs acc ih H ⟨rfl, hx, hacc⟩
    simp_arith []
    refine ⟨a, x, by rw [hA], hl, c1 x (hx x List.mem_cons_self), ?_⟩
    exact ih _ _ ⟨rfl, fun y hy => hx y (List.mem_cons_of_mem _ hy), fun d hd => by
      rcases List.mem_append.mp hd with hd | hd
      · exact hacc d hd
      · rw [List.mem_singleton] at hd; exact hd⟩
end DL

namespace DL
open PySem PySem.Spec PyProof.Rows L2
/-! ## 76. common_steps, shape, are_columns -/
def b_common_steps (gLEAVES : Nat) : Ss :=
 (.c (.set 3 (.con (.int 0)))
 (.c (.set 4 (.con (.int 0)))
 (.c (.set 5 (.var 0))
 (.c (.set 6 (.lzp true (.c (.idx (.var 1) (.con (.int 0))) (.c (.idx (.var 2) (.con (.int 0))) .n))))
 (.c (.set 7 (.con (.int 0)))
 (.c (.whl (.of (.con (.bl true))) (.c (.ite (.cmp .eq (.idx (.var 5) (.con (.int 0))) (.con (.str sRec))) (.c (.ite (.bo false (.c (.cmp .eq (.var 7) (.bf true .len (.c (.var 6) .n))) (.c (.cmp .ne (.idx (.idx (.var 6) (.var 7)) (.con (.int 0))) (.idx (.idx (.var 6) (.var 7)) (.con (.int 1)))) .n))) (.c (.ret (.tup (.c (.var 3) (.c (.var 4) .n))))
 .n) .n)
 (.c (.set 5 (.dix (.idx (.var 5) (.con (.int 1))) (.idx (.idx (.var 6) (.var 7)) (.con (.int 0)))))
 (.c (.aug 7 .add (.con (.int 1)))
 .n))) (.c (.ite (.cmp .inn (.idx (.var 5) (.con (.int 0))) (.glb gLEAVES)) (.c (.ret (.tup (.c (.var 3) (.c (.var 4) .n))))
 .n) (.c (.aug 3 .add (.con (.int 1)))
 (.c (.aug 4 .add (.bf true .int (.c (.cmp .eq (.idx (.var 5) (.con (.int 0))) (.con (.str sList))) .n)))
 (.c (.set 5 (.idx (.var 5) (.con (.int 1))))
 .n))))
 .n))
 .n))
 .n))))))
def spCs : SpD := fun ds G Q _ => ∃ (k : Kd) (a b : Lf), ds = [enc k, a.d, b.d] ∧ Wf k ∧ a ∈ lv k ∧ b ∈ lv k ∧ a.p.length ≤ 1000 ∧ Q (.tup [.int (cm k a.p b.p).1, .int (cm k a.p b.p).2]) G
theorem zip2_cons {x y : D} {xs ys : List D} : zip2L (x :: xs) (y :: ys) = .tpl [x, y] :: zip2L xs ys := by simp [zip2L]
theorem zip2_drop : ∀ (n : Nat) (xs ys : List D), (zip2L xs ys).drop n = zip2L (xs.drop n) (ys.drop n)
  | 0, xs, ys => rfl
  | n + 1, [], ys => by simp [zip2L]
  | n + 1, x :: xs, [] => by
    have : zip2L (xs.drop n) [] = [] := by cases xs.drop n <;> simp [zip2L]
    simp [zip2L, this]
  | n + 1, x :: xs, y :: ys => by
    rw [zip2_cons]
    exact zip2_drop n xs ys
theorem prsD_encs : ∀ fs : Fs, prsD (encs fs) = some ((toL fs).map fun p => (p.1, enc p.2))
  | .nil => by simp [encs, toL, prsD]
  | .cons n k fs => by simp [encs, toL, prsD, prsD_encs fs]
theorem drs_encs {fs : Fs} (nd : ((toL fs).map Prod.fst).Nodup) : drsD (.tup (encs fs)) = some ((toL fs).map fun p => (p.1, enc p.2)) := by
  simp only [drsD, prsD_encs]
  rw [if_pos]
  rw [List.map_map]
  exact nd
theorem dgt_at : ∀ {fs : List (List Nat × Kd)} {j : Nat} {p : List Nat × Kd}, (fs.map Prod.fst).Nodup → fs[j]? = some p → dgtD (fs.map fun p => (p.1, enc p.2)) (.str p.1) = some (enc p.2)
  | [], j, p, _, h => by simp at h
  | q :: fs, 0, p, _, h => by
    simp at h
    subst h
    simp [dgtD]
  | q :: fs, j + 1, p, nd, h => by
    have h : fs[j]? = some p := by simpa using h
    simp only [List.map_cons, List.nodup_cons] at nd
    have ne : q.1 ≠ p.1 := fun z => nd.1 (by rw [z]; exact List.mem_map_of_mem (List.mem_of_getElem? h))
    have := dgt_at nd.2 h
    simp only [dgtD] at this ⊢
    rw [List.map_cons, List.find?_cons_of_neg (by simpa using ne)]
    exact this
theorem lvs_mem : ∀ {fs : Fs} {a : Lf}, a ∈ lvs fs → ∃ (j : Nat) (p : List Nat × Kd) (a' : Lf), (toL fs)[j]? = some p ∧ a' ∈ lv p.2 ∧ a.p = p.1 :: a'.p
  | .nil, a, h => by simp [lvs] at h
  | .cons n k fs, a, h => by
    simp only [lvs] at h
    rcases List.mem_append.mp h with h | h
    · obtain ⟨a', h1, rfl⟩ := List.mem_map.mp h
      exact ⟨0, (n, k), a', rfl, h1, rfl⟩
    · obtain ⟨j, p, a', h1, h2, h3⟩ := lvs_mem h
      exact ⟨j + 1, p, a', by simpa [toL] using h1, h2, h3⟩
theorem common_steps_ok {Γ : Gam} {gl : Nat} (hg : Γ.gl gl = .tup [.str sInt, .str sText, .str sBool]) (ds : List D) (G : HD) (QD : KD) (XD : KX) (h : spCs ds G QD XD) : wSs Γ (b_common_steps gl) { nx := fun _ H => QD .non H, rt := QD, ex := fun x _ H => XD x H } (startD 8 ds) G := by
  obtain ⟨k0, a, b, rfl, w0, ha, hb, hlen, hQ⟩ := h
  have hlim : lim = 16777216 := rfl
  have ea : a.d = .tup [.tup (a.p.map .str), .tup (a.s.map .str), .str a.k] := rfl
  have eb : b.d = .tup [.tup (b.p.map .str), .tup (b.s.map .str), .str b.k] := rfl
  generalize hA : a.d = A at ea
  generalize hB : b.d = B at eb
  have z2 : ∀ xs ys : List D, zip2T [.tup xs, .tup ys] = some (xs, ys) := fun _ _ => rfl
  generalize hK : enc k0 = K0
  simp_arith [b_common_steps, hg, ea, eb, z2, List.length_map]
  refine And.intro (by omega) ?_
  refine ⟨fun m σ H => H = G ∧ ∃ (k : Kd) (at_ : Nat) (st ls : Int) (a' b' : Lf), m = dp k ∧ Wf k ∧ a' ∈ lv k ∧ b' ∈ lv k ∧ a.p.drop at_ = a'.p ∧ b.p.drop at_ = b'.p ∧ at_ ≤ a.p.length ∧ at_ ≤ b.p.length ∧ st + (cm k a'.p b'.p).1 = (cm k0 a.p b.p).1 ∧ ls + (cm k a'.p b'.p).2 = (cm k0 a.p b.p).2 ∧
    σ = [some K0, some (.tup [.tup (a.p.map .str), .tup (a.s.map .str), .str a.k]), some (.tup [.tup (b.p.map .str), .tup (b.s.map .str), .str b.k]), some (.int st), some (.int ls), some (enc k), some (.lst (zip2L (a.p.map .str) (b.p.map .str))), some (.int at_)],
    ⟨_, rfl, k0, 0, 0, 0, a, b, rfl, w0, ha, hb, rfl, rfl, Nat.zero_le _, Nat.zero_le _, by simp, by simp, by rw [hK]; rfl⟩, ?_⟩
  rintro m σ H ⟨rfl, k, at_, st, ls, a', b', rfl, w, ha', hb', hpa, hpb, hla, hlb, hc1, hc2, rfl⟩
  cases k with
  | leaf x =>
    simp only [cm, Int.add_zero] at hc1 hc2
    simp_arith [enc, leaf_nr w, leaf_in w]
    rw [hc1, hc2]
    exact hQ
  | one o c =>
    simp only [lv] at ha' hb'
    obtain ⟨a1, ha1, rfl⟩ := List.mem_map.mp ha'
    obtain ⟨b1, hb1, rfl⟩ := List.mem_map.mp hb'
    simp only [Wf] at w
    simp only [cm] at hc1 hc2
    have e1 : (sOne o == sList) = !o := by cases o <;> rfl
    simp_arith [enc, one_nr, one_in, e1]
    refine ⟨dp c, by simp only [dp]; omega, c, at_, st + 1, ls + (if (!o) = true then 1 else 0), a1, b1, rfl, w.2, ha1, hb1, hpa, hpb, hla, hlb, by omega, ?_, ?_⟩
    · cases o <;> simp at hc2 ⊢ <;> omega
    · cases o <;> rfl
  | recd fs =>
    have w1 := w
    simp only [Wf] at w
    simp only [lv] at ha' hb'
    obtain ⟨j1, p1, a1, e1, e2, e3⟩ := lvs_mem ha'
    obtain ⟨j2, p2, b1, f1, f2, f3⟩ := lvs_mem hb'
    rw [e3] at hpa hc1 hc2
    rw [f3] at hpb hc1 hc2
    have lta : at_ < a.p.length := by
      have := congrArg List.length hpa
      rw [List.length_drop] at this
      simp at this; omega
    have ltb : at_ < b.p.length := by
      have := congrArg List.length hpb
      rw [List.length_drop] at this
      simp at this; omega
    have zl : (zip2L (a.p.map D.str) (b.p.map .str)).length = min a.p.length b.p.length := by rw [zip2_len]; simp
    have ne : (((at_ : Nat) : Int) == ((zip2L (a.p.map D.str) (b.p.map .str)).length : Nat)) = false := by
      rw [zl, beq_eq_false_iff_ne]; omega
    have zat : (zip2L (a.p.map D.str) (b.p.map .str))[at_]? = some (.tpl [.str p1.1, .str p2.1]) := by
      have hd := zip2_drop at_ (a.p.map D.str) (b.p.map .str)
      rw [← List.map_drop, ← List.map_drop, hpa, hpb, List.map_cons, List.map_cons, zip2_cons] at hd
      have := congrArg (fun l : List D => l[0]?) hd
      simpa [List.getElem?_drop] using this
    by_cases c : p1.1 = p2.1
    · have q : (p1.1 == p2.1) = true := by rw [beq_iff_eq]; exact c
      have ec : cm (.recd fs) (p1.1 :: a1.p) (p2.1 :: b1.p) = cm p1.2 a1.p b1.p := by
        simp only [cm]
        rw [if_pos c]
        exact cms_at w.1.2.1 e1
      have hjj : j1 = j2 := by
        have g1 : ((toL fs).map Prod.fst)[j1]? = some p1.1 := by rw [List.getElem?_map, e1]; rfl
        have g2 : ((toL fs).map Prod.fst)[j2]? = some p1.1 := by rw [List.getElem?_map, f1, c]; rfl
        exact nd_inj2 w.1.2.1 g1 g2
      subst hjj
      rw [e1] at f1; cases f1
      rw [ec] at hc1 hc2
      have dr := drs_encs w.1.2.1
      have dg := dgt_at w.1.2.1 e1
      simp_arith [enc, beq_self_eq_true, ne, at_nat, zat, q, dr, dg]
      refine ⟨dp p1.2, by have := dps_eq p1 (List.mem_of_getElem? e1); simp only [dp]; omega, p1.2, at_ + 1, st, ls, a1, b1, rfl, wfs_in w.2 (List.mem_of_getElem? e1), e2, f2, ?_, ?_, lta, ltb, hc1, hc2, rfl⟩
      · rw [← List.drop_drop, hpa]; rfl
      · rw [← List.drop_drop, hpb]; rfl
    · have q : (p1.1 == p2.1) = false := by rw [beq_eq_false_iff_ne]; exact c
      have ec : cm (.recd fs) (p1.1 :: a1.p) (p2.1 :: b1.p) = (0, 0) := by
        simp only [cm]
        rw [if_neg c]
      rw [ec, Int.add_zero] at hc1
      rw [ec, Int.add_zero] at hc2
      simp_arith [enc, beq_self_eq_true, ne, at_nat, zat, q]
      rw [hc1, hc2]
      exact hQ
def b_shape : Ss :=
 (.c (.ret (.lc true (.tup (.c (.var 3) (.c (.bf true .min (.c (.var 4) (.c (.var 1) .n))) .n))) (.t [(.n 3), (.n 4), (.n 5)]) (.of (.var 0)) (.cmp .le (.var 3) (.var 2)) [("turn", 3), ("level", 4), ("_", 5)]))
 .n)
def Trp (e : D) : Prop := ∃ (t l : Int) (x : D), e = trip t l x
def spShp : SpD := fun ds G Q _ => ∃ (es : List D) (c tt : Int), ds = [.lst es, .int c, .int tt] ∧ (∀ e ∈ es, Trp e) ∧ Q (.lst (shp c tt es)) G
theorem shape_ok {Γ : Gam} (ds : List D) (G : HD) (QD : KD) (XD : KX) (h : spShp ds G QD XD) : wSs Γ b_shape { nx := fun _ H => QD .non H, rt := QD, ex := fun x _ H => XD x H } (startD 6 ds) G := by
  obtain ⟨es, c, tt, rfl, ht, hQ⟩ := h
  simp_arith [b_shape]
  refine lcD_ind (fun xs acc H => H = G ∧ (∀ e ∈ xs, Trp e) ∧ shp c tt es = acc ++ shp c tt xs) ?_ ?_ _ _ _ ⟨rfl, ht, rfl⟩
  · rintro acc H ⟨rfl, _, e⟩
    have : shp c tt ([] : List D) = [] := rfl
    rw [this, List.append_nil] at e
    rw [← e]
    exact hQ
  · rintro x xs acc ih H ⟨rfl, ht, e⟩
    obtain ⟨t, l, y, rfl⟩ := ht x List.mem_cons_self
    have e2 : shp c tt (trip t l y :: xs) = shp c tt [trip t l y] ++ shp c tt xs := shp_app c tt [trip t l y] xs
    rw [e2] at e
    simp_arith [trip]
    by_cases q : t ≤ tt
    · have e3 : shp c tt [trip t l y] = [.tup [.int t, .int (if c < l then c else l)]] := by
        unfold shp trip
        simp only [List.filterMap_cons, List.filterMap_nil, if_pos q]
      rw [e3, ← List.append_assoc] at e
      simp_arith [q]
      exact ih _ _ ⟨rfl, fun z hz => ht z (List.mem_cons_of_mem _ hz), e⟩
    · have e3 : shp c tt [trip t l y] = [] := by
        unfold shp trip
        simp only [List.filterMap_cons, List.filterMap_nil, if_neg q]
      rw [e3, List.nil_append] at e
      simp_arith [q]
      exact ih _ _ ⟨rfl, fun z hz => ht z (List.mem_cons_of_mem _ hz), e⟩
theorem py_prs : ∀ {xs : List D}, (∀ e ∈ xs, ∃ a b : Int, e = .tup [.int a, .int b]) → ∃ ys, pys xs = some ys ∧ PyData.eqvAll ys ys = true ∧ PyData.depthAll ys ≤ 3
  | [], _ => ⟨[], by simp [pys], by simp [PyData.eqvAll], by simp [PyData.depthAll]⟩
  | x :: xs, h => by
    obtain ⟨ys, h1, h2, h3⟩ := py_prs (xs := xs) fun e he => h e (List.mem_cons_of_mem _ he)
    obtain ⟨a, b, rfl⟩ := h x List.mem_cons_self
    refine ⟨.tuple [.int a, .int b] :: ys, by simp [pys, py, h1], by simp [PyData.eqvAll, PyData.eqv, h2], ?_⟩
    simp only [PyData.depthAll, PyData.depth]
    omega
theorem shp_prs {c tt : Int} {es : List D} : ∀ e ∈ shp c tt es, ∃ a b : Int, e = .tup [.int a, .int b] := fun e he => by
  unfold shp at he
  obtain ⟨x, _, hx⟩ := List.mem_filterMap.mp he
  split at hx
  · split at hx
    · exact ⟨_, _, (Option.some.inj hx).symm⟩
    · cases hx
  · cases hx
theorem eq_shp {c tt : Int} {es : List D} {G : HD} : eqD (.lst (shp c tt es)) (.lst (shp c tt es)) G = some true := by
  obtain ⟨ys, h1, h2, h3⟩ := py_prs (shp_prs (c := c) (tt := tt) (es := es))
  have e : pyT (.lst (shp c tt es)) G = some (.list ys) := by simp [pyT, py, h1]
  simp only [eqD, e]
  rw [if_pos (by simp only [PyData.depth]; omega)]
  simp only [PyData.eqv, h2]
end DL

namespace DL
open PySem PySem.Spec PyProof.Rows L2
/-! ## 77. are_columns of right columns -/
theorem rng_in {n : Nat} {x : D} (h : x ∈ rngL (0, n, 1)) : ∃ k : Nat, x = .int k ∧ k < n := by
  obtain ⟨i, hi, e⟩ := List.mem_iff_getElem.mp h
  have e2 : (rngF 1 n 0)[i]? = some x := by rw [← e]; exact List.getElem?_eq_getElem hi
  obtain ⟨h1, h2⟩ := rngF_get 1 e2
  exact ⟨i, by rw [h2]; simp, h1⟩
/-- the x-th leaf -/
def lf (k : Kd) (x : Nat) : Lf := (lv k).getD x ⟨[], [], []⟩
theorem lf_at {k : Kd} {x : Nat} (h : x < (lv k).length) : (lv k)[x]? = some (lf k x) := by
  unfold lf
  rw [List.getD_eq_getElem?_getD, List.getElem?_eq_getElem h]; rfl
theorem lf_in {k : Kd} {x : Nat} (h : x < (lv k).length) : lf k x ∈ lv k := List.mem_of_getElem? (lf_at h)
theorem colR_app {a : Lf} {es fs : List D} (h1 : ColR a es) (h2 : ColR a fs) (h3 : ∀ e ∈ es, Trp e) : ColR a (es ++ fs) := by
  obtain ⟨a1, a2, a3⟩ := h1
  obtain ⟨b1, b2, b3⟩ := h2
  refine ⟨fun e he => ?_, chn_app a2 b2 fun e he f hf => .inl (b3 f hf), fun e he => ?_⟩
  · rcases List.mem_append.mp he with he | he
    · exact a1 e he
    · exact b1 e he
  · cases es with
    | nil => exact b3 e he
    | cons x r => exact a3 e he
theorem ent_trp {st : List (List Nat)} {w : List Nat} {t l s : Int} {e : D} : Ent st w t l s e → Trp e := fun ⟨t', l', x, h, _⟩ => ⟨t', l', x, h⟩
theorem col_colR {k : Kd} {x : Nat} (w : Wf k) (hx : x < (lv k).length) : ∀ {rows : List D}, (∀ r ∈ rows, ∃ m, m ≤ 1000 ∧ OkV k r m) → ColR (lf k x) (col k x rows)
  | [], _ => ⟨fun e h => by simp [col] at h, trivial, fun e h => by simp [col] at h⟩
  | r :: rows, h => by
    obtain ⟨m, _, q⟩ := h r List.mem_cons_self
    have e : col k x (r :: rows) = en k x r 0 0 0 ++ col k x rows := by simp [col]
    obtain ⟨h1, h2⟩ := en_all k x (lf k x) r m 0 0 0 w q (lf_at hx)
    obtain ⟨l', y, rr, he, _⟩ := en_hd k x r m 0 0 0 w q hx
    rw [e]
    refine colR_app ⟨h1, chn_mono (fun _ _ z => .inr z) h2, fun e he2 => ?_⟩ (col_colR w hx fun z hz => h z (List.mem_cons_of_mem _ hz)) fun e he => ent_trp (h1 e he)
    rw [he] at he2
    exact ⟨l', y, by simpa using he2.symm⟩
theorem col_shp {k : Kd} {x y : Nat} (w : Wf k) (hx : x < (lv k).length) (hy : y < (lv k).length) : ∀ {rows : List D}, (∀ r ∈ rows, ∃ m, m ≤ 1000 ∧ OkV k r m) →
    shp (cm k (lf k x).p (lf k y).p).1 (cm k (lf k x).p (lf k y).p).2 (col k x rows) = shp (cm k (lf k x).p (lf k y).p).1 (cm k (lf k x).p (lf k y).p).2 (col k y rows)
  | [], _ => by simp [col]
  | r :: rows, h => by
    obtain ⟨m, _, q⟩ := h r List.mem_cons_self
    have e : ∀ x, col k x (r :: rows) = en k x r 0 0 0 ++ col k x rows := fun x => by simp [col]
    have h1 := shp_cm (dp k) k x y (lf k x) (lf k y) r m 0 0 0 (Nat.le_refl _) w q (Int.le_refl _) (lf_at hx) (lf_at hy)
    rw [Int.zero_add, Int.zero_add] at h1
    rw [e, e, shp_app, shp_app, h1, col_shp w hx hy fun z hz => h z (List.mem_cons_of_mem _ hz)]
def b_are_columns (cleaves cis_column ccommon_steps cshape : Nat) : Ss :=
 (.c (.ite (.bo false (.c (.nt (.of (.isi (.var 2) [.tuple]))) (.c (.cmp .ne (.bf true .len (.c (.var 2) .n)) (.bf true .len (.c (.var 1) .n))) .n))) (.c (.ret (.con (.bl false)))
 .n) .n)
 (.c (.set 3 (.frz (.call cleaves (.c (.var 0) .n))))
 (.c (.set 4 (.lc true (.idx (.var 3) (.var 9)) (.n 9) (.of (.var 1)) .yes [("number", 9)]))
 (.c (.ite (.nt (.of (.bf true .all (.c (.lc true (.call cis_column (.c (.var 10) (.c (.var 11) .n))) (.t [(.n 10), (.n 11)]) (.zip (.c (.var 4) (.c (.var 2) .n))) .yes [("leaf", 10), ("column", 11)]) .n)))) (.c (.ret (.con (.bl false)))
 .n) .n)
 (.c (.for_ (.n 5) (.rng (.c (.bf true .len (.c (.var 4) .n)) .n)) (.c (.for_ (.n 6) (.rng (.c (.var 5) .n)) (.c (.asg (.t [(.n 7), (.n 8)]) (.call ccommon_steps (.c (.var 0) (.c (.idx (.var 4) (.var 5)) (.c (.idx (.var 4) (.var 6)) .n)))))
 (.c (.ite (.cmp .ne (.call cshape (.c (.idx (.var 2) (.var 5)) (.c (.var 7) (.c (.var 8) .n)))) (.call cshape (.c (.idx (.var 2) (.var 6)) (.c (.var 7) (.c (.var 8) .n))))) (.c (.ret (.con (.bl false)))
 .n) .n)
 .n)))
 .n))
 (.c (.ret (.con (.bl true)))
 .n))))))
def b_arL (ccommon_steps cshape : Nat) : Ss :=
 (.c (.for_ (.n 5) (.rng (.c (.bf true .len (.c (.var 4) .n)) .n)) (.c (.for_ (.n 6) (.rng (.c (.var 5) .n)) (.c (.asg (.t [(.n 7), (.n 8)]) (.call ccommon_steps (.c (.var 0) (.c (.idx (.var 4) (.var 5)) (.c (.idx (.var 4) (.var 6)) .n)))))
 (.c (.ite (.cmp .ne (.call cshape (.c (.idx (.var 2) (.var 5)) (.c (.var 7) (.c (.var 8) .n)))) (.call cshape (.c (.idx (.var 2) (.var 6)) (.c (.var 7) (.c (.var 8) .n))))) (.c (.ret (.con (.bl false)))
 .n) .n)
 .n)))
 .n))
 (.c (.ret (.con (.bl true)))
 .n))
def colsD (k : Kd) (rows : List D) (c : List Nat) : List D := c.map fun x => .lst (col k x rows)
def knD (k : Kd) (c : List Nat) : List D := c.map fun x => (lf k x).d
theorem arL_ok {Γ : Gam} {cs sh : Nat} (h1 : Γ.sp cs = spCs) (h2 : Γ.sp sh = spShp) {E : EndsD} {k : Kd} {c : List Nat} {rows : List D} {x1 x3 : Option D} {G : HD} (w : Wf k) (hd' : dp k ≤ 10) (hc : ∀ x ∈ c, x < (lv k).length) (hcl : c.length ≤ 1000) (hr : ∀ r ∈ rows, ∃ m, m ≤ 1000 ∧ OkV k r m)
    (hQ : E.rt (.bl true) G) : ∀ σ, σ = [some (enc k), x1, some (.tup (colsD k rows c)), x3, some (.lst (knD k c)), none, none, none, none, none, none, none] → wSs Γ (b_arL cs sh) E σ G := by
  intro σ hσ
  subst hσ
  have hlim : lim = 16777216 := rfl
  have kl : (knD k c).length = c.length := by simp [knD]
  have ka : ∀ i : Nat, i < c.length → ∃ x, c[i]? = some x ∧ x < (lv k).length ∧ (knD k c)[i]? = some (lf k x).d ∧ (colsD k rows c)[i]? = some (.lst (col k x rows)) := fun i hi => by
    have e := List.getElem?_eq_getElem hi
    exact ⟨c[i], e, hc _ (List.getElem_mem hi), by unfold knD; rw [List.getElem?_map, e]; rfl, by unfold colsD; rw [List.getElem?_map, e]; rfl⟩
  generalize hK : enc k = K0
  generalize hKN : knD k c = KN at kl ka ⊢
  generalize hCO : colsD k rows c = CO at ka ⊢
  simp_arith [b_arL, h1, h2, kl]
  rw [q_rng1 ⟨by omega, by omega⟩, ok_some]
  refine And.intro (by dsimp only; omega) ?_
  refine wFor_ind (fun xs σ H => H = G ∧ (∀ x ∈ xs, ∃ i : Nat, x = .int i ∧ i < c.length) ∧ ∃ o5 o6 o7 o8, σ = [some K0, x1, some (.tup CO), x3, some (.lst KN), o5, o6, o7, o8, none, none, none]) ?_ ?_ _ _ _
    ⟨rfl, fun x hx => by obtain ⟨i, h, q⟩ := rng_in hx; exact ⟨i, h, by omega⟩, none, none, none, none, rfl⟩
  · rintro σ H ⟨rfl, _, o5, o6, o7, o8, rfl⟩
    exact hQ
  · rintro x xs ih σ H ⟨rfl, hx, o5, o6, o7, o8, rfl⟩
    obtain ⟨i, rfl, hi⟩ := hx x List.mem_cons_self
    have hh := ka i hi
    cases hh with
    | intro y hh =>
    have y1 := hh.1
    have y2 := hh.2.1
    have y3 := hh.2.2.1
    have y4 := hh.2.2.2
    simp_arith []
    rw [q_rng1 ⟨by omega, by omega⟩, ok_some]
    refine And.intro (by dsimp only; omega) ?_
    refine wFor_ind (fun zs σ H' => H' = H ∧ (∀ x ∈ zs, ∃ j : Nat, x = .int j ∧ j < i) ∧ ∃ o6 o7 o8, σ = [some K0, x1, some (.tup CO), x3, some (.lst KN), some (.int i), o6, o7, o8, none, none, none]) ?_ ?_ _ _ _
      ⟨rfl, fun x hx => by obtain ⟨j, h, q⟩ := rng_in hx; exact ⟨j, h, by omega⟩, _, _, _, rfl⟩
    · rintro σ H' ⟨rfl, _, o6, o7, o8, rfl⟩
      exact ih _ _ ⟨rfl, fun z hz => hx z (List.mem_cons_of_mem _ hz), _, _, _, _, rfl⟩
    · rintro z zs ih2 σ H' ⟨rfl, hz, o6, o7, o8, rfl⟩
      obtain ⟨j, rfl, hj⟩ := hz z List.mem_cons_self
      have hh2 := ka j (by omega)
      cases hh2 with
      | intro u hh2 =>
      have u1 := hh2.1
      have u2 := hh2.2.1
      have u3 := hh2.2.2.1
      have u4 := hh2.2.2.2
      simp_arith [at_nat, y3, u3]
      refine ⟨k, lf k y, lf k u, by rw [hK], w, lf_in y2, lf_in u2, by have := lv_dp k _ (lf_in y2); omega, ?_⟩
      simp_arith [at_nat, y4, u4]
      have t1 := (col_colR w y2 hr).1
      have t2 := (col_colR w u2 hr).1
      refine ⟨_, _, _, rfl, fun e he => ent_trp (t1 e he), ?_⟩
      refine ⟨_, _, _, rfl, fun e he => ent_trp (t2 e he), ?_⟩
      rw [col_shp w y2 u2 hr]
      simp_arith [eq_shp]
      exact ih2 _ _ ⟨rfl, fun z hz' => hz z (List.mem_cons_of_mem _ hz'), _, _, _, rfl⟩
def spAreC : SpD := fun ds G Q _ => ∃ (k : Kd) (c : List Nat) (rows : List D), ds = [enc k, .tup (natD c), .tup (colsD k rows c)] ∧ Wf k ∧ dp k ≤ 10 ∧ (lv k).length ≤ 1000 ∧ (∀ x ∈ c, x < (lv k).length) ∧ c.length ≤ 1000 ∧ (∀ r ∈ rows, ∃ m, m ≤ 1000 ∧ OkV k r m) ∧ Q (.bl true) G
theorem zip_kn {k : Kd} {rows : List D} : ∀ c : List Nat, zip2L (knD k c) (colsD k rows c) = c.map fun x => .tpl [(lf k x).d, .lst (col k x rows)]
  | [] => by simp [knD, colsD, zip2L]
  | x :: c => by
    have := zip_kn (k := k) (rows := rows) c
    unfold knD colsD at this ⊢
    rw [List.map_cons, List.map_cons, zip2_cons, this]; rfl
theorem are_columns_ok {Γ : Gam} {lv_ ic cs sh : Nat} (g1 : Γ.sp lv_ = spLeaves) (g2 : Γ.sp ic = spIsCol) (g3 : Γ.sp cs = spCs) (g4 : Γ.sp sh = spShp) (ds : List D) (G : HD) (QD : KD) (XD : KX) (h : spAreC ds G QD XD) :
    wSs Γ (b_are_columns lv_ ic cs sh) { nx := fun _ H => QD .non H, rt := QD, ex := fun x _ H => XD x H } (startD 12 ds) G := by
  obtain ⟨k, c, rows, rfl, w, hd', hl, hc, hcl, hr, hQ⟩ := h
  have hlim : lim = 16777216 := rfl
  have e0 : b_are_columns lv_ ic cs sh = (.c (.ite (.bo false (.c (.nt (.of (.isi (.var 2) [.tuple]))) (.c (.cmp .ne (.bf true .len (.c (.var 2) .n)) (.bf true .len (.c (.var 1) .n))) .n))) (.c (.ret (.con (.bl false)))
 .n) .n)
 (.c (.set 3 (.frz (.call lv_ (.c (.var 0) .n))))
 (.c (.set 4 (.lc true (.idx (.var 3) (.var 9)) (.n 9) (.of (.var 1)) .yes [("number", 9)]))
 (.c (.ite (.nt (.of (.bf true .all (.c (.lc true (.call ic (.c (.var 10) (.c (.var 11) .n))) (.t [(.n 10), (.n 11)]) (.zip (.c (.var 4) (.c (.var 2) .n))) .yes [("leaf", 10), ("column", 11)]) .n)))) (.c (.ret (.con (.bl false)))
 .n) .n)
 (b_arL cs sh))))) := rfl
  rw [e0]
  have cl : (colsD k rows c).length = c.length := by simp [colsD]
  have nl : (natD c).length = c.length := by simp [natD]
  have fin := arL_ok (E := { nx := fun _ H => QD .non H, rt := QD, ex := fun x _ H => XD x H }) (x1 := some (.tup (natD c))) (x3 := some (.lst ((lv k).map Lf.d))) (G := G) g3 g4 w hd' hc hcl hr hQ
  have zk := zip_kn (k := k) (rows := rows) c
  have zp : zipD [.lst (knD k c), .tup (colsD k rows c)] = some (zip2L (knD k c) (colsD k rows c)) := rfl
  generalize hK : enc k = K0 at fin ⊢
  generalize hCO : colsD k rows c = CO at fin cl zk zp ⊢
  simp_arith [g1, g2, cl, nl, beq_self_eq_true]
  refine ⟨k, by rw [hK], w, by omega, hl, fun p hp => ?_⟩
  simp_arith [updD_same, delD_updD hp]
  refine lcD_ind (fun xs acc H => H = G ∧ ∃ a b : List Nat, c = a ++ b ∧ xs = natD b ∧ acc = knD k a) ?_ ?_ _ _ _ ⟨rfl, [], c, rfl, rfl, rfl⟩
  · rintro acc H ⟨rfl, a, b, e, hx, rfl⟩
    have : b = [] := by cases b <;> first | rfl | cases hx
    subst this
    rw [List.append_nil] at e
    subst e
    simp_arith [zp, zk]
    refine lcD_ind (fun xs acc H' => H' = H ∧ (∃ b : List Nat, (∀ x ∈ b, x ∈ c) ∧ xs = b.map fun x => .tpl [(lf k x).d, .lst (col k x rows)]) ∧ ∀ d ∈ acc, d = .bl true) ?_ ?_ _ _ _ ⟨rfl, ⟨c, fun _ h => h, rfl⟩, fun _ h => nomatch h⟩
    · rintro acc H' ⟨rfl, _, hacc⟩
      obtain ⟨bs, hb1, hb2⟩ := all_true hacc
      rw [hb1, ok_some, hb2]
      simp_arith []
      with_reducible exact fin _ rfl
    · rintro x xs acc ih H' ⟨rfl, ⟨b, hb, hx⟩, hacc⟩
      cases b with
      | nil => cases hx
      | cons y b =>
        rw [List.map_cons] at hx
        injection hx with h1 h2
        subst h1; subst h2
        have hy := hc y (hb y List.mem_cons_self)
        simp_arith []
        refine ⟨lf k y, _, rfl, by have := lv_dp k _ (lf_in hy); omega, col_colR w hy hr, ?_⟩
        exact ih _ _ ⟨rfl, ⟨b, fun z hz => hb z (List.mem_cons_of_mem _ hz), rfl⟩, fun d hd => by
          rcases List.mem_append.mp hd with hd | hd
          · exact hacc d hd
          · rw [List.mem_singleton] at hd; exact hd⟩
  · rintro x xs acc ih H ⟨rfl, a, b, e, hx, rfl⟩
    cases b with
    | nil => cases hx
    | cons y b =>
      have hx : x :: xs = D.int (y : Nat) :: natD b := hx
      injection hx with h1 h2
      subst h1; subst h2
      have hy : y < (lv k).length := hc y (by rw [e]; simp)
      have ey : ((lv k).map Lf.d)[y]? = some (lf k y).d := by rw [List.getElem?_map, lf_at hy]; rfl
      simp_arith [at_nat, ey]
      exact ih _ _ ⟨rfl, a ++ [y], b, by rw [e]; simp, rfl, by simp [knD]⟩
end DL

namespace DL
open PySem PySem.Spec PyProof.Rows L2
/-! ## 78. parted -/
theorem frL_id : ∀ (ds : List D) (H : HD), frL (fun d H => some (d, H)) ds H = some (ds, H)
  | [], H => rfl
  | d :: ds, H => by simp only [frL, frL_id ds H]
def delA (H : HD) (ps : List Addr) : HD := fun x => if x ∈ ps then none else H x
theorem frL_refs : ∀ (ps : List Addr) (cs : List (List D)) (H : HD), ps.length = cs.length → ps.Nodup → (∀ (j : Nat) (p : Addr) (c : List D), ps[j]? = some p → cs[j]? = some c → H p = some (.lst c)) → frL (frDp 1) (ps.map .ref) H = some (cs.map .lst, delA H ps)
  | [], [], H, _, _, _ => by
    have : delA H [] = H := by funext x; simp [delA]
    simp [frL, this]
  | [], _ :: _, H, h, _, _ => by simp at h
  | _ :: _, [], H, h, _, _ => by simp at h
  | p :: ps, c :: cs, H, h, nd, hp => by
    have n1 := List.nodup_cons.mp nd
    have e1 : frDp 1 (.ref p) H = some (.lst c, delD H p) := by
      have := hp 0 p c rfl rfl
      simp only [frDp, this, frL_id]
    have e2 := frL_refs ps cs (delD H p) (by simpa using h) n1.2 fun j q d h1 h2 => by
      have := hp (j + 1) q d (by simpa using h1) (by simpa using h2)
      rw [delD_ne fun z => n1.1 (by rw [← z]; exact List.mem_of_getElem? h1)]
      exact this
    rw [List.map_cons]
    simp only [frL, e1, e2, List.map_cons]
    congr 2
    funext x
    simp only [delA, List.mem_cons]
    by_cases q : x = p
    · subst q; simp [delD_same]
    · simp [q, delD_ne q]
/-- e behind the last list -/
def addL : List (List D) → D → List (List D)
  | [], _ => []
  | [c], e => [c ++ [e]]
  | c :: d :: r, e => c :: addL (d :: r) e
theorem addL_last : ∀ {cs : List (List D)} {c : List D} {e : D}, addL (cs ++ [c]) e = cs ++ [c ++ [e]]
  | [], c, e => rfl
  | [d], c, e => rfl
  | d :: f :: cs, c, e => by
    have := addL_last (cs := f :: cs) (c := c) (e := e)
    simp only [List.cons_append] at this ⊢
    rw [addL, this]
def lo (tt : Int) (e : D) : Bool := match e with
  | .tup [.int t, _, _] => decide (t ≤ tt)
  | _ => false
/-- the parts -/
def prtF (tt : Int) : List (List D) → List D → List (List D)
  | cs, [] => cs
  | cs, e :: r => if lo tt e = true ∨ cs = [] then prtF tt (cs ++ [[e]]) r else prtF tt (addL cs e) r
def Blk (tt : Int) (b : List D) : Prop := ∃ e r, b = e :: r ∧ lo tt e = true ∧ ∀ f ∈ r, lo tt f = false
theorem prtF_hi {tt : Int} : ∀ {r : List D} {cs : List (List D)} {c s : List D}, (∀ f ∈ r, lo tt f = false) → prtF tt (cs ++ [c]) (r ++ s) = prtF tt (cs ++ [c ++ r]) s
  | [], cs, c, s, _ => by simp
  | f :: r, cs, c, s, h => by
    rw [List.cons_append, prtF, if_neg (by rw [h f List.mem_cons_self]; simp), addL_last, prtF_hi fun x hx => h x (List.mem_cons_of_mem _ hx)]
    simp
theorem prtF_blk {tt : Int} : ∀ {bs : List (List D)} {cs : List (List D)}, (∀ b ∈ bs, Blk tt b) → prtF tt cs bs.flatten = cs ++ bs
  | [], cs, _ => by simp [prtF]
  | b :: bs, cs, h => by
    obtain ⟨e, r, rfl, h1, h2⟩ := h b List.mem_cons_self
    rw [List.flatten_cons, List.cons_append, prtF, if_pos (.inl h1), prtF_hi h2, prtF_blk fun x hx => h x (List.mem_cons_of_mem _ hx)]
    simp
structure PI_ (G H : HD) (a : Addr) (ps : List Addr) (cs : List (List D)) : Prop where
  at_ : H a = some (.lst (ps.map .ref))
  len : ps.length = cs.length
  nd : ps.Nodup
  na : a ∉ ps
  each : ∀ (j : Nat) (p : Addr) (c : List D), ps[j]? = some p → cs[j]? = some c → H p = some (.lst c)
  rest : ∀ x, x ≠ a → x ∉ ps → H x = G x
  ga : G a = none
  gp : ∀ p ∈ ps, G p = none
theorem PI_.fin {G H : HD} {a : Addr} {ps : List Addr} {cs : List (List D)} (h : PI_ G H a ps cs) : frDp 2 (.ref a) H = some (.lst (cs.map .lst), G) := by
  have e2 := frL_refs ps cs (delD H a) h.len h.nd fun j p c h1 h2 => by
    rw [delD_ne fun z => h.na (by rw [← z]; exact List.mem_of_getElem? h1)]
    exact h.each j p c h1 h2
  simp only [frDp, h.at_, e2]
  congr 2
  funext x
  unfold delA
  by_cases q : x ∈ ps
  · rw [if_pos q, h.gp x q]
  · rw [if_neg q]
    by_cases z : x = a
    · subst z; rw [delD_same, h.ga]
    · rw [delD_ne z, h.rest x z q]
theorem PI_.new {G H : HD} {a q : Addr} {ps : List Addr} {cs : List (List D)} (h : PI_ G H a ps cs) (hq : H q = none) (e : D) : q ≠ a ∧ PI_ G (updD (updD (updD H q (.lst [])) a (.lst (ps.map .ref ++ [.ref q]))) q (.lst [e])) a (ps ++ [q]) (cs ++ [[e]]) := by
  have n1 : q ≠ a := fun z => by rw [z, h.at_] at hq; cases hq
  have n2 : q ∉ ps := fun z => by
    obtain ⟨j, hj, ej⟩ := List.mem_iff_getElem.mp z
    have := h.each j q (cs[j]'(by rw [← h.len]; exact hj)) (by rw [← ej]; exact List.getElem?_eq_getElem hj) (List.getElem?_eq_getElem _)
    rw [this] at hq; cases hq
  refine ⟨n1, by rw [updD_ne n1.symm, updD_same]; simp, by simp [h.len], ?_, ?_, fun j p c h1 h2 => ?_, fun x hx hm => ?_, h.ga, fun p hp => ?_⟩
  · rw [List.nodup_append]
    exact ⟨h.nd, by simp, fun x hx y hy => by rw [List.mem_singleton] at hy; subst hy; rintro rfl; exact n2 hx⟩
  · rw [List.mem_append, List.mem_singleton]
    rintro (z | z)
    · exact h.na z
    · exact n1 z.symm
  · by_cases hj : j < ps.length
    · rw [List.getElem?_append_left hj] at h1
      rw [List.getElem?_append_left (by rw [← h.len]; exact hj)] at h2
      have m := List.mem_of_getElem? h1
      rw [updD_ne fun z => n2 (by rw [← z]; exact m), updD_ne fun z => h.na (by rw [← z]; exact m), updD_ne fun z => n2 (by rw [← z]; exact m)]
      exact h.each j p c h1 h2
    · have hj2 : j = ps.length := by
        have := (List.getElem?_eq_some_iff.mp h1).1
        simp at this; omega
      subst hj2
      rw [List.getElem?_append_right (Nat.le_refl _)] at h1
      rw [h.len, List.getElem?_append_right (Nat.le_refl _)] at h2
      simp at h1 h2
      subst h1; subst h2
      exact updD_same
  · rw [List.mem_append, not_or, List.mem_singleton] at hm
    rw [updD_ne hm.2, updD_ne hx, updD_ne hm.2]
    exact h.rest x hx hm.1
  · rcases List.mem_append.mp hp with hp | hp
    · exact h.gp p hp
    · rw [List.mem_singleton] at hp
      subst hp
      rw [← h.rest p n1 n2]; exact hq
theorem PI_.add {G H : HD} {a q : Addr} {ps : List Addr} {cs : List (List D)} {c : List D} (h : PI_ G H a (ps ++ [q]) (cs ++ [c])) (e : D) : H q = some (.lst c) ∧ PI_ G (updD H q (.lst (c ++ [e]))) a (ps ++ [q]) (cs ++ [c ++ [e]]) := by
  have hl : ps.length = cs.length := by have := h.len; simpa using this
  have hq : H q = some (.lst c) := h.each ps.length q c (by simp) (by rw [hl]; simp)
  have na : a ≠ q := fun z => h.na (by rw [z]; simp)
  have nq : q ∉ ps := fun z => by
    have := (List.nodup_append.mp h.nd).2.2 q z q (by simp)
    exact this rfl
  refine ⟨hq, by rw [updD_ne na]; exact h.at_, by simp [hl], h.nd, h.na, fun j p d h1 h2 => ?_, fun x hx hm => ?_, h.ga, h.gp⟩
  · by_cases hj : j < ps.length
    · have h3 := h.each j p d h1 (by rw [List.getElem?_append_left (by omega)] at h2 ⊢; exact h2)
      rw [List.getElem?_append_left hj] at h1
      rw [updD_ne fun z => nq (by rw [← z]; exact List.mem_of_getElem? h1)]
      exact h3
    · have hj2 : j = ps.length := by
        have := (List.getElem?_eq_some_iff.mp h1).1
        simp at this; omega
      subst hj2
      rw [List.getElem?_append_right (Nat.le_refl _)] at h1
      rw [hl, List.getElem?_append_right (Nat.le_refl _)] at h2
      simp at h1 h2
      subst h1; subst h2
      exact updD_same
  · rw [updD_ne fun z => hm (by rw [z]; simp)]
    exact h.rest x hx hm
def b_parted : Ss :=
 (.c (.set 2 (.lst false .n))
 (.c (.for_ (.n 3) (.of (.var 0)) (.c (.ite (.bo false (.c (.cmp .le (.idx (.var 3) (.con (.int 0))) (.var 1)) (.c (.nt (.of (.var 2))) .n))) (.c (.ex (.mt .append (.var 2) (.c (.lst false .n) .n)))
 .n) .n)
 (.c (.ex (.mt .append (.idx (.var 2) (.neg (.con (.int 1)))) (.c (.var 3) .n)))
 .n)))
 (.c (.ret (.frD 2 (.var 2)))
 .n)))
def spParted : SpD := fun ds G Q _ => ∃ (bs : List (List D)) (tt : Int), ds = [.lst bs.flatten, .int tt] ∧ (∀ b ∈ bs, Blk tt b) ∧ (∀ e ∈ bs.flatten, Trp e) ∧ bs.flatten.length < 16000000 ∧ Q (.lst (bs.map .lst)) G
theorem at_m1' {α : Type} {xs : List α} : atI xs (-1) = xs.getLast? := by
  unfold atI ixN
  cases xs with
  | nil => rfl
  | cons x xs =>
    have e2 : (-1 + ((xs.length : Int) + 1)).toNat = xs.length := by omega
    have e3 : (1 : Int) ≤ (xs.length : Int) + 1 := by omega
    simp [List.getLast?_eq_getElem?, e2, e3]
theorem parted_ok {Γ : Gam} (ds : List D) (G : HD) (QD : KD) (XD : KX) (h : spParted ds G QD XD) : wSs Γ b_parted { nx := fun _ H => QD .non H, rt := QD, ex := fun x _ H => XD x H } (startD 4 ds) G := by
  obtain ⟨bs, tt, rfl, hb, ht, hz, hQ⟩ := h
  have hlim : lim = 16777216 := rfl
  have fin0 := prtF_blk (cs := []) hb
  rw [List.nil_append] at fin0
  generalize bs.flatten = es at ht hz fin0 ⊢
  simp_arith [b_parted]
  intro a ha
  refine wFor_ind (fun xs σ H => (∀ e ∈ xs, Trp e) ∧ ∃ (ps : List Addr) (cs : List (List D)) (o3 : Option D), prtF tt cs xs = bs ∧ PI_ G H a ps cs ∧ ps.length + xs.length < 16000000 ∧ (∀ c ∈ cs, c.length + xs.length < 16000000) ∧ σ = [some (.lst es), some (.int tt), some (.ref a), o3]) ?_ ?_ _ _ _
    ⟨ht, [], [], none, fin0, ⟨updD_same, rfl, .nil, by simp, fun j p c h => by simp at h, fun x hx _ => updD_ne hx, ha, fun p h => nomatch h⟩, by simpa using hz, (fun c h => nomatch h), rfl⟩
  · rintro σ H ⟨_, ps, cs, o3, e, hp, _, _, rfl⟩
    have e : cs = bs := e
    subst e
    simp_arith [hp.fin]
    exact hQ
  · rintro x xs ih σ H ⟨hx, ps, cs, o3, e, hp, hl, hc, rfl⟩
    obtain ⟨t, l, v, rfl⟩ := hx x List.mem_cons_self
    simp only [List.length_cons] at hl hc
    have hlo : lo tt (trip t l v) = decide (t ≤ tt) := rfl
    have new : (t ≤ tt ∨ cs = []) → ∀ q, H q = none → PI_ G (updD (updD (updD H q (.lst [])) a (.lst (ps.map .ref ++ [.ref q]))) q (.lst [trip t l v])) a (ps ++ [q]) (cs ++ [[trip t l v]]) →
        ∀ F : List D → StD → HD → Prop, (∀ σ H', ((∀ e ∈ xs, Trp e) ∧ ∃ (ps : List Addr) (cs : List (List D)) (o3 : Option D), prtF tt cs xs = bs ∧ PI_ G H' a ps cs ∧ ps.length + xs.length < 16000000 ∧ (∀ c ∈ cs, c.length + xs.length < 16000000) ∧ σ = [some (.lst es), some (.int tt), some (.ref a), o3]) → F xs σ H') →
        F xs [some (.lst es), some (.int tt), some (.ref a), some (trip t l v)] (updD (updD (updD H q (.lst [])) a (.lst (ps.map .ref ++ [.ref q]))) q (.lst [trip t l v])) := fun hor q hq hp2 F hF => by
      refine hF _ _ ⟨fun e he => hx e (List.mem_cons_of_mem _ he), ps ++ [q], cs ++ [[trip t l v]], _, ?_, hp2, by simp; omega, fun c hc' => ?_, rfl⟩
      · rw [← e, prtF, if_pos (by rw [hlo, decide_eq_true_eq]; exact hor)]
      · rcases List.mem_append.mp hc' with h | h
        · have := hc c h; omega
        · rw [List.mem_singleton] at h; subst h; simp; omega
    have go : ∀ q, H q = none → (ps.map D.ref).length < lim ∧ (updD (updD H q (.lst [])) a (.lst (ps.map .ref ++ [.ref q]))) q = some (.lst []) := fun q hq => by
      obtain ⟨n1, _⟩ := hp.new hq (trip t l v)
      exact ⟨by rw [List.length_map]; omega, by rw [updD_ne n1, updD_same]⟩
    have lastq : ∀ q, atI (ps.map D.ref ++ [.ref q]) (-1) = some (.ref q) := fun q => by rw [at_m1']; simp
    by_cases c1 : t ≤ tt
    · simp_arith [trip, c1, hp.at_]
      intro q hq
      obtain ⟨n1, hp2⟩ := hp.new hq (trip t l v)
      obtain ⟨g1, g2⟩ := go q hq
      simp_arith [updD_ne n1.symm, hp.at_, updD_same, lastq, updD_ne n1]
      refine ⟨g1, by rw [hlim]; omega, ?_⟩
      have := new (.inl c1) q hq hp2 _ ih
      simpa only [trip, List.nil_append] using this
    · have e0 : (ps.length != 0) = !decide (cs = []) := by
        rw [hp.len]
        cases cs <;> simp
      simp_arith [trip, c1, hp.at_, List.length_map, e0]
      by_cases c2 : cs = []
      · simp_arith [c2, hp.at_]
        intro q hq
        obtain ⟨n1, hp2⟩ := hp.new hq (trip t l v)
        obtain ⟨g1, g2⟩ := go q hq
        simp_arith [updD_ne n1.symm, hp.at_, updD_same, lastq, updD_ne n1]
        refine ⟨g1, by rw [hlim]; omega, ?_⟩
        have := new (.inr c2) q hq hp2 _ ih
        simpa only [trip, List.nil_append] using this
      · obtain ⟨cs', c, rfl⟩ : ∃ cs' c, cs = cs' ++ [c] := ⟨cs.dropLast, cs.getLast c2, (List.dropLast_concat_getLast c2).symm⟩
        have hpl : ps ≠ [] := fun z => by have := hp.len; rw [z] at this; simp at this
        obtain ⟨ps', q, rfl⟩ : ∃ ps' q, ps = ps' ++ [q] := ⟨ps.dropLast, ps.getLast hpl, (List.dropLast_concat_getLast hpl).symm⟩
        obtain ⟨hq, hp2⟩ := hp.add (trip t l v)
        have lq : atI ((ps' ++ [q]).map D.ref) (-1) = some (.ref q) := by rw [at_m1']; simp
        have cl := hc c (by simp)
        simp_arith [c2, hp.at_, lq, hq]
        refine And.intro (by omega) ?_
        have nx := ih [some (.lst es), some (.int tt), some (.ref a), some (trip t l v)] _ ⟨fun e he => hx e (List.mem_cons_of_mem _ he), ps' ++ [q], cs' ++ [c ++ [trip t l v]], _, by
          rw [← e, prtF, if_neg (by rw [hlo, decide_eq_true_eq]; exact fun z => z.elim c1 c2), addL_last], hp2, by omega, fun d hd => by
            rcases List.mem_append.mp hd with h | h
            · have := hc d (List.mem_append_left _ h); omega
            · rw [List.mem_singleton] at h; subst h; simp; omega, rfl⟩
        simpa only [trip] using nx
end DL

namespace DL
open PySem PySem.Spec PyProof.Rows L2
/-! ## 79. join_value -/
theorem lcD_map {α : Type} {step : D → HD → (Option D → HD → Prop) → Prop} {Q : List D → HD → Prop} {G : HD} (g f : α → D) : ∀ (L : List α) (acc : List D), (∀ x ∈ L, ∀ F : Option D → HD → Prop, F (some (f x)) G → step (g x) G F) → Q (acc ++ L.map f) G → lcD step Q (L.map g) acc G
  | [], acc, _, h => by simpa [lcD] using h
  | x :: L, acc, hs, h => by
    rw [List.map_cons, lcD]
    refine hs x List.mem_cons_self _ ?_
    exact lcD_map g f L (acc ++ [f x]) (fun y hy => hs y (List.mem_cons_of_mem _ hy)) (by simpa using h)
theorem rngN (n : Nat) : rngL (0, n, 1) = (List.range n).map fun k => .int (k : Nat) := by
  show rngF 1 n 0 = _
  rw [rgF_eq]
  simp
/-- the columns of one value -/
def colV (k : Kd) (v : D) (t l s : Int) : List D := (List.range (lv k).length).map fun i => .lst (en k i v t l s)
theorem colV_len {k : Kd} {v : D} {t l s : Int} : (colV k v t l s).length = (lv k).length := by simp [colV]
theorem colV_at {k : Kd} {v : D} {t l s : Int} {i : Nat} (h : i < (lv k).length) : (colV k v t l s)[i]? = some (.lst (en k i v t l s)) := by
  unfold colV
  rw [List.getElem?_map, List.getElem?_range h]; rfl
def spJv (n : Nat) : SpD := fun ds G Q _ => ∃ k v m t l s, ds = [enc k, .lst (colV k v t l s), .int l, .int s] ∧ Wf k ∧ OkV k v m ∧ m ≤ 1000 ∧ (dp k ≤ n ∧ dp k ≤ 100) ∧ (lv k).length ≤ 1000 ∧ t ≤ s ∧ Q v G
def b_jvR (cleaves cjoin_value : Nat) : Ss := (.c (.set 4 (.lst false .n))
 (.c (.set 5 (.con (.int 0)))
 (.c (.for_ (.t [(.n 6), (.n 7)]) (.of (.idx (.var 0) (.con (.int 1)))) (.c (.set 8 (.bf true .len (.c (.frz (.call cleaves (.c (.var 7) .n))) .n)))
 (.c (.ex (.mt .append (.var 4) (.c (.call cjoin_value (.c (.var 7) (.c (.sl true (.var 1) (.var 5) (.bin true .add (.var 5) (.var 8))) (.c (.var 2) (.c (.var 3) .n))))) .n)))
 (.c (.aug 5 .add (.var 8))
 .n))))
 (.c (.fz 4) (.c (.ret (.bf true .tuple (.c (.var 4) .n)))
 .n)))))
def b_jvL (cjoin_value cparted : Nat) : Ss := (.c (.set 9 (.lc true (.call cparted (.c (.var 11) (.c (.bin true .add (.var 3) (.con (.int 1))) .n))) (.n 11) (.of (.var 1)) .yes [("column", 11)]))
 (.c (.set 10 (.lc true (.lc true (.idx (.var 7) (.var 5)) (.n 7) (.of (.var 9)) .yes [("part", 7)]) (.n 5) (.rng (.c (.bf true .len (.c (.idx (.var 9) (.con (.int 0))) .n)) .n)) .yes [("at", 5)]))
 (.c (.ret (.bf true .tuple (.c (.lc true (.call cjoin_value (.c (.idx (.var 0) (.con (.int 1))) (.c (.var 12) (.c (.bin true .add (.var 2) (.con (.int 1))) (.c (.bin true .add (.var 3) (.con (.int 1))) .n))))) (.n 12) (.of (.var 10)) .yes [("row", 12)]) .n)))
 .n)))
def b_jv2 (cjoin_value cparted : Nat) : Ss := (.c (.ite (.cmp .eq (.idx (.idx (.idx (.var 1) (.con (.int 0))) (.con (.int 0))) (.con (.int 1))) (.var 2)) (.c (.ret (.ife (.cmp .eq (.idx (.var 0) (.con (.int 0))) (.con (.str sOpt))) (.con .non) (.tup .n)))
 .n) .n)
 (.c (.ite (.cmp .eq (.idx (.var 0) (.con (.int 0))) (.con (.str sOpt))) (.c (.ret (.call cjoin_value (.c (.idx (.var 0) (.con (.int 1))) (.c (.var 1) (.c (.bin true .add (.var 2) (.con (.int 1))) (.c (.var 3) .n))))))
 .n) .n)
 (b_jvL cjoin_value cparted)))
def b_join_value (cleaves cjoin_value cparted gLEAVES : Nat) : Ss :=
 (.c (.ite (.cmp .inn (.idx (.var 0) (.con (.int 0))) (.glb gLEAVES)) (.c (.ret (.idx (.idx (.idx (.var 1) (.con (.int 0))) (.con (.int 0))) (.con (.int 2))))
 .n) .n)
 (.c (.ite (.cmp .eq (.idx (.var 0) (.con (.int 0))) (.con (.str sRec))) (b_jvR cleaves cjoin_value) .n)
 (b_jv2 cjoin_value cparted)))
theorem jvR_ok {Γ : Gam} {lf jv n : Nat} (h1 : Γ.sp jv = spJv n) (h2 : Γ.sp lf = spLeaves) {E : EndsD} {fs : Fs} {vs : List D} {m : Nat} {t l s : Int} {G : HD} (w : Wfs fs) (w8 : (toL fs).length ≤ 8) (hv : OkVs fs vs m) (hm : m ≤ 1000) (hd' : dps fs ≤ n ∧ dps fs ≤ 100) (hl : (lvs fs).length ≤ 1000) (ht : t ≤ s)
    (h : E.rt (.tup vs) G) : ∀ σ, σ = [some (.tup [.str sRec, .tup (encs fs)]), some (.lst (colV (.recd fs) (.tup vs) t l s)), some (.int l), some (.int s), none, none, none, none, none, none, none, none, none] →
    wSs Γ (b_jvR lf jv) E σ G := by
  intro σ hσ
  subst hσ
  have hlim : lim = 16777216 := rfl
  have cvl : (colV (.recd fs) (.tup vs) t l s).length = (lvs fs).length := colV_len
  have cve : colV (.recd fs) (.tup vs) t l s = (List.range (lvs fs).length).map fun i => .lst (ens fs i vs t l s) := by
    unfold colV; simp only [lv, en]
  generalize hCV : colV (.recd fs) (.tup vs) t l s = CV at cvl cve ⊢
  simp_arith [b_jvR, h1, h2]
  intro a ha
  refine wFor_ind (fun xs σ H => ∃ (ls : List (List Nat × Kd)) (pw ws : List D) (b off : Nat) (o6 o7 o8 : Option D), xs = ls.map enc1 ∧ (∀ p ∈ ls, p ∈ toL fs) ∧ pw.length + ls.length ≤ 8 ∧ vs = pw ++ ws ∧ OkVs (fsOf ls) ws b ∧ b ≤ 1000 ∧ off + (lvs (fsOf ls)).length = (lvs fs).length ∧
    (∀ i, ens fs (off + i) vs t l s = ens (fsOf ls) i ws t l s) ∧ H = updD G a (.lst pw) ∧
    σ = [some (.tup [.str sRec, .tup (encs fs)]), some (.lst CV), some (.int l), some (.int s), some (.ref a), some (.int off), o6, o7, o8, none, none, none, none]) ?_ ?_ _ _ _
    ⟨toL fs, [], vs, m, 0, none, none, none, by rw [encs_eq], fun _ h => h, by simpa using w8, rfl, by rw [fsOf_toL]; exact hv, hm, by rw [fsOf_toL]; omega, fun i => by rw [fsOf_toL, Nat.zero_add], rfl, rfl⟩
  · rintro σ H ⟨ls, pw, ws, b, off, o6, o7, o8, hx, _, _, e2, hok, _, hoff, hens, rfl, rfl⟩
    have : ls = [] := by cases ls <;> first | rfl | cases hx
    subst this
    have : ws = [] := by simpa [fsOf, OkVs] using hok
    subst this
    rw [List.append_nil] at e2
    subst e2
    simp_arith [updD_same, delD_updD ha]
    exact h
  · rintro x xs ih σ H ⟨ls, pw, ws, b, off, o6, o7, o8, hx, hin, h8, e2, hok, hb, hoff, hens, rfl, rfl⟩
    cases ls with
    | nil => cases hx
    | cons p ls =>
      have hx : x :: xs = D.tup [.str p.1, enc p.2] :: ls.map enc1 := hx
      injection hx with hx1 hx2
      subst hx1; subst hx2
      simp only [fsOf, OkVs] at hok
      obtain ⟨v, ws', a1, b1, rfl, hab, hv1, hv2⟩ := hok
      rw [lvs_fsOf] at hoff
      have hp : p ∈ toL fs := hin p List.mem_cons_self
      have wp := (wfs_eq w p hp).2
      have dpp := dps_eq p hp
      have hen : ∀ i, i < (lv p.2).length → ens fs (off + i) vs t l s = en p.2 i v t l s := fun i hi => by
        rw [hens i]; simp only [fsOf, ens]; rw [if_pos hi]
      have ec : cutL CV (some (off : Int)) (some ((off : Int) + ((lv p.2).length : Int))) = colV p.2 v t l s := by
        rw [cut_mid (by omega), cve]
        unfold colV
        apply List.ext_getElem?
        intro i
        by_cases c : i < (lv p.2).length
        · rw [List.getElem?_take_of_lt c, List.getElem?_drop, List.getElem?_map, List.getElem?_map, List.getElem?_range (by omega), List.getElem?_range c]
          simp only [Option.map_some, hen i c]
        · rw [List.getElem?_eq_none (by simp; omega), List.getElem?_eq_none (by simp; omega)]
      simp only [List.length_cons] at h8
      simp_arith []
      refine ⟨p.2, rfl, wp, by omega, by omega, fun q hq => ?_⟩
      have e5 : ∀ x, delD (updD (updD G a (.lst pw)) q x) q = updD G a (.lst pw) := fun x => delD_updD hq
      simp_arith [updD_same, e5, List.length_map, ec]
      refine ⟨p.2, v, a1, t, l, s, rfl, wp, hv1, by omega, ⟨by omega, by omega⟩, by omega, ht, ?_⟩
      simp_arith [updD_same]
      refine ⟨by omega, ih _ _ ⟨ls, pw ++ [v], ws', b1, off + (lv p.2).length, _, _, _, rfl, fun q hq => hin q (List.mem_cons_of_mem _ hq), by simp; omega, by rw [e2]; simp, hv2, by omega, by omega, fun i => ?_, updD_updD, rfl⟩⟩
      rw [Nat.add_assoc, hens]
      simp only [fsOf, ens]
      rw [if_neg (by omega), Nat.add_sub_cancel_left]
theorem hd_trp {t l s : Int} {es : List D} (h : Hd t l s es) : ∀ e ∈ es, Trp e := by
  obtain ⟨l', x, r, rfl, h1, h2⟩ := h
  intro e he
  rcases List.mem_cons.mp he with rfl | he
  · exact ⟨_, _, _, rfl⟩
  · obtain ⟨t', l2, y, rfl, _⟩ := h2 e he
    exact ⟨_, _, _, rfl⟩
theorem hd_blk {t l s : Int} {es : List D} (h : Hd t l s es) (ht : t ≤ s) : Blk s es := by
  obtain ⟨l', x, r, rfl, h1, h2⟩ := h
  refine ⟨_, _, rfl, decide_eq_true ht, fun f hf => ?_⟩
  obtain ⟨t', l2, y, rfl, h3, _⟩ := h2 f hf
  exact decide_eq_false (by omega)
/-- the rows of a list, each with the turn it starts with -/
def tz (t s : Int) : List D → List (D × Int)
  | [] => []
  | y :: ys => (y, t) :: ys.map fun z => (z, s + 1)
theorem tz_fst {t s : Int} : ∀ vs : List D, (tz t s vs).map Prod.fst = vs
  | [] => rfl
  | y :: ys => by simp [tz, Function.comp_def]
theorem tz_len {t s : Int} (vs : List D) : (tz t s vs).length = vs.length := by
  rw [← List.length_map (f := Prod.fst), tz_fst]
theorem tz_mem {t s : Int} : ∀ {vs : List D} {p : D × Int}, p ∈ tz t s vs → p.1 ∈ vs ∧ (p.2 = t ∨ p.2 = s + 1)
  | [], p, h => by simp [tz] at h
  | y :: ys, p, h => by
    rcases List.mem_cons.mp h with rfl | h
    · exact ⟨List.mem_cons_self, .inl rfl⟩
    · obtain ⟨z, hz, rfl⟩ := List.mem_map.mp h
      exact ⟨List.mem_cons_of_mem _ hz, .inr rfl⟩
theorem tz_enl {f : Int → D → List D} {t s : Int} : ∀ vs : List D, enl f t s vs = ((tz t s vs).map fun p => f p.2 p.1).flatten
  | [] => rfl
  | y :: ys => by simp [tz, enl, List.flatMap, Function.comp_def]
theorem range_getD {α β : Type} (d : α) (F : α → β) (L : List α) : (List.range L.length).map (fun j => F (L.getD j d)) = L.map F := by
  apply List.ext_getElem?
  intro i
  by_cases c : i < L.length
  · rw [List.getElem?_map, List.getElem?_range c, List.getElem?_map, List.getElem?_eq_getElem c]
    simp [List.getD_eq_getElem?_getD, List.getElem?_eq_getElem c]
  · rw [List.getElem?_eq_none (by simp; omega), List.getElem?_eq_none (by simp; omega)]
def dz : D × Int := (.non, 0)
/-- the parts of the i-th column -/
def ptz (a : Kd) (l s : Int) (z : List (D × Int)) (i : Nat) : D := .lst (z.map fun p => .lst (en a i p.1 p.2 l s))
theorem ptz_at {a : Kd} {l s : Int} {z : List (D × Int)} {i j : Nat} (h : j < z.length) : (z.map fun p => D.lst (en a i p.1 p.2 l s))[j]? = some (.lst (en a i (z.getD j dz).1 (z.getD j dz).2 l s)) := by
  rw [List.getElem?_map, List.getElem?_eq_getElem h]
  simp [List.getD_eq_getElem?_getD, List.getElem?_eq_getElem h]
theorem jvL_ok {Γ : Gam} {jv pt n : Nat} (h1 : Γ.sp jv = spJv n) (h2 : Γ.sp pt = spParted) {E : EndsD} {a : Kd} {vs : List D} {m : Nat} {t l s : Int} {G : HD} (w : Wf a) (hv : OkV (.one false a) (.tup vs) m) (hm : m ≤ 1000) (hd' : dp a ≤ n ∧ dp a ≤ 100) (hl : (lv a).length ≤ 1000) (ht : t ≤ s) (hne : vs ≠ [])
    (h : E.rt (.tup vs) G) : ∀ σ, σ = [some (.tup [.str (sOne false), enc a]), some (.lst (colV (.one false a) (.tup vs) t l s)), some (.int l), some (.int s), none, none, none, none, none, none, none, none, none] →
    wSs Γ (b_jvL jv pt) E σ G := by
  intro σ hσ
  subst hσ
  have hlim : lim = 16777216 := rfl
  obtain ⟨vs', evs, hvl, hall⟩ := okv_list hv
  cases evs
  have hp1 := lv_pos a w
  have cve : colV (.one false a) (.tup vs) t l s = (List.range (lv a).length).map fun i => .lst (((tz t s vs).map fun p => en a i p.1 p.2 (l + 1) (s + 1)).flatten) := by
    unfold colV
    rw [show (lv (.one false a)).length = (lv a).length by simp [lv]]
    apply List.map_congr_left
    intro i hi
    cases vs with
    | nil => exact absurd rfl hne
    | cons y ys => simp only [en]; rw [tz_enl]
  have okz : ∀ p ∈ tz t s vs, (∃ m', m' ≤ m ∧ OkV a p.1 m') ∧ p.2 ≤ s + 1 := fun p hp => by
    obtain ⟨q1, q2⟩ := tz_mem hp
    exact ⟨hall _ q1, by rcases q2 with q2 | q2 <;> omega⟩
  have el : ∀ i, ((tz t s vs).map fun p => en a i p.1 p.2 (l + 1) (s + 1)).flatten.length ≤ 1001 := fun i => by
    have := en_len _ i _ _ t l s hv
    cases vs with
    | nil => exact absurd rfl hne
    | cons y ys =>
      simp only [en] at this
      rw [tz_enl] at this
      omega
  have zl : (tz t s vs).length = vs.length := tz_len vs
  have zf := tz_fst (t := t) (s := s) vs
  generalize tz t s vs = z at cve okz el zl zf
  have hz1 : 1 ≤ z.length := by cases vs with | nil => exact absurd rfl hne | cons y ys => rw [zl]; simp
  generalize hCV : colV (.one false a) (.tup vs) t l s = CV at cve ⊢
  subst cve
  simp_arith [b_jvL, h1, h2]
  refine lcD_map (G := G) _ (ptz a (l + 1) (s + 1) z) (List.range (lv a).length) [] (fun i hi F hF => ?_) ?_
  · have hi := List.mem_range.mp hi
    refine ⟨z.map fun p => en a i p.1 p.2 (l + 1) (s + 1), s + 1, rfl, fun b hb => ?_, fun e he => ?_, by have := el i; omega, ?_⟩
    · obtain ⟨p, hp, rfl⟩ := List.mem_map.mp hb
      obtain ⟨⟨m', _, q⟩, q2⟩ := okz p hp
      exact hd_blk (en_hd a i p.1 m' p.2 (l + 1) (s + 1) w q hi) q2
    · obtain ⟨b, hb, he⟩ := List.mem_flatten.mp he
      obtain ⟨p, hp, rfl⟩ := List.mem_map.mp hb
      obtain ⟨⟨m', _, q⟩, q2⟩ := okz p hp
      exact hd_trp (en_hd a i p.1 m' p.2 (l + 1) (s + 1) w q hi) e he
    · rw [List.map_map]
      exact hF
  · have e0 : ((List.range (lv a).length).map (ptz a (l + 1) (s + 1) z))[0]? = some (ptz a (l + 1) (s + 1) z 0) := by
      rw [List.getElem?_map, List.getElem?_range (by omega)]; rfl
    rw [List.nil_append]
    generalize hPP : (List.range (lv a).length).map (ptz a (l + 1) (s + 1) z) = PP at e0 ⊢
    simp_arith [e0, ptz, List.length_map]
    rw [q_rng1 ⟨by omega, by omega⟩, ok_some]
    refine And.intro (by dsimp only; omega) ?_
    rw [rngN]
    refine lcD_map (G := G) _ (fun j => .lst (colV a (z.getD j dz).1 (z.getD j dz).2 (l + 1) (s + 1))) (List.range z.length) [] (fun j hj F hF => ?_) ?_
    · have hj := List.mem_range.mp hj
      subst hPP
      refine lcD_map (G := G) _ (fun i => .lst (en a i (z.getD j dz).1 (z.getD j dz).2 (l + 1) (s + 1))) (List.range (lv a).length) [] (fun i hi F hF => ?_) ?_
      · simp_arith [ptz, at_nat, ptz_at hj]
        exact hF
      · exact hF
    · rw [List.nil_append, range_getD dz (fun p => D.lst (colV a p.1 p.2 (l + 1) (s + 1))) z]
      refine lcD_map (G := G) _ Prod.fst z [] (fun p hp F hF => ?_) ?_
      · obtain ⟨⟨m', hm', q⟩, q2⟩ := okz p hp
        exact ⟨a, p.1, m', p.2, l + 1, s + 1, rfl, w, q, by omega, hd', hl, q2, hF⟩
      · rw [List.nil_append, zf]
        exact h
theorem join_value_ok {Γ : Gam} {lf jv pt gl n : Nat} (h1 : Γ.sp jv = spJv n) (h2 : Γ.sp lf = spLeaves) (h3 : Γ.sp pt = spParted) (hg : Γ.gl gl = .tup [.str sInt, .str sText, .str sBool]) (ds : List D) (G : HD) (QD : KD) (XD : KX) (h : spJv (n + 1) ds G QD XD) :
    wSs Γ (b_join_value lf jv pt gl) { nx := fun _ H => QD .non H, rt := QD, ex := fun x _ H => XD x H } (startD 13 ds) G := by
  obtain ⟨k, v, m, t, l, s, rfl, w, hv, hm, hd', hl, ht, hQ⟩ := h
  have hlim : lim = 16777216 := rfl
  have hp1 := lv_pos k w
  have c0 := colV_at (v := v) (t := t) (l := l) (s := s) (show 0 < (lv k).length by omega)
  cases k with
  | leaf k =>
    generalize hCV : colV (.leaf k) v t l s = CV at c0 ⊢
    simp only [en] at c0
    simp_arith [b_join_value, hg, enc, leaf_in w, c0, trip]
    exact hQ
  | recd fs =>
    simp only [OkV] at hv
    obtain ⟨vs, rfl, hv⟩ := hv
    simp only [Wf] at w
    simp only [dp] at hd'
    simp only [lv] at hl
    have fin := jvR_ok (l := l) (E := { nx := wSs Γ (b_jv2 jv pt) { nx := fun _ H => QD .non H, rt := QD, ex := fun x _ H => XD x H }, rt := QD, ex := fun x _ H => XD x H }) (G := G) h1 h2 w.2 w.1.2.2 hv hm ⟨by omega, by omega⟩ hl ht hQ
    generalize hCV : colV (.recd fs) (.tup vs) t l s = CV at c0 fin ⊢
    simp_arith [b_join_value, hg, enc, rec_in, beq_self_eq_true]
    with_reducible exact fin _ rfl
  | one o a =>
    have w0 := w
    simp only [Wf] at w
    simp only [dp] at hd'
    simp only [lv, List.length_map] at hl
    obtain ⟨l', x, r, eh, hh, _⟩ := en_hd (.one o a) 0 v m t l s w0 hv (by omega)
    cases o with
    | true =>
      have o2 : (sOne true == sOpt) = true := rfl
      by_cases hz : v = .non
      · subst hz
        generalize hCV : colV (.one true a) .non t l s = CV at c0 ⊢
        simp only [en] at c0
        simp_arith [b_join_value, hg, enc, one_in, one_nr]
        simp_arith [b_jv2, c0, trip, o2, beq_self_eq_true]
        exact hQ
      · simp only [OkV] at hv
        have hv := hv.resolve_left hz
        obtain ⟨l', x, r, eh, hh, _⟩ := en_hd a 0 v m t (l + 1) s w.2 hv (by have := lv_pos a w.2; omega)
        rw [en_opt hz, eh] at c0
        have en1 : (l' == l) = false := beq_eq_false_iff_ne.mpr (by omega)
        have ecv : colV (.one true a) v t l s = colV a v t (l + 1) s := by
          unfold colV
          rw [show (lv (.one true a)).length = (lv a).length by simp [lv]]
          exact List.map_congr_left fun i _ => by rw [en_opt hz]
        rw [ecv] at c0 ⊢
        generalize hCV : colV a v t (l + 1) s = CV at c0 ⊢
        simp_arith [b_join_value, hg, enc, one_in, one_nr]
        simp_arith [b_jv2, c0, trip, en1, o2, h1]
        refine ⟨a, v, m, t, l + 1, s, by rw [hCV], w.2, hv, hm, ⟨by omega, by omega⟩, hl, ht, hQ⟩
    | false =>
      have o2 : (sOne false == sOpt) = false := rfl
      have hv0 := hv
      obtain ⟨vs, rfl, _, hall⟩ := okv_list hv
      cases vs with
      | nil =>
        generalize hCV : colV (.one false a) (.tup []) t l s = CV at c0 ⊢
        simp only [en] at c0
        simp_arith [b_join_value, hg, enc, one_in, one_nr]
        simp_arith [b_jv2, c0, trip, o2, beq_self_eq_true]
        exact hQ
      | cons y ys =>
        obtain ⟨m', _, q⟩ := hall y List.mem_cons_self
        obtain ⟨l', x, r, eh, hh, _⟩ := en_hd a 0 y m' t (l + 1) (s + 1) w.2 q (by have := lv_pos a w.2; omega)
        simp only [en, enl] at c0
        rw [eh] at c0
        have en1 : (l' == l) = false := beq_eq_false_iff_ne.mpr (by omega)
        have fin := jvL_ok (l := l) (E := { nx := fun _ H => QD .non H, rt := QD, ex := fun x _ H => XD x H }) (G := G) h1 h3 w.2 hv0 hm ⟨by omega, by omega⟩ hl ht (by simp) hQ
        generalize hCV : colV (.one false a) (.tup (y :: ys)) t l s = CV at c0 fin ⊢
        simp_arith [b_join_value, hg, enc, one_in, one_nr]
        simp_arith [b_jv2, c0, List.cons_append, trip, en1, o2]
        with_reducible exact fin _ rfl
end DL

namespace DL
open PySem PySem.Spec PyProof.Rows L2
/-! ## 80. join, cut -/
theorem lv_chs_len {k : Kd} {c : List Nat} (p : c.Pairwise (· < ·)) (hc : ∀ x ∈ c, x < (lv k).length) (hne : c ≠ []) : anyP (inC c) 0 (lv k).length = true ∧ (lv (chs (inC c) k 0)).length = c.length := by
  have ha : anyP (inC c) 0 (lv k).length = true := by
    cases c with
    | nil => exact absurd rfl hne
    | cons x c => exact anyP_iff.mpr ⟨x, by omega, by have := hc x List.mem_cons_self; omega, decide_eq_true List.mem_cons_self⟩
  refine ⟨ha, ?_⟩
  rw [lv_pick k 0 ha, pick_choice ⟨[], [], []⟩ (lv k) 0 c p fun x hx => ⟨Nat.zero_le _, by have := hc x hx; omega⟩, List.length_map]
theorem en_at_chs {k : Kd} {c : List Nat} {r : D} {m i x : Nat} {t l s : Int} (w : Wf k) (p : c.Pairwise (· < ·)) (hc : ∀ x ∈ c, x < (lv k).length) (hr : OkV k r m) (hi : c[i]? = some x) :
    en (chs (inC c) k 0) i (wo (inC c) k 0 r) t l s = en k x r t l s := by
  have hx : x ∈ c := List.mem_of_getElem? hi
  have h1 := en_chs (P := inC c) k 0 x r m t l s w hr (hc x hx) (by rw [Nat.zero_add]; exact decide_eq_true hx)
  rw [Nat.zero_add, cnt_at p hi] at h1
  exact h1
theorem map_range {α : Type} (c : List Nat) (g : Nat → α) (f : Nat → α) (h : ∀ i x, c[i]? = some x → f i = g x) : (List.range c.length).map f = c.map g := by
  apply List.ext_getElem?
  intro i
  by_cases q : i < c.length
  · rw [List.getElem?_map, List.getElem?_range q, List.getElem?_map, List.getElem?_eq_getElem q]
    simp only [Option.map_some, h i _ (List.getElem?_eq_getElem q)]
  · rw [List.getElem?_eq_none (by simp; omega), List.getElem?_eq_none (by simp; omega)]
theorem colV_chs {k : Kd} {c : List Nat} {r : D} {m : Nat} {t l s : Int} (w : Wf k) (p : c.Pairwise (· < ·)) (hc : ∀ x ∈ c, x < (lv k).length) (hne : c ≠ []) (hr : OkV k r m) :
    colV (chs (inC c) k 0) (wo (inC c) k 0 r) t l s = c.map fun x => .lst (en k x r t l s) := by
  unfold colV
  rw [(lv_chs_len p hc hne).2]
  exact map_range c _ _ fun i x hi => by rw [en_at_chs w p hc hr hi]
def b_join (care_columns cparted cchosen cjoin_value : Nat) : Ss :=
 (.c (.ite (.nt (.of (.call care_columns (.c (.var 0) (.c (.var 1) (.c (.var 2) .n)))))) (.c (.rai 1)
 .n) .n)
 (.c (.set 3 (.lc true (.call cparted (.c (.var 5) (.c (.con (.int 0)) .n))) (.n 5) (.of (.var 2)) .yes [("column", 5)]))
 (.c (.set 4 (.call cchosen (.c (.var 0) (.c (.var 1) .n))))
 (.c (.ret (.lc false (.call cjoin_value (.c (.var 4) (.c (.lc true (.idx (.var 6) (.var 7)) (.n 6) (.of (.var 3)) .yes [("part", 6)]) (.c (.con (.int 0)) (.c (.con (.int 0)) .n))))) (.n 7) (.rng (.c (.bf true .len (.c (.idx (.var 3) (.con (.int 0))) .n)) .n)) .yes [("at", 7)]))
 .n))))
def spJoin : SpD := fun ds G Q _ => ∃ (k : Kd) (c : List Nat) (rows : List D), ds = [enc k, .tup (natD c), .tup (colsD k rows c)] ∧ Wf k ∧ dp k ≤ 10 ∧ (lv k).length ≤ 1000 ∧ (c.Pairwise (· < ·) ∧ (∀ x ∈ c, x < (lv k).length) ∧ c ≠ [] ∧ c.length ≤ 1000) ∧ rows.length ≤ 1000 ∧ (∀ r ∈ rows, ∃ m, m ≤ 1000 ∧ OkV k r m) ∧
  ∀ a, G a = none → Q (.ref a) (updD G a (.lst (rows.map (wo (inC c) k 0))))
theorem col_len2 {k : Kd} {i : Nat} : ∀ {rows : List D}, (∀ r ∈ rows, ∃ m, m ≤ 1000 ∧ OkV k r m) → ((rows.map fun r => en k i r 0 0 0).flatten).length ≤ rows.length * 1001
  | [], _ => by simp
  | r :: rows, h => by
    obtain ⟨m, hm, q⟩ := h r List.mem_cons_self
    have := en_len k i r m 0 0 0 q
    have := col_len2 (k := k) (i := i) (rows := rows) fun z hz => h z (List.mem_cons_of_mem _ hz)
    rw [List.map_cons, List.flatten_cons, List.length_append, List.length_cons]
    omega
theorem join_ok {Γ : Gam} {ac pt ch jv : Nat} (g1 : Γ.sp ac = spAreC) (g2 : Γ.sp pt = spParted) (g3 : Γ.sp ch = spChosen) (g4 : Γ.sp jv = spJv 10) (ds : List D) (G : HD) (QD : KD) (XD : KX) (h : spJoin ds G QD XD) :
    wSs Γ (b_join ac pt ch jv) { nx := fun _ H => QD .non H, rt := QD, ex := fun x _ H => XD x H } (startD 8 ds) G := by
  obtain ⟨k, c, rows, rfl, w, hd', hl, ⟨p, hc, hne, hcl⟩, hrl, hr, hQ⟩ := h
  have hlim : lim = 16777216 := rfl
  have cd : colsD k rows c = c.map fun x => .lst ((rows.map fun r => en k x r 0 0 0).flatten) := by
    unfold colsD col; simp only [List.flatMap]
  obtain ⟨x0, hx0⟩ : ∃ x0, c[0]? = some x0 := by cases c with | nil => exact absurd rfl hne | cons x c => exact ⟨x, rfl⟩
  generalize hK : enc k = K0
  generalize hCO : colsD k rows c = CO at cd ⊢
  simp_arith [b_join, g1, g2, g3, g4]
  refine ⟨k, c, rows, by rw [hK, hCO], w, hd', hl, hc, hcl, hr, ?_⟩
  rw [cd]
  simp_arith []
  refine lcD_map (G := G) _ (fun x => .lst ((rows.map fun r => en k x r 0 0 0).map .lst)) c [] (fun x hx F hF => ?_) ?_
  · have hx := hc x hx
    refine ⟨rows.map fun r => en k x r 0 0 0, 0, rfl, fun b hb => ?_, fun e he => ?_, by have := col_len2 (k := k) (i := x) hr; omega, hF⟩
    · obtain ⟨r, hr', rfl⟩ := List.mem_map.mp hb
      obtain ⟨m, _, q⟩ := hr r hr'
      exact hd_blk (en_hd k x r m 0 0 0 w q hx) (Int.le_refl _)
    · obtain ⟨b, hb, he⟩ := List.mem_flatten.mp he
      obtain ⟨r, hr', rfl⟩ := List.mem_map.mp hb
      obtain ⟨m, _, q⟩ := hr r hr'
      exact hd_trp (en_hd k x r m 0 0 0 w q hx) e he
  · have e0 : (c.map fun x => D.lst ((rows.map fun r => en k x r 0 0 0).map .lst))[0]? = some (.lst ((rows.map fun r => en k x0 r 0 0 0).map .lst)) := by
      rw [List.getElem?_map, hx0]; rfl
    rw [List.nil_append]
    generalize hPP : (c.map fun x => D.lst ((rows.map fun r => en k x r 0 0 0).map .lst)) = PP at e0 ⊢
    refine ⟨k, c, by rw [hK], w, hd', hl, ?_⟩
    simp_arith [e0, List.length_map]
    rw [q_rng1 ⟨by omega, by omega⟩, ok_some]
    refine And.intro (by dsimp only; omega) ?_
    rw [rngN]
    refine lcD_map (G := G) _ (fun j => wo (inC c) k 0 (rows.getD j .non)) (List.range rows.length) [] (fun j hj F hF => ?_) ?_
    · have hj := List.mem_range.mp hj
      have ej : rows[j]? = some (rows.getD j .non) := by simp [List.getD_eq_getElem?_getD, List.getElem?_eq_getElem hj]
      obtain ⟨m, hm, q⟩ := hr (rows.getD j .non) (List.mem_of_getElem? ej)
      subst hPP
      refine lcD_map (G := G) _ (fun x => .lst (en k x (rows.getD j .non) 0 0 0)) c [] (fun x hx F2 hF2 => ?_) ?_
      · have e1 : ((rows.map fun r => en k x r 0 0 0).map D.lst)[j]? = some (.lst (en k x (rows.getD j .non) 0 0 0)) := by
          rw [List.getElem?_map, List.getElem?_map, ej]; rfl
        simp_arith [at_nat, e1]
        exact hF2
      · obtain ⟨a1, a2⟩ := lv_chs_len (k := k) p hc hne
        simp_arith []
        refine ⟨chs (inC c) k 0, wo (inC c) k 0 (rows.getD j .non), m, 0, 0, 0, by rw [colV_chs w p hc hne q], wf_chs k 0 w a1, okv_wo k 0 _ m q, hm, ⟨by have := dp_chs (P := inC c) k 0; omega, by have := dp_chs (P := inC c) k 0; omega⟩, by omega, Int.le_refl _, hF⟩
    · rw [List.nil_append, range_getD .non (wo (inC c) k 0) rows]
      intro a ha
      exact hQ a ha
/-! ### cut, of rows that may be live -/
theorem wForL_ind {gd : HD → Prop} {g : Tgt} {body : EndsD → StD → HD → Prop} {E : EndsD} (I : List D → StD → HD → Prop) (stop : ∀ σ H, I [] σ H → gd H ∧ E.nx σ H)
    (step : ∀ x xs, (∀ σ H, I xs σ H → wForL gd g body E xs σ H) → ∀ σ H, I (x :: xs) σ H → gd H ∧ ok (asg g x σ) fun σ' => body { E with nx := wForL gd g body E xs, ct := wForL gd g body E xs, bk := E.nx } σ' H) :
    ∀ xs σ H, I xs σ H → wForL gd g body E xs σ H
  | [], σ, H, h => stop σ H h
  | x :: xs, σ, H, h => step x xs (wForL_ind I stop step xs) σ H h
def LvR (R : D) (G : HD) (rows : List D) : Prop := R = .lst rows ∨ ∃ a, R = .ref a ∧ G a = some (.lst rows)
theorem LvR.lv {R : D} {G H : HD} {rows : List D} (h : LvR R G rows) (hG : ∀ x, G x ≠ none → H x = G x) : lvD R H = some rows ∧ gdD R rows H := by
  rcases h with rfl | ⟨a, rfl, h⟩
  · exact ⟨rfl, trivial⟩
  · have : H a = some (.lst rows) := (hG a (by rw [h]; simp)).trans h
    exact ⟨by simp only [lvD, this], this⟩
theorem frL_refs2 {H : HD} (us : List Addr) (cs : List (List D)) (hl : us.length = cs.length) (nd : us.Nodup) (h : ∀ (j : Nat) (p : Addr) (c : List D), us[j]? = some p → cs[j]? = some c → H p = some (.lst c)) : frDp 2 (.tup (us.map .ref)) H = some (.tup (cs.map .lst), delA H us) := by
  simp only [frDp, frL_refs us cs H hl nd h]
def b_cutF (cleaves ccut_value : Nat) : Ss :=
 (.c (.set 3 (.lc true (.lst false .n) (.n 5) (.of (.frz (.call cleaves (.c (.var 0) .n)))) .yes [("_", 5)]))
 (.c (.forL (.n 4) (.var 1) (.c (.ex (.call ccut_value (.c (.var 0) (.c (.var 4) (.c (.con (.int 0)) (.c (.con (.int 0)) (.c (.con (.int 0)) (.c (.var 3) .n))))))))
 .n))
 (.c (.ret (.frD 2 (.bf true .tuple (.c (.lc true (.idx (.var 3) (.var 6)) (.n 6) (.of (.var 2)) .yes [("number", 6)]) .n))))
 .n)))
def spCutF : SpD := fun ds G Q _ => ∃ k R rows c, ds = [enc k, R, .tup (natD c)] ∧ LvR R G rows ∧ Wf k ∧ dp k ≤ 10 ∧ (lv k).length ≤ 1000 ∧ (∀ x ∈ c, x < (lv k).length) ∧ c.Nodup ∧ rows.length ≤ 16 ∧ (∀ r ∈ rows, ∃ m, m ≤ 1000 ∧ OkV k r m) ∧
  ∀ (G' : HD), (∀ x, G x ≠ none → G' x = G x) → Q (.tup (colsD k rows c)) G'
theorem cutF_ok {Γ : Gam} {lf cv : Nat} (h1 : Γ.sp cv = spCut 10) (h2 : Γ.sp lf = spLeaves) (ds : List D) (G : HD) (QD : KD) (XD : KX) (h : spCutF ds G QD XD) :
    wSs Γ (b_cutF lf cv) { nx := fun _ H => QD .non H, rt := QD, ex := fun x _ H => XD x H } (startD 7 ds) G := by
  obtain ⟨k, R, rows, c, rfl, hR, w, hd', hl, hc, cnd, hrl, hrows, hQ⟩ := h
  have hlim : lim = 16777216 := rfl
  generalize hE : enc k = E
  simp_arith [b_cutF, h1, h2]
  refine ⟨k, by rw [hE], w, by omega, hl, fun q hq => ?_⟩
  have e5 : ∀ x, delD (updD G q x) q = G := fun x => delD_updD hq
  simp_arith [updD_same, e5]
  refine lcD_ind (fun xs acc H => ∃ rs : List Addr, acc = rs.map .ref ∧ rs.length + xs.length = (lv k).length ∧ rs.Nodup ∧ (∀ r ∈ rs, G r = none ∧ H r = some (.lst [])) ∧ ∀ x, x ∉ rs → H x = G x) ?_ ?_ _ _ _ ⟨[], rfl, by simp, .nil, fun _ h => (nomatch h), fun _ _ => rfl⟩
  · rintro acc H ⟨rs, rfl, hr, nd, k1, k2⟩
    rw [List.length_nil, Nat.add_zero] at hr
    have old : ∀ {H' : HD}, (∀ x, x ∉ rs → H' x = G x) → ∀ x, G x ≠ none → H' x = G x := fun hx x hne => hx x fun z => hne (k1 x z).1
    have lv0 := (hR.lv (old k2)).1
    simp_arith [lv0]
    refine wForL_ind (fun xs σ H => ∃ (pre : List D) (o4 : Option D), rows = pre ++ xs ∧ σ = [some E, some R, some (.tup (natD c)), some (.lst (rs.map .ref)), o4, none, none] ∧ (∀ (i : Nat) (r : Addr), rs[i]? = some r → H r = some (.lst (col k i pre))) ∧ ∀ x, x ∉ rs → H x = G x) ?_ ?_ _ _ _
      ⟨[], none, rfl, rfl, fun i r hi => (k1 r (List.mem_of_getElem? hi)).2, k2⟩
    · rintro σ H ⟨pre, o4, hx, rfl, j1, j2⟩
      rw [List.append_nil] at hx
      subst hx
      refine ⟨(hR.lv (old j2)).2, ?_⟩
      simp_arith []
      refine lcD_map (G := H) _ (fun y => .ref (rs.getD y 0)) c [] (fun y hy F hF => ?_) ?_
      · have hy : y < rs.length := by rw [hr]; exact hc y hy
        have e : atI (rs.map D.ref) ((y : Nat) : Int) = some (.ref (rs.getD y 0)) := by rw [at_nat, List.getElem?_map, List.getElem?_eq_getElem hy]; simp [List.getD_eq_getElem?_getD, List.getElem?_eq_getElem hy]
        simp_arith [e]
        exact hF
      · have gd : ∀ y, y ∈ c → rs[y]? = some (rs.getD y 0) := fun y hy => by
          have hy : y < rs.length := by rw [hr]; exact hc y hy
          simp [List.getD_eq_getElem?_getD, List.getElem?_eq_getElem hy]
        have und : (c.map fun y => rs.getD y 0).Nodup := by
          unfold List.Nodup at cnd ⊢
          rw [List.pairwise_map]
          refine cnd.imp_of_mem fun {y z} hy hz ne e => ne ?_
          have g1 := gd y hy
          have g2 := gd z hz
          rw [e] at g1
          exact nd_inj nd g1 g2
        have fr := frL_refs2 (H := H) (c.map fun y => rs.getD y 0) (c.map fun x => col k x rows) (by simp) und fun j p cc e1 e2 => by
          rw [List.getElem?_map] at e1 e2
          cases ej : c[j]? with
          | none => rw [ej] at e1; cases e1
          | some y =>
            rw [ej] at e1 e2
            simp only [Option.map_some, Option.some.injEq] at e1 e2
            subst e1; subst e2
            exact j1 y _ (gd y (List.mem_of_getElem? ej))
        rw [List.map_map, List.map_map] at fr
        rw [List.nil_append]
        have cD : colsD k rows c = c.map (D.lst ∘ fun x => col k x rows) := rfl
        rw [show (fun y => D.ref (rs.getD y 0)) = D.ref ∘ fun y => rs.getD y 0 from rfl]
        generalize c.map (D.ref ∘ fun y => rs.getD y 0) = L1 at fr ⊢
        simp_arith [fr]
        rw [← cD]
        refine hQ _ fun x hne => ?_
        unfold delA
        rw [if_neg fun z => ?_, old j2 x hne]
        obtain ⟨y, hy, rfl⟩ := List.mem_map.mp z
        exact hne (k1 _ (List.mem_of_getElem? (gd y hy))).1
    · rintro x xs ih σ H ⟨pre, o4, hx, rfl, j1, j2⟩
      obtain ⟨m, hm, q⟩ := hrows x (by rw [hx]; simp)
      have hpre : ∀ r ∈ pre, ∃ m, m ≤ 1000 ∧ OkV k r m := fun r h => hrows r (by rw [hx]; exact List.mem_append_left _ h)
      have h4 : pre.length ≤ 16 := by rw [hx, List.length_append] at hrl; omega
      refine ⟨(hR.lv (old j2)).2, ?_⟩
      simp_arith []
      refine ⟨k, x, m, 0, 0, 0, rs, by rw [hE], w, q, ⟨hd', by omega⟩, hl, ⟨hr, nd⟩, fun i r hi => ⟨_, j1 i r hi, ?_⟩, fun G' hG' => ?_⟩
      · have h3 := col_len2 (k := k) (i := i) hpre
        have h2 := en_len _ i x m 0 0 0 q
        have h5 : (col k i pre).length = ((pre.map fun r => en k i r 0 0 0).flatten).length := by unfold col; simp only [List.flatMap]
        omega
      · exact ih _ _ ⟨pre ++ [x], _, by rw [hx]; simp, rfl, fun i r hi => by rw [hG'.1 i r _ hi (j1 i r hi), col_snoc], fun y hy => (hG'.2 y hy).trans (j2 y hy)⟩
  · rintro x xs acc ih H ⟨rs, rfl, hr, nd, k1, k2⟩
    simp_arith []
    intro p hp
    have hpr : p ∉ rs := fun z => by rw [(k1 p z).2] at hp; cases hp
    have gp : G p = none := by rw [← k2 p hpr]; exact hp
    refine ih _ _ ⟨rs ++ [p], by simp, by simp at hr ⊢; omega, ?_, fun r hm => ?_, fun y hy => ?_⟩
    · rw [List.nodup_append]
      refine ⟨nd, by simp, fun a ha b hb => ?_⟩
      rw [List.mem_singleton] at hb
      subst hb
      rintro rfl
      exact hpr ha
    · rcases List.mem_append.mp hm with hm | hm
      · exact ⟨(k1 r hm).1, by rw [updD_ne (fun z => hpr (by rw [← z]; exact hm))]; exact (k1 r hm).2⟩
      · rw [List.mem_singleton] at hm
        subst hm
        exact ⟨gp, updD_same⟩
    · rw [List.mem_append, not_or, List.mem_singleton] at hy
      rw [updD_ne hy.2]
      exact k2 y hy.1
end DL

namespace DL.K16
open PySem PySem.Spec PyProof.Rows L2 DL
abbrev prog : Program := PySem.Challenge.pw_stripewalk_k16_whole_parts_of_columns
def top (i : Nat) : Stmt := prog.main.body.getD i (.Pass ⟨0, 0, 0, 0⟩)
def mtop (i j : Nat) : Stmt := match top i with | .ClassDef _ _ _ body _ _ _ _ _ _ _ => body.getD j (.Pass ⟨0, 0, 0, 0⟩) | s => s
def d_is_integer : Df := ⟨"is_integer", ["value"], ["value"], top 7, b_is_integer⟩
def d_leaves : Df := ⟨"leaves", ["schema"], ["schema", "found", "waiting", "path", "steps", "kind", "name", "part"], top 8, b_leaves 0⟩
def d_is_text : Df := ⟨"is_text", ["value"], ["value", "sign"], top 9, b_is_text 2 1⟩
def d_is_leaf_value : Df := ⟨"is_leaf_value", ["word", "value"], ["word", "value"], top 10, b_is_leaf_value 0 2⟩
def d_first_leaves : Df := ⟨"first_leaves", ["kind", "first"], ["kind", "first", "found", "_", "part"], top 11, b_first_leaves 1⟩
def d_is_chosen : Df := ⟨"is_chosen", ["choice", "first", "behind"], ["choice", "first", "behind", "number"], top 12, b_is_chosen⟩
def d_chosen_from : Df := ⟨"chosen_from", ["kind", "choice", "first"], ["kind", "choice", "first", "starts", "fields", "at", "name", "part"], top 13, b_chosen_from 6 4 5 0⟩
def d_chosen : Df := ⟨"chosen", ["schema", "choice"], ["schema", "choice"], top 14, b_chosen 6⟩
def d_cut_value : Df := ⟨"cut_value", ["kind", "value", "turn", "level", "lists", "columns"], ["kind", "value", "turn", "level", "lists", "columns", "at", "number", "_", "part", "many", "column", "one"], top 16, b_cut_value 1 8 0⟩
def d_cut : Df := ⟨"cut", ["schema", "rows", "choice"], ["schema", "rows", "choice", "found", "row", "_", "number"], top 17, b_cutF 1 8⟩
def d_floors : Df := ⟨"floors", ["steps"], ["steps", "found", "at", "word"], top 18, b_floors⟩
def d_is_entry : Df := ⟨"is_entry", ["leaf", "entry"], ["leaf", "entry", "top"], top 19, b_is_entry 0 10 3⟩
def d_is_column : Df := ⟨"is_column", ["leaf", "column"], ["leaf", "column", "lows", "at", "turn", "level", "_", "entry"], top 20, b_is_column 11 10⟩
def d_common_steps : Df := ⟨"common_steps", ["schema", "one", "two"], ["schema", "one", "two", "steps", "lists", "kind", "path", "at"], top 21, b_common_steps 0⟩
def d_shape : Df := ⟨"shape", ["column", "steps", "lists"], ["column", "steps", "lists", "turn", "level", "_"], top 22, b_shape⟩
def d_are_columns : Df := ⟨"are_columns", ["schema", "choice", "columns"], ["schema", "choice", "columns", "rows", "known", "one", "two", "steps", "lists", "number", "leaf", "column"], top 23, b_are_columns 1 12 13 14⟩
def d_parted : Df := ⟨"parted", ["column", "turn"], ["column", "turn", "found", "entry"], top 24, b_parted⟩
def d_join_value : Df := ⟨"join_value", ["kind", "columns", "level", "lists"], ["kind", "columns", "level", "lists", "found", "at", "_", "part", "many", "parts", "rows", "column", "row"], top 25, b_join_value 1 17 16 0⟩
def d_join : Df := ⟨"join", ["schema", "choice", "columns"], ["schema", "choice", "columns", "parts", "kind", "column", "part", "at"], top 26, b_join 15 16 7 17⟩
def d_law_pick : Df := ⟨"_law_pick", ["stream", "rows"], ["stream", "rows"], top 30, b_pick 20⟩
def d_law_same : Df := ⟨"_law_same", ["told", "due"], ["told", "due", "k"], top 31, b_same 22⟩
def d_law_name : Df := ⟨"_law_name", ["stream", "used"], ["stream", "used", "letters", "many", "name", "at", "k"], top 32, b_name 20⟩
def d_law_kind : Df := ⟨"_law_kind", ["stream", "depth", "most"], ["stream", "depth", "most", "pick", "inner"], top 34, b_kind 20 21 24 25⟩
def d_law_record : Df := ⟨"_law_record", ["stream", "depth", "most"], ["stream", "depth", "most", "many", "used", "fields", "k", "name"], top 33, b_record 20 23 24⟩
def d_law_schema : Df := ⟨"_law_schema", ["stream"], ["stream"], top 35, b_schema 20 25⟩
def d_law_text : Df := ⟨"_law_text", ["stream"], ["stream", "signs", "many", "text", "k"], top 36, b_text 20⟩
def d_law_int : Df := ⟨"_law_int", ["stream"], ["stream", "pick"], top 37, b_int 20 21⟩
def d_law_value : Df := ⟨"_law_value", ["stream", "kind", "room"], ["stream", "kind", "room", "many", "field", "k"], top 38, b_value 20 27 28 29⟩
def d_law_leaves : Df := ⟨"_law_leaves", ["kind"], ["kind", "found", "field", "leaf"], top 39, b_lv 30⟩
def d_law_choice : Df := ⟨"_law_choice", ["stream", "many"], ["stream", "many", "pick", "found", "k"], top 40, b_choice 20⟩
def d_law_paths : Df := ⟨"_law_paths", ["schema", "choice"], ["schema", "choice", "known", "k"], top 41, b_law_paths 30⟩
def d_law_under : Df := ⟨"_law_under", ["paths", "name"], ["paths", "name", "path"], top 42, b_law_under⟩
def d_law_without : Df := ⟨"_law_without", ["kind", "paths", "value"], ["kind", "paths", "value", "found", "k", "under", "one"], top 43, b_law_without 34 33⟩
def d_law_entries : Df := ⟨"_law_entries", ["kind", "path", "value", "turn", "level", "lists"], ["kind", "path", "value", "turn", "level", "lists", "at", "found", "one", "field"], top 44, b_law_entries 35⟩
def d_law_column : Df := ⟨"_law_column", ["schema", "path", "rows"], ["schema", "path", "rows", "found", "row"], top 45, b_law_column 35⟩
def d_law_table : Df := ⟨"_law_table", ["stream", "schema"], ["stream", "schema", "room", "many", "k"], top 46, b_law_table 20 29⟩
def d_law_columns : Df := ⟨"_law_columns", ["schema", "choice", "rows"], ["schema", "choice", "rows", "path"], top 47, b_law_columns 36 32⟩
def b_law (l_stream l_schema l_leaves l_table ccut l_choice l_without l_paths care_columns l_same cjoin l_columns : Nat) : Ss :=
 (.c (.set 1 (.call l_stream (.c (.var 0) .n)))
 (.c (.set 2 (.call l_schema (.c (.var 1) .n)))
 (.c (.set 3 (.call l_leaves (.c (.var 2) .n)))
 (.c (.set 4 (.call l_table (.c (.var 1) (.c (.var 2) .n))))
 (.c (.set 5 (.call ccut (.c (.var 2) (.c (.var 4) (.c (.rg1 true true (.bf true .len (.c (.var 3) .n))) .n)))))
 (.c (.for_ (.n 6) (.rng (.c (.bf true .len (.c (.var 3) .n)) .n)) (.c (.ite (.cmp .ne (.bf true .len (.c (.lc true (.var 11) (.n 11) (.of (.idx (.var 5) (.var 6))) (.cmp .eq (.idx (.var 11) (.con (.int 0))) (.con (.int 0))) [("entry", 11)]) .n)) (.bf true .len (.c (.var 4) .n))) (.c (.ret (.con (.bl false)))
 .n) .n)
 (.c (.ite (.of (.bf true .any (.c (.lc true (.cmp .ne (.cmp .isn (.idx (.var 11) (.con (.int 2))) (.con .non)) (.cmp .lt (.idx (.var 11) (.con (.int 1))) (.bf true .len (.c (.idx (.idx (.var 3) (.var 6)) (.con (.int 1))) .n)))) (.n 11) (.of (.idx (.var 5) (.var 6))) .yes [("entry", 11)]) .n))) (.c (.ret (.con (.bl false)))
 .n) .n)
 .n)))
 (.c (.set 7 (.bin true .add (.lc true (.tup (.c (.var 6) .n)) (.n 6) (.rng (.c (.bf true .min (.c (.con (.int 6)) (.c (.bf true .len (.c (.var 3) .n)) .n))) .n)) .yes [("k", 6)]) (.lc true (.call l_choice (.c (.var 1) (.c (.bf true .len (.c (.var 3) .n)) .n))) (.n 6) (.rng (.c (.con (.int 3)) .n)) .yes [("k", 6)])))
 (.c (.for_ (.n 8) (.of (.var 7)) (.c (.set 9 (.bf true .tuple (.c (.lc true (.idx (.var 5) (.var 6)) (.n 6) (.of (.var 8)) .yes [("k", 6)]) .n)))
 (.c (.set 10 (.lc true (.call l_without (.c (.var 2) (.c (.call l_paths (.c (.var 2) (.c (.var 8) .n))) (.c (.var 12) .n)))) (.n 12) (.of (.var 4)) .yes [("row", 12)]))
 (.c (.ite (.bo false (.c (.cmp .nisn (.call care_columns (.c (.var 2) (.c (.var 8) (.c (.var 9) .n)))) (.con (.bl true))) (.c (.nt (.of (.call l_same (.c (.call cjoin (.c (.var 2) (.c (.var 8) (.c (.var 9) .n)))) (.c (.var 10) .n))))) .n))) (.c (.ret (.con (.bl false)))
 .n) .n)
 .n))))
 (.c (.ret (.call l_same (.c (.var 5) (.c (.call l_columns (.c (.var 2) (.c (.rg1 true true (.bf true .len (.c (.var 3) .n))) (.c (.var 4) .n)))) .n))))
 .n)))))))))
def d_law : Df := ⟨"law", ["script"], ["script", "stream", "schema", "known", "rows", "columns", "k", "choices", "choice", "part", "due", "entry", "row"], top 48, b_law 19 26 30 37 9 31 34 32 15 22 18 38⟩
def dfs : List Df := [d_is_integer, d_leaves, d_is_text, d_is_leaf_value, d_first_leaves, d_is_chosen, d_chosen_from, d_chosen, d_cut_value, d_cut, d_floors, d_is_entry, d_is_column, d_common_steps, d_shape, d_are_columns, d_parted, d_join_value, d_join, d_stream (top 28), d_draw (top 29), d_law_pick, d_law_same, d_law_name, d_law_kind, d_law_record, d_law_schema, d_law_text, d_law_int, d_law_value, d_law_leaves, d_law_choice, d_law_paths, d_law_under, d_law_without, d_law_entries, d_law_column, d_law_table, d_law_columns, d_law]
def gl : List (Str × D) := [("LEAVES", (.tup [(.str sInt), (.str sText), (.str sBool)])), ("SIGNS", (.str [48, 49, 50, 51, 52, 53, 54, 55, 56, 57, 58, 59, 60, 61, 62, 63, 64, 65, 66, 67, 68, 69, 70, 71, 72, 73, 74, 75, 76, 77, 78, 79, 80, 81, 82, 83, 84, 85, 86, 87, 88, 89, 90, 91, 92, 93, 94, 95, 96, 97, 98, 99, 100, 101, 102, 103, 104, 105, 106, 107, 108, 109, 110, 111, 112, 113, 114, 115, 116, 117, 118, 119, 120, 121, 122])), ("MOST_SIGNS", (.int 200))]
def sb (i j : Nat) : Bool := (([[true, false], [true, true]] : List (List Bool)).getD i []).getD j false
def cls : List Str := ["StripewalkError", "BadColumns"]
def ocs : List Oc := []
def cfg : Cfg := ⟨dfs.map fun d => (d.x, d.ps.length), gl.map (·.1), cls, false, ocs⟩
theorem m_is_integer : defC cfg d_is_integer = true := by decide +kernel
theorem m_leaves : defC cfg d_leaves = true := by decide +kernel
theorem m_is_text : defC cfg d_is_text = true := by decide +kernel
theorem m_is_leaf_value : defC cfg d_is_leaf_value = true := by decide +kernel
theorem m_first_leaves : defC cfg d_first_leaves = true := by decide +kernel
theorem m_is_chosen : defC cfg d_is_chosen = true := by decide +kernel
theorem m_chosen_from : defC cfg d_chosen_from = true := by decide +kernel
theorem m_chosen : defC cfg d_chosen = true := by decide +kernel
theorem m_cut_value : defC cfg d_cut_value = true := by decide +kernel
theorem m_cut : defC cfg d_cut = true := by decide +kernel
theorem m_floors : defC cfg d_floors = true := by decide +kernel
theorem m_is_entry : defC cfg d_is_entry = true := by decide +kernel
theorem m_is_column : defC cfg d_is_column = true := by decide +kernel
theorem m_common_steps : defC cfg d_common_steps = true := by decide +kernel
theorem m_shape : defC cfg d_shape = true := by decide +kernel
theorem m_are_columns : defC cfg d_are_columns = true := by decide +kernel
theorem m_parted : defC cfg d_parted = true := by decide +kernel
theorem m_join_value : defC cfg d_join_value = true := by decide +kernel
theorem m_join : defC cfg d_join = true := by decide +kernel
theorem m_stream : defC cfg (d_stream (top 28)) = true := by decide +kernel
theorem m_draw : defC cfg (d_draw (top 29)) = true := by decide +kernel
theorem m_pick : defC cfg d_law_pick = true := by decide +kernel
theorem m_same : defC cfg d_law_same = true := by decide +kernel
theorem m_name : defC cfg d_law_name = true := by decide +kernel
theorem m_kind : defC cfg d_law_kind = true := by decide +kernel
theorem m_record : defC cfg d_law_record = true := by decide +kernel
theorem m_schema : defC cfg d_law_schema = true := by decide +kernel
theorem m_text : defC cfg d_law_text = true := by decide +kernel
theorem m_int : defC cfg d_law_int = true := by decide +kernel
theorem m_value : defC cfg d_law_value = true := by decide +kernel
theorem m_lleaves : defC cfg d_law_leaves = true := by decide +kernel
theorem m_choice : defC cfg d_law_choice = true := by decide +kernel
theorem m_paths : defC cfg d_law_paths = true := by decide +kernel
theorem m_under : defC cfg d_law_under = true := by decide +kernel
theorem m_without : defC cfg d_law_without = true := by decide +kernel
theorem m_entries : defC cfg d_law_entries = true := by decide +kernel
theorem m_column : defC cfg d_law_column = true := by decide +kernel
theorem m_table : defC cfg d_law_table = true := by decide +kernel
theorem m_columns : defC cfg d_law_columns = true := by decide +kernel
theorem m_law : defC cfg d_law = true := by decide +kernel
theorem binds : ∀ d ∈ dfs, BindsH d := by
  unfold dfs
  simp only [List.forall_mem_cons, List.not_mem_nil, false_imp_iff, implies_true, and_true]
  exact ⟨fun _ _ _ _ _ _ us hl => match us, hl with | [_], _ => rfl,
    fun _ _ _ _ _ _ us hl => match us, hl with | [_], _ => rfl,
    fun _ _ _ _ _ _ us hl => match us, hl with | [_], _ => rfl,
    fun _ _ _ _ _ _ us hl => match us, hl with | [_, _], _ => rfl,
    fun _ _ _ _ _ _ us hl => match us, hl with | [_, _], _ => rfl,
    fun _ _ _ _ _ _ us hl => match us, hl with | [_, _, _], _ => rfl,
    fun _ _ _ _ _ _ us hl => match us, hl with | [_, _, _], _ => rfl,
    fun _ _ _ _ _ _ us hl => match us, hl with | [_, _], _ => rfl,
    fun _ _ _ _ _ _ us hl => match us, hl with | [_, _, _, _, _, _], _ => rfl,
    fun _ _ _ _ _ _ us hl => match us, hl with | [_, _, _], _ => rfl,
    fun _ _ _ _ _ _ us hl => match us, hl with | [_], _ => rfl,
    fun _ _ _ _ _ _ us hl => match us, hl with | [_, _], _ => rfl,
    fun _ _ _ _ _ _ us hl => match us, hl with | [_, _], _ => rfl,
    fun _ _ _ _ _ _ us hl => match us, hl with | [_, _, _], _ => rfl,
    fun _ _ _ _ _ _ us hl => match us, hl with | [_, _, _], _ => rfl,
    fun _ _ _ _ _ _ us hl => match us, hl with | [_, _, _], _ => rfl,
    fun _ _ _ _ _ _ us hl => match us, hl with | [_, _], _ => rfl,
    fun _ _ _ _ _ _ us hl => match us, hl with | [_, _, _, _], _ => rfl,
    fun _ _ _ _ _ _ us hl => match us, hl with | [_, _, _], _ => rfl,
    fun _ _ _ _ _ _ us hl => match us, hl with | [_], _ => rfl,
    fun _ _ _ _ _ _ us hl => match us, hl with | [_, _], _ => rfl,
    fun _ _ _ _ _ _ us hl => match us, hl with | [_, _], _ => rfl,
    fun _ _ _ _ _ _ us hl => match us, hl with | [_, _], _ => rfl,
    fun _ _ _ _ _ _ us hl => match us, hl with | [_, _], _ => rfl,
    fun _ _ _ _ _ _ us hl => match us, hl with | [_, _, _], _ => rfl,
    fun _ _ _ _ _ _ us hl => match us, hl with | [_, _, _], _ => rfl,
    fun _ _ _ _ _ _ us hl => match us, hl with | [_], _ => rfl,
    fun _ _ _ _ _ _ us hl => match us, hl with | [_], _ => rfl,
    fun _ _ _ _ _ _ us hl => match us, hl with | [_], _ => rfl,
    fun _ _ _ _ _ _ us hl => match us, hl with | [_, _, _], _ => rfl,
    fun _ _ _ _ _ _ us hl => match us, hl with | [_], _ => rfl,
    fun _ _ _ _ _ _ us hl => match us, hl with | [_, _], _ => rfl,
    fun _ _ _ _ _ _ us hl => match us, hl with | [_, _], _ => rfl,
    fun _ _ _ _ _ _ us hl => match us, hl with | [_, _], _ => rfl,
    fun _ _ _ _ _ _ us hl => match us, hl with | [_, _, _], _ => rfl,
    fun _ _ _ _ _ _ us hl => match us, hl with | [_, _, _, _, _, _], _ => rfl,
    fun _ _ _ _ _ _ us hl => match us, hl with | [_, _, _], _ => rfl,
    fun _ _ _ _ _ _ us hl => match us, hl with | [_, _], _ => rfl,
    fun _ _ _ _ _ _ us hl => match us, hl with | [_, _, _], _ => rfl,
    fun _ _ _ _ _ _ us hl => match us, hl with | [_], _ => rfl⟩
-- 0:is_integer 1:leaves 2:is_text 3:is_leaf_value 4:first_leaves 5:is_chosen 6:chosen_from 7:chosen 8:cut_value 9:cut 10:floors 11:is_entry 12:is_column 13:common_steps 14:shape 15:are_columns 16:parted 17:join_value 18:join 19:_law_stream 20:_law_draw 21:_law_pick 22:_law_same 23:_law_name 24:_law_kind 25:_law_record 26:_law_schema 27:_law_text 28:_law_int 29:_law_value 30:_law_leaves 31:_law_choice 32:_law_paths 33:_law_under 34:_law_without 35:_law_entries 36:_law_column 37:_law_table 38:_law_columns 39:law

/-! ### the law -/
theorem sorted_len : ∀ {c : List Nat} {lo n : Nat}, c.Pairwise (· < ·) → (∀ x ∈ c, lo ≤ x ∧ x < n) → lo + c.length ≤ max lo n
  | [], lo, n, _, _ => by simp; omega
  | x :: c, lo, n, p, h => by
    obtain ⟨p1, p2⟩ := List.pairwise_cons.mp p
    have hx := h x List.mem_cons_self
    have := sorted_len (c := c) (lo := x + 1) (n := n) p2 fun y hy => ⟨p1 y hy, (h y (List.mem_cons_of_mem _ hy)).2⟩
    rw [List.length_cons]; omega
theorem colsD_pl {k : Kd} {rows : List D} {c : List Nat} (hcl : c.length ≤ 1000) (hl : rows.length ≤ 1000) (hr : ∀ r ∈ rows, ∃ m, m ≤ 1000 ∧ OkV k r m) : Pl 12 (.tup (colsD k rows c)) := by
  have hlim : lim = 16777216 := rfl
  refine Pl.mono (n := 5) (by decide) ⟨by unfold colsD; rw [List.length_map]; omega, fun x hx => ?_⟩
  obtain ⟨y, hy, rfl⟩ := List.mem_map.mp hx
  have h1 := col_len2 (k := k) (i := y) hr
  have h2 : (col k y rows).length = ((rows.map fun r => en k y r 0 0 0).flatten).length := by unfold col; simp only [List.flatMap]
  refine ⟨by omega, fun e he => ?_⟩
  obtain ⟨r, hr', he⟩ := List.mem_flatMap.mp he
  obtain ⟨m, _, q⟩ := hr r hr'
  exact en_pl k y r m 0 0 0 q e he
theorem kept_pl {k : Kd} {rows : List D} {c : List Nat} (w : Wf k) (hd' : dp k ≤ 10) (hc : ChOk (lv k).length c) (hl : rows.length ≤ 1000) (hr : ∀ r ∈ rows, ∃ m, m ≤ 1000 ∧ OkV k r m) : Pl 12 (.lst (rows.map (wo (inC c) k 0))) := by
  have hlim : lim = 16777216 := rfl
  refine ⟨by rw [List.length_map]; omega, fun x hx => ?_⟩
  obtain ⟨r, hr', rfl⟩ := List.mem_map.mp hx
  obtain ⟨m, hm, q⟩ := hr r hr'
  obtain ⟨a1, _⟩ := lv_chs_len (k := k) hc.2.1 hc.2.2 hc.1
  have := dp_chs (P := inC c) k 0
  have h11 : dp (chs (inC c) k 0) ≤ 11 := by omega
  exact Pl.mono h11 (okv_pl _ _ m (okv_wo k 0 r m q) hm (wf_chs k 0 w a1))
theorem rds_live {n : Nat} {G : HD} {a : Addr} {ds : List D} (h : Pl n (.lst ds)) (g : G a = some (.lst ds)) : Rds n G (.ref a) (.lst ds) := by
  cases n with
  | zero => exact absurd h (by unfold Pl; exact id)
  | succ n =>
    have r := rds_refl (G := G) h
    obtain ⟨ts, h1, h2, h3, h4⟩ := r
    refine ⟨ds, .inr ⟨a, rfl, g⟩, rfl, h3, fun i x y hx hy => ?_⟩
    rw [hx] at hy; cases hy
    exact rds_refl (h.2 x (List.mem_of_getElem? hx))
theorem lcD_self {step : D → HD → (Option D → HD → Prop) → Prop} {Q : List D → HD → Prop} {G : HD} (f : D → D) (L acc : List D) (hs : ∀ x ∈ L, ∀ F : Option D → HD → Prop, F (some (f x)) G → step x G F) (h : Q (acc ++ L.map f) G) : lcD step Q L acc G := by
  have := lcD_map (fun x : D => x) f L acc hs h
  rwa [List.map_id'] at this
theorem lcD_fm {step : D → HD → (Option D → HD → Prop) → Prop} {Q : List D → HD → Prop} {G : HD} (f : D → Option D) : ∀ (L acc : List D), (∀ x ∈ L, ∀ F : Option D → HD → Prop, F (f x) G → step x G F) → Q (acc ++ L.filterMap f) G → lcD step Q L acc G
  | [], acc, _, h => by simpa [lcD] using h
  | x :: L, acc, hs, h => by
    rw [lcD]
    refine hs x List.mem_cons_self _ ?_
    cases e : f x with
    | none =>
      rw [List.filterMap_cons, e] at h
      exact lcD_fm f L acc (fun y hy => hs y (List.mem_cons_of_mem _ hy)) h
    | some d =>
      rw [List.filterMap_cons, e] at h
      exact lcD_fm f L (acc ++ [d]) (fun y hy => hs y (List.mem_cons_of_mem _ hy)) (by simpa using h)
/-- the entries of turn 0 -/
def zeroF (e : D) : Option D := match e with
  | .tup [.int t, _, _] => if t = 0 then some e else none
  | _ => none
theorem zero_hd {l : Int} {es : List D} (h : Hd 0 l 0 es) : (es.filterMap zeroF).length = 1 := by
  obtain ⟨l', x, r, rfl, h1, h2⟩ := h
  have e : r.filterMap zeroF = [] := List.filterMap_eq_nil_iff.mpr fun e he => by
    obtain ⟨t', l2, y, rfl, h3, _⟩ := h2 e he
    simp only [trip, zeroF]
    rw [if_neg (by omega)]
  rw [List.filterMap_cons]
  simp only [trip, zeroF, if_true, e, List.length_cons, List.length_nil]
theorem zero_col {k : Kd} {x : Nat} (w : Wf k) (hx : x < (lv k).length) : ∀ {rows : List D}, (∀ r ∈ rows, ∃ m, m ≤ 1000 ∧ OkV k r m) → ((col k x rows).filterMap zeroF).length = rows.length
  | [], _ => rfl
  | r :: rows, h => by
    obtain ⟨m, _, q⟩ := h r List.mem_cons_self
    have e : col k x (r :: rows) = en k x r 0 0 0 ++ col k x rows := by simp [col]
    rw [e, List.filterMap_append, List.length_append, zero_hd (en_hd k x r m 0 0 0 w q hx), zero_col w hx fun z hz => h z (List.mem_cons_of_mem _ hz), List.length_cons]
    omega
theorem leafv_ne {w : List Nat} {x : D} (h : LeafV w x) : x ≠ .non := by
  rintro rfl
  simp [LeafV] at h
theorem law_ok {Γ : Gam} (g9 : Γ.sp 9 = spCutF) (g15 : Γ.sp 15 = spAreC) (g18 : Γ.sp 18 = spJoin) (g19 : Γ.sp 19 = spStream) (g22 : Γ.sp 22 = spSameR 12) (g26 : Γ.sp 26 = spSchema) (g30 : Γ.sp 30 = spLv 10) (g31 : Γ.sp 31 = spChoice) (g32 : Γ.sp 32 = spPaths) (g34 : Γ.sp 34 = spLwo 10) (g37 : Γ.sp 37 = spTable) (g38 : Γ.sp 38 = spColumns) (ds : List D) (G : HD) (QD : KD) (XD : KX) (h : spLaw ds G QD XD) :
    wSs Γ (b_law 19 26 30 37 9 31 34 32 15 22 18 38) { nx := fun _ H => QD .non H, rt := QD, ex := fun x _ H => XD x H } (startD 13 ds) G := by
  obtain ⟨ns, rfl, rfl, hQ⟩ := h
  have hlim : lim = 16777216 := rfl
  simp_arith [b_law, g9, g15, g18, g19, g22, g26, g30, g31, g32, g34, g37, g38]
  refine ⟨ns, rfl, rfl, fun fs w d9 l9 => ?_⟩
  have hpos := lv_pos _ w
  refine ⟨.recd fs, rfl, w, by omega, by omega, by omega, ?_⟩
  refine ⟨fs, rfl, w, by omega, fun p rows r hp hlen hrows => ?_⟩
  have hr : RowsOk fs rows := ⟨by omega, fun x hx => let ⟨m, h1, h2⟩ := hrows x hx; ⟨m, by omega, h2⟩⟩
  generalize updD emp p (HC.lst [.int r]) = G1
  have rn := rng_nat (lv (.recd fs)).length
  have nl : ((lv (.recd fs)).map Lf.d).length = (lv (.recd fs)).length := List.length_map ..
  have kat : ∀ i : Nat, i < (lv (.recd fs)).length → ((lv (.recd fs)).map Lf.d)[i]? = some (lf (.recd fs) i).d := fun i hi => by
    rw [List.getElem?_map, lf_at hi]; rfl
  have cat : ∀ i : Nat, i < (lv (.recd fs)).length → (colsD (.recd fs) rows (List.range (lv (.recd fs)).length))[i]? = some (.lst (col (.recd fs) i rows)) := fun i hi => by
    unfold colsD
    rw [List.getElem?_map, List.getElem?_range hi]; rfl
  generalize hN : (lv (.recd fs)).length = N at hpos l9 rn nl kat cat ⊢
  generalize (lv (.recd fs)).map Lf.d = KN at nl kat ⊢
  generalize hK0 : enc (.recd fs) = K0
  simp_arith [nl]
  refine ⟨⟨by omega, by omega⟩, by omega, ?_⟩
  rw [show ((N : Int) - 0).toNat = N by omega, rn]
  refine ⟨.recd fs, .lst rows, rows, List.range N, by rw [hK0], .inl rfl, w, by omega, by omega, fun x hx => by rw [hN]; exact List.mem_range.mp hx, List.nodup_range, by omega, hr.2, fun G2 _ => ?_⟩
  generalize hCO : colsD (.recd fs) rows (List.range N) = CO at cat ⊢
  rw [q_rng1 ⟨by omega, by omega⟩, ok_some]
  refine And.intro (by dsimp only; omega) ?_
  refine wFor_ind (fun xs σ H => H = G2 ∧ (∀ x ∈ xs, ∃ i : Nat, x = .int i ∧ i < N) ∧ ∃ o6, σ = [some (.scr (ns.map .int)), some .rnd, some K0, some (.lst KN), some (.lst rows), some (.tup CO), o6, none, none, none, none, none, none]) ?_ ?_ _ _ _
    ⟨rfl, fun x hx => by obtain ⟨i, h, q⟩ := rng_in hx; exact ⟨i, h, by omega⟩, none, rfl⟩
  · rintro σ H ⟨rfl, _, o6, rfl⟩
    simp_arith [nl]
    have hmin : (if (N : Int) < 6 then (N : Int) else 6) = ((min N 6 : Nat) : Int) := by split <;> omega
    rw [hmin, q_rng1 ⟨by omega, by omega⟩, ok_some]
    refine And.intro (by dsimp only; omega) ?_
    rw [rngN]
    refine lcD_map (G := H) _ (fun k => .tup (natD [k])) (List.range (min N 6)) [] (fun k hk F hF => ?_) ?_
    · exact hF
    rw [List.nil_append]
    rw [q_rng1 ⟨by omega, by omega⟩, ok_some]
    refine And.intro (by decide) ?_
    refine lcD_ind (fun xs acc H' => H' = H ∧ ∃ cs : List (List Nat), acc = cs.map (fun c => .tup (natD c)) ∧ cs.length + xs.length = 3 ∧ ∀ c ∈ cs, ChOk N c) ?_ ?_ _ _ _ ⟨rfl, [], rfl, rfl, fun _ h => nomatch h⟩
    · rintro acc H' ⟨rfl, cs, rfl, hcs, hch⟩
      obtain ⟨cs2, e2, hl2, hch2⟩ : ∃ cs2 : List (List Nat), (List.range (min N 6)).map (fun k => D.tup (natD [k])) ++ cs.map (fun c => D.tup (natD c)) = cs2.map (fun c => D.tup (natD c)) ∧ cs2.length ≤ 9 ∧ ∀ c ∈ cs2, ChOk N c := by
        refine ⟨(List.range (min N 6)).map (fun k => [k]) ++ cs, by rw [List.map_append, List.map_map]; rfl, by simp at hcs ⊢; omega, fun c hc => ?_⟩
        rcases List.mem_append.mp hc with hc | hc
        · obtain ⟨k, hk, rfl⟩ := List.mem_map.mp hc
          have := List.mem_range.mp hk
          exact ⟨by simp, List.pairwise_singleton _ _, fun x hx => by rw [List.mem_singleton] at hx; omega⟩
        · exact hch c hc
      refine And.intro (by simp at hcs ⊢; omega) ?_
      rw [e2]
      generalize hCH : (cs2.map fun c => D.tup (natD c)) = CH
      refine wFor_ind (fun xs σ Hx => (∀ x ∈ xs, ∃ c, x = .tup (natD c) ∧ ChOk N c) ∧ ∃ o6 o8 o9 o10, σ = [some (.scr (ns.map .int)), some .rnd, some K0, some (.lst KN), some (.lst rows), some (.tup CO), o6, some (.lst CH), o8, o9, o10, none, none]) ?_ ?_ _ _ _
        ⟨fun x hx => by rw [← hCH] at hx; obtain ⟨c, hc, rfl⟩ := List.mem_map.mp hx; exact ⟨c, rfl, hch2 c hc⟩, _, none, none, none, rfl⟩
      · rintro σ Hx ⟨_, o6, o8, o9, o10, rfl⟩
        simp_arith [nl]
        refine ⟨⟨by omega, by omega⟩, by omega, ?_⟩
        rw [show ((N : Int) - 0).toNat = N by omega, rn]
        refine ⟨fs, List.range N, rows, by rw [hK0], w, by omega, by omega, fun x hx => by rw [hN]; exact List.mem_range.mp hx, hr, ?_⟩
        have hpl := colsD_pl (k := .recd fs) (rows := rows) (c := List.range N) (by rw [List.length_range]; omega) (by omega) hr.2
        have e9 : ((List.range N).map fun x => D.lst (col (.recd fs) x rows)) = CO := hCO
        rw [e9]
        rw [hCO] at hpl
        refine ⟨_, _, rfl, rds_refl hpl, ?_⟩
        exact hQ _
      · rintro x xs ih σ Hx ⟨hx, o6, o8, o9, o10, rfl⟩
        obtain ⟨c, rfl, hc⟩ := hx x List.mem_cons_self
        have hcl : c.length ≤ 1000 := by have := sorted_len (lo := 0) hc.2.1 fun x hx => ⟨Nat.zero_le _, hc.2.2 x hx⟩; omega
        have hcN : ChOk (lv (.recd fs)).length c := by rw [hN]; exact hc
        simp_arith []
        refine lcD_map (G := Hx) _ (fun x => D.lst (col (.recd fs) x rows)) c [] (fun y hy F hF => ?_) ?_
        · simp_arith [at_nat, cat y (hc.2.2 y hy)]
          exact hF
        rw [List.nil_append]
        have hCD : colsD (.recd fs) rows c = c.map fun x => D.lst (col (.recd fs) x rows) := rfl
        rw [← hCD]
        refine lcD_self (G := Hx) (wo (inC c) (.recd fs) 0) rows [] (fun y hy F hF => ?_) ?_
        · obtain ⟨m, h1, h2⟩ := hr.2 y hy
          refine ⟨.recd fs, c, by rw [hK0], w, by omega, by omega, hcN.2.2, fun ls hls hlp => ?_⟩
          exact ⟨inC c, .recd fs, 0, ls.map Lf.p, y, m, by rw [List.map_map, hK0]; rfl, w, h2, by omega, paths_of hls hlp, hF⟩
        rw [List.nil_append]
        have kpl := kept_pl (k := .recd fs) w (by omega) hcN (show rows.length ≤ 1000 by omega) hr.2
        generalize hKE : rows.map (wo (inC c) (.recd fs) 0) = KE at kpl ⊢
        refine ⟨.recd fs, c, rows, by rw [hK0], w, by omega, by omega, hcN.2.2, hcl, hr.2, ?_⟩
        simp_arith []
        refine ⟨.recd fs, c, rows, by rw [hK0], w, by omega, by omega, ⟨hcN.2.1, hcN.2.2, hcN.1, hcl⟩, by omega, hr.2, fun a ha => ?_⟩
        rw [hKE]
        refine ⟨_, _, rfl, rds_live kpl updD_same, ?_⟩
        simp_arith []
        exact ih _ _ ⟨fun z hz => hx z (List.mem_cons_of_mem _ hz), _, _, _, _, rfl⟩
    · rintro x xs acc ih H' ⟨rfl, cs, rfl, hcs, hch⟩
      simp_arith [nl]
      refine ⟨N, rfl, ⟨hpos, by omega⟩, fun c hc => ?_⟩
      exact ih _ _ ⟨rfl, cs ++ [c], by simp, by simp at hcs ⊢; omega, fun d hd => by
        rcases List.mem_append.mp hd with hd | hd
        · exact hch d hd
        · rw [List.mem_singleton] at hd; subst hd; exact hc⟩
  · rintro x xs ih σ H ⟨rfl, hx, o6, rfl⟩
    obtain ⟨i, rfl, hi⟩ := hx x List.mem_cons_self
    have k1 := kat i hi
    have c1 := cat i hi
    have hi2 : i < (lv (.recd fs)).length := by omega
    have cR := col_colR w hi2 hr.2
    have zc := zero_col w hi2 hr.2
    generalize hES : col (.recd fs) i rows = ES at c1 cR zc
    simp_arith [at_nat, c1]
    refine lcD_fm (G := H) zeroF ES [] (fun x hx F hF => ?_) ?_
    · obtain ⟨t', l', y, rfl, _⟩ := cR.1 x hx
      simp_arith [trip]
      have zt : zeroF (trip t' l' y) = if t' = 0 then some (trip t' l' y) else none := rfl
      rw [zt] at hF
      by_cases q : t' = 0
      · rw [if_pos q] at hF
        rw [beq_iff_eq.mpr q]
        exact hF
      · rw [if_neg q] at hF
        rw [beq_eq_false_iff_ne.mpr q]
        exact hF
    · rw [List.nil_append]
      simp_arith [zc, beq_self_eq_true]
      refine lcD_self (G := H) (fun _ => .bl false) ES [] (fun x hx F hF => ?_) ?_
      · obtain ⟨t', l', y, rfl, _, _, hle, hno, hyes⟩ := cR.1 x hx
        by_cases q : l' < 0 + ((lf (.recd fs) i).s.length : Int)
        · rw [hno q]
          have q2 : decide (l' < ((lf (.recd fs) i).s.length : Int)) = true := decide_eq_true (by omega)
          simp_arith [trip, at_nat, k1, Lf.d, List.length_map, q2]
          exact hF
        · have := leafv_ne (hyes (by omega))
          have isv : ∀ H, cmpD .isn y .non H = some false := fun H => is_val this
          have q2 : decide (l' < ((lf (.recd fs) i).s.length : Int)) = false := decide_eq_false (by omega)
          simp_arith [trip, isv, at_nat, k1, Lf.d, List.length_map, q2]
          exact hF
      · rw [List.nil_append, show ES.map (fun _ => D.bl false) = (ES.map fun _ => false).map D.bl by rw [List.map_map]; rfl, bls_mp, ok_some]
        have e0 : (ES.map fun _ => false).any id = false := by simp
        rw [e0]
        simp_arith []
        exact ih _ _ ⟨rfl, fun z hz => hx z (List.mem_cons_of_mem _ hz), _, rfl⟩

/-! ### the chain, the head -/
abbrev R : PySem.W.OpenRow := PySem.W.OpenLaw.row PySem.Challenge.rw_stripewalk_k16_whole_parts_of_columns
abbrev fa : List He.Fa := faOf dfs cls ocs
abbrev fn : List He.DefD := dfs.map Df.he
abbrev hk : PySem.W.Hook := hookX 6 fa fn gl cls sb
def ob (s : PySem.W.SharedT) : AlX := obX 6 fa fn gl cls sb (HandSHeadRun.getT s)
theorem ob_eq (s : PySem.W.SharedT) : ob s = hk.obs s.abs := obX_eq (HandSHeadRun.getT_eq s)
theorem run (w : World) : HandSHeadRun.RunEq R (PySem.W.view R.prog [48]) hk ob 3000 ("LEAVES" :: "SIGNS" :: "MOST_SIGNS" :: "StripewalkError" :: "BadColumns" :: "is_integer" :: "leaves" :: "is_text" :: "is_leaf_value" :: "first_leaves" :: "is_chosen" :: "chosen_from" :: "chosen" :: "cut_value" :: "cut" :: "floors" :: "is_entry" :: "is_column" :: "common_steps" :: "shape" :: "are_columns" :: "parted" :: "join_value" :: "join" :: "_law_stream" :: "_law_draw" :: "_law_pick" :: "_law_same" :: "_law_name" :: "_law_record" :: "_law_kind" :: "_law_schema" :: "_law_text" :: "_law_int" :: "_law_value" :: "_law_leaves" :: "_law_choice" :: "_law_paths" :: "_law_under" :: "_law_without" :: "_law_entries" :: "_law_column" :: "_law_table" :: "_law_columns" :: []) w := by
  intro os
  kernel_rfl
theorem facts {P : Program} {w : World} {K : PySem.W.Frag} {h : Heap} {mg : Str → Option Value} {f : Addr} (X : K.In h) (G : h.Ns mainGlobals mg) (hfa : mg ("law" : Str) = some (.ref f)) (c : He.SaysD fa fn K) (g : (glsB gl K && xcB cls sb K) = true) :
    ∃ fd : FuncData, (∀ (s : Shared) (v : Value), BindsTo s fd ⟨[v], []⟩ [("script", v)]) ∧ ∀ base : Heap, K.In base → base.Ns mainGlobals mg → FnOk P w K mg base CX0 200 f fd ["script"] (fun vs H Q _ => lift K (fnmOf K dfs ocs) (clmOf K cls) 1 spLaw vs H Q fun _ _ _ => False) := by
  have ob_ : ocsB dfs ocs = true := by decide +kernel
  have W : Wd P w K mg (clmOf K cls) (glD gl) sb (gl.map (·.1)) cls := wd_of X G c g
  have at_ := fun (i : Nat) (d : Df) (e : dfs[i]? = some d) => df_at X G c ob_ binds (i := i) (d := d) e
  have a0 : AllOk P w K mg (fnmOf K dfs ocs) (clmOf K cls) cfg { sp := fun _ => bot, gl := glD gl, sb := sb } 0 := bot_of X G c binds ob_ rfl rfl
  have a1 := all_up (i := 0) (d := d_is_integer) (s := spIsInt) a0 W rfl (at_ 0 _ rfl) m_is_integer fun ds G Q X _ h => is_integer_ok ds G Q X h
  have a2 := all_up (i := 1) (d := d_leaves) (s := spLeaves) a1 W rfl (at_ 1 _ rfl) m_leaves fun ds G Q X _ h => leaves_ok rfl ds G Q X h
  have a3 := all_up (i := 2) (d := d_is_text) (s := spIsTx) a2 W rfl (at_ 2 _ rfl) m_is_text fun ds G Q X _ h => is_text_ok rfl rfl ds G Q X h
  have a4 := all_up (i := 3) (d := d_is_leaf_value) (s := spIsLv) a3 W rfl (at_ 3 _ rfl) m_is_leaf_value fun ds G Q X _ h => is_leaf_value_ok rfl rfl ds G Q X h
  have a5 := all_up (i := 4) (d := d_first_leaves) (s := spFL) a4 W rfl (at_ 4 _ rfl) m_first_leaves fun ds G Q X _ h => first_leaves_ok rfl ds G Q X h
  have a6 := all_up (i := 5) (d := d_is_chosen) (s := spIsCh) a5 W rfl (at_ 5 _ rfl) m_is_chosen fun ds G Q X _ h => is_chosen_ok ds G Q X h
  have a7 := all_rec (i := 6) (d := d_chosen_from) (s := spChf) a6 W rfl (at_ 6 _ rfl) m_chosen_from (fun ds G Q X ⟨k, _, _, _, _, z, _⟩ => absurd z.1 (by have := dpos k; omega)) (fun n ds G Q X _ h => chosen_from_ok up_same rfl rfl rfl ds G Q X h) 10
  have a8 := all_up (i := 7) (d := d_chosen) (s := spChosen) a7 W rfl (at_ 7 _ rfl) m_chosen fun ds G Q X _ h => chosen_ok rfl ds G Q X h
  have a9 := all_rec (i := 8) (d := d_cut_value) (s := spCut) a8 W rfl (at_ 8 _ rfl) m_cut_value (fun ds G Q X ⟨k, _, _, _, _, _, _, _, _, _, z, _⟩ => absurd z.1 (by have := dpos k; omega)) (fun n ds G Q X _ h => cut_value_ok up_same rfl rfl ds G Q X h) 10
  have a10 := all_up (i := 9) (d := d_cut) (s := spCutF) a9 W rfl (at_ 9 _ rfl) m_cut fun ds G Q X _ h => cutF_ok rfl rfl ds G Q X h
  have a11 := all_up (i := 10) (d := d_floors) (s := spFloors) a10 W rfl (at_ 10 _ rfl) m_floors fun ds G Q X _ h => floors_ok ds G Q X h
  have a12 := all_up (i := 11) (d := d_is_entry) (s := spIsEnt) a11 W rfl (at_ 11 _ rfl) m_is_entry fun ds G Q X _ h => is_entry_ok rfl rfl rfl ds G Q X h
  have a13 := all_up (i := 12) (d := d_is_column) (s := spIsCol) a12 W rfl (at_ 12 _ rfl) m_is_column fun ds G Q X _ h => is_column_ok rfl rfl ds G Q X h
  have a14 := all_up (i := 13) (d := d_common_steps) (s := spCs) a13 W rfl (at_ 13 _ rfl) m_common_steps fun ds G Q X _ h => common_steps_ok rfl ds G Q X h
  have a15 := all_up (i := 14) (d := d_shape) (s := spShp) a14 W rfl (at_ 14 _ rfl) m_shape fun ds G Q X _ h => shape_ok ds G Q X h
  have a16 := all_up (i := 15) (d := d_are_columns) (s := spAreC) a15 W rfl (at_ 15 _ rfl) m_are_columns fun ds G Q X _ h => are_columns_ok rfl rfl rfl rfl ds G Q X h
  have a17 := all_up (i := 16) (d := d_parted) (s := spParted) a16 W rfl (at_ 16 _ rfl) m_parted fun ds G Q X _ h => parted_ok ds G Q X h
  have a18 := all_rec (i := 17) (d := d_join_value) (s := spJv) a17 W rfl (at_ 17 _ rfl) m_join_value (fun ds G Q X ⟨k, _, _, _, _, _, _, _, _, _, z, _⟩ => absurd z.1 (by have := dpos k; omega)) (fun n ds G Q X _ h => join_value_ok up_same rfl rfl rfl ds G Q X h) 10
  have a19 := all_up (i := 18) (d := d_join) (s := spJoin) a18 W rfl (at_ 18 _ rfl) m_join fun ds G Q X _ h => join_ok rfl rfl rfl rfl ds G Q X h
  have a20 := all_stream (i := 19) (st := top 28) a19 W rfl (at_ 19 _ rfl) m_stream
  have a21 := all_draw (i := 20) (st := top 29) a20 W rfl (at_ 20 _ rfl) m_draw
  have a22 := all_up (i := 21) (d := d_law_pick) (s := spPick) a21 W rfl (at_ 21 _ rfl) m_pick fun ds G Q X _ h => pick_ok rfl ds G Q X h
  have a23 := all_rec (i := 22) (d := d_law_same) (s := spSameR) a22 W rfl (at_ 22 _ rfl) m_same (fun ds G Q X ⟨_, _, _, z, _⟩ => z) (fun n ds G Q X _ h => sameR_ok up_same ds G Q X h) 12
  have a24 := all_up (i := 23) (d := d_law_name) (s := spName) a23 W rfl (at_ 23 _ rfl) m_name fun ds G Q X _ h => name_ok rfl ds G Q X h
  have a25 := all_rec2 (i := 24) (j := 25) (d := d_law_kind) (e := d_law_record) (s := spKind) (t := spRecord) (by decide) a24 W rfl (at_ 24 _ rfl) m_kind rfl (at_ 25 _ rfl) m_record (fun ds G Q X ⟨_, _, _, z, _⟩ => absurd z.2 (Nat.lt_irrefl _)) (fun ds G Q X ⟨_, _, _, z, _⟩ => absurd z.2 (Nat.lt_irrefl _))
    (fun n ds G Q X _ h => kind_ok rfl rfl rfl rfl ds G Q X h) (fun n ds G Q X _ h => record_ok rfl rfl rfl ds G Q X h) 8
  have a26 := all_up (i := 26) (d := d_law_schema) (s := spSchema) a25 W rfl (at_ 26 _ rfl) m_schema fun ds G Q X _ h => schema_ok rfl rfl ds G Q X h
  have a27 := all_up (i := 27) (d := d_law_text) (s := spText) a26 W rfl (at_ 27 _ rfl) m_text fun ds G Q X _ h => text_ok rfl ds G Q X h
  have a28 := all_up (i := 28) (d := d_law_int) (s := spInt) a27 W rfl (at_ 28 _ rfl) m_int fun ds G Q X _ h => int_ok rfl rfl ds G Q X h
  have a29 := all_rec (i := 29) (d := d_law_value) (s := spValue) a28 W rfl (at_ 29 _ rfl) m_value (fun ds G Q X ⟨k, _, _, _, _, z, _⟩ => absurd z (by have := dpos k; omega)) (fun n ds G Q X _ h => value_ok rfl rfl rfl up_same ds G Q X h) 10
  have a30 := all_rec (i := 30) (d := d_law_leaves) (s := spLv) a29 W rfl (at_ 30 _ rfl) m_lleaves (fun ds G Q X ⟨k, _, _, z, _⟩ => absurd z (by have := dpos k; omega)) (fun n ds G Q X _ h => lv_ok up_same ds G Q X h) 10
  have a31 := all_up (i := 31) (d := d_law_choice) (s := spChoice) a30 W rfl (at_ 31 _ rfl) m_choice fun ds G Q X _ h => choice_ok rfl ds G Q X h
  have a32 := all_up (i := 32) (d := d_law_paths) (s := spPaths) a31 W rfl (at_ 32 _ rfl) m_paths fun ds G Q X _ h => paths_ok rfl ds G Q X h
  have a33 := all_up (i := 33) (d := d_law_under) (s := spUnder) a32 W rfl (at_ 33 _ rfl) m_under fun ds G Q X _ h => under_ok ds G Q X h
  have a34 := all_rec (i := 34) (d := d_law_without) (s := spLwo) a33 W rfl (at_ 34 _ rfl) m_without (fun ds G Q X ⟨_, k, _, _, _, _, _, _, _, z, _⟩ => absurd z (by have := dpos k; omega)) (fun n ds G Q X _ h => lwithout_ok up_same rfl ds G Q X h) 10
  have a35 := all_rec (i := 35) (d := d_law_entries) (s := spEn) a34 W rfl (at_ 35 _ rfl) m_entries (fun ds G Q X ⟨k, _, _, _, _, _, _, _, _, _, _, _, z, _⟩ => absurd z (by have := dpos k; omega)) (fun n ds G Q X _ h => entries_ok up_same ds G Q X h) 10
  have a36 := all_up (i := 36) (d := d_law_column) (s := spColumn) a35 W rfl (at_ 36 _ rfl) m_column fun ds G Q X _ h => column_ok rfl ds G Q X h
  have a37 := all_up (i := 37) (d := d_law_table) (s := spTable) a36 W rfl (at_ 37 _ rfl) m_table fun ds G Q X _ h => table_ok rfl rfl ds G Q X h
  have aZ := all_up (i := 38) (d := d_law_columns) (s := spColumns) a37 W rfl (at_ 38 _ rfl) m_columns fun ds G Q X _ h => columns_ok rfl rfl ds G Q X h
  obtain ⟨f', fd, h1, h2, h3, F⟩ := at_ 39 d_law rfl
  have e := hfa.symm.trans (h2 (by decide +kernel))
  cases e
  have b := FunD.bindsA (ps := ["script"]) F (binds d_law (List.mem_of_getElem? (show dfs[39]? = some d_law from rfl)))
  have hm2 : (mSs cfg.no d_law.N (defScope d_law.st) d_law.b (defBody d_law.st) && C8.scC d_law.N d_law.ps (defScope d_law.st)) = true := m_law
  rw [Bool.and_eq_true] at hm2
  exact ⟨fd, fun s v => b s [v] rfl, fun base hb hg => (noX (fn_good (sp := spLaw) W F (C8.fnScope_by hm2.2) hm2.1 aZ.2 aZ.1 (fun ds G Q X _ h => law_ok rfl rfl rfl rfl rfl rfl rfl rfl rfl rfl rfl rfl ds G Q X h) hb hg)).mono (by decide)⟩
end DL.K16
open PySem PySem.W PySem.Calls PyProof.Rows
theorem PySem.Challenge.cw_stripewalk_k16_whole_parts_of_columns_holds : PySem.Challenge.rw_stripewalk_k16_whole_parts_of_columns.Holds := by
  w_on; o_law
  refine HandSHeadRun.head_any (r := OpenLaw.row PySem.Challenge.rw_stripewalk_k16_whole_parts_of_columns) (q := view (OpenLaw.row PySem.Challenge.rw_stripewalk_k16_whole_parts_of_columns).prog [48]) (H := DL.K16.hk) (ob := DL.K16.ob) (M := 3000) (loose := ("LEAVES" :: "SIGNS" :: "MOST_SIGNS" :: "StripewalkError" :: "BadColumns" :: "is_integer" :: "leaves" :: "is_text" :: "is_leaf_value" :: "first_leaves" :: "is_chosen" :: "chosen_from" :: "chosen" :: "cut_value" :: "cut" :: "floors" :: "is_entry" :: "is_column" :: "common_steps" :: "shape" :: "are_columns" :: "parted" :: "join_value" :: "join" :: "_law_stream" :: "_law_draw" :: "_law_pick" :: "_law_same" :: "_law_name" :: "_law_record" :: "_law_kind" :: "_law_schema" :: "_law_text" :: "_law_int" :: "_law_value" :: "_law_leaves" :: "_law_choice" :: "_law_paths" :: "_law_under" :: "_law_without" :: "_law_entries" :: "_law_column" :: "_law_table" :: "_law_columns" :: [])) (d := HandSHeadRun.topDef (OpenLaw.row PySem.Challenge.rw_stripewalk_k16_whole_parts_of_columns).prog 48) (kwd := []) DL.K16.ob_eq
    (by kernel_rfl) (fun s => by kernel_rfl) DL.K16.run (by kernel_rfl) (by kernel_rfl) (by kernel_rfl) (by rfl) (by first | assumption | decide +kernel) (by decide +kernel) ⟨rfl, rfl, rfl, rfl, rfl, by decide +kernel⟩ ?hw ?hc
  case hw => w_witness2
  case hc =>
    refine L2.walk_ofE (l := PySem.Challenge.rw_stripewalk_k16_whole_parts_of_columns) (n := 63) (k := 200) (x := "script") (CX := L2.CX0) rfl (by decide) (by kernel_rfl) ⟨rfl, by decide, by decide⟩ ?F (fun _ _ _ _ z => z)
    intro w mg fa h Y G hmg0
    obtain ⟨K, KX, c, g⟩ := Y
    have hmg : mg ("law" : PySem.Str) = some (.ref fa) := by
      have e : (HandSHeadRun.topDef (OpenLaw.row PySem.Challenge.rw_stripewalk_k16_whole_parts_of_columns).prog 48).name = ("law" : PySem.Str) := by kernel_rfl
      rw [← e]
      exact hmg0
    obtain ⟨fd, hb, hF⟩ := DL.K16.facts (P := (PySem.Challenge.rw_stripewalk_k16_whole_parts_of_columns).prog) (w := w) KX G hmg c g
    exact ⟨K, fd, fun vs H Q _ => DL.lift K (DL.fnmOf K DL.K16.dfs DL.K16.ocs) (DL.clmOf K DL.K16.cls) 1 DL.spLaw vs H Q fun _ _ _ => False, KX, hb, fun H a ns hl hO hS => DL.law_sp H a ns hl hO hS, hF⟩

