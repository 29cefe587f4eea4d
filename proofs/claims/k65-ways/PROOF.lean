import PyProof.Rows.All
import Wide.All
import OpenK.AllK
import Wide.FinOn
import HandS.ForMost
import HandS.TupAny
import HandS.Conv
import PyProof.EqAt
import PyProof.EqKinds
import PyProof.TupleCall
import HandS.ForExc
import HandS.Flow
import HandS.Style
import HandS.Wide
import HandS.IsInst
import HandS.Zip
import HandS.Deep
import HandS.StrMore
import HandS.DictComp
import HandS.SortInts
import HandS.NoneIn
import HandS.Rev
import HandS.Walk
import HandS.CallSlots
import HandS.ExcOwn
import HandS.ExcIs
import HandS.TryOnly
import HandS.Head2
import HandS.HeadHook2
import HandS.HeadEnd
import HandS.Defaults
import HandS.List
import KE.DataEq
import KE.DataFind
import HandS.WordsDict
import PyProof.ConsumeWalk
import KE.GoesMore
import PyProof.ListNew
import PyProof.ReprRoads
import KE.KDictPairs
import HandS.Codes
import HandS.HeadHook3
import HandS.FStr
import PyProof.FitsInt
import PySem.Challenge.RW_stripewalk_k65_whole_ways
set_option Elab.async false
set_option linter.all false
set_option maxRecDepth 100000
set_option maxHeartbeats 4000000
/-! ## 0. Tuples that are known to bear no dict of their own -/
namespace DL
open PySem PySem.Spec PyProof.Rows L2
/-- a tuple without attributes -/
def SqP (K : PySem.W.Frag) (H : Hp) (a : Addr) (xs : List V) : Prop :=
  (∃ ob, H a = some (.frz ob (.tup xs)) ∧ ob.dict = none) ∨
    ∃ (ob : Obj) (arr : Array Value) (m : Nat), K.lookup a = some ob ∧ ob.cls = .type "tuple" ∧ ob.dict = none ∧ ob.data = .seq arr m ∧ arr.size ≤ sizeLine ∧ Vals xs arr.toList
theorem SqP.sq {K : PySem.W.Frag} {H : Hp} {a : Addr} {xs : List V} (h : SqP K H a xs) : SqT K H a xs := by
  rcases h with ⟨ob, e, _⟩ | ⟨ob, arr, m, e1, e2, _, e4, e5, e6⟩
  · exact .inl (.inr ⟨ob, e⟩)
  · exact .inr ⟨ob, arr, m, e1, e2, e4, e5, e6⟩
/-- the wish, a new tuple of these being told -/
def NewP (H : Hp) (xs : List V) (Q : VK) : Prop := ∀ (p : Addr) (ob : Obj), H p = none → ob.dict = none → Q (.ref p) (upd H p (.frz ob (.tup xs)))
section
variable {X : Cx} {pins : List (Addr × Obj)} {σ : L2.St} {H : Hp} {s : Shared}
theorem laidP {xs : List V} {its : List Value} {Q : VK} {tk : Nat} (I : Inv X pins σ H s) (rv : Vals xs its) (hz : xs.length ≤ sizeLine) (go : NewP H xs Q) :
    EP X pins σ Q (.ref s.heap.objs.size) { s with heap := s.heap.push { cls := .type "tuple", data := .seq its.toArray }, toks := tk } := by
  have got : (s.heap.push { cls := .type "tuple", data := .seq its.toArray }).get? s.heap.objs.size = some { cls := .type "tuple", data := .seq its.toArray } := Heap.get?_push_size _ rfl
  refine ⟨.ref s.heap.objs.size, upd H s.heap.objs.size (.frz { cls := .type "tuple", data := .seq its.toArray } (.tup xs)), I.laid (t' := tk) (fun _ _ z => Heap.get?_push_of_some _ z) (Nat.le_refl _) ?_, rfl, go _ _ (I.hok.fresh (Nat.le_refl _)) rfl⟩
  exact ⟨got, hz, its, rv, _, got, rfl, _, rfl⟩
end
section
variable {X : Cx} {es : List Expr} {pos : Pos} {ta : TA}
def tTupP (t : TA) : TE := fun σ H Q => t σ H fun xs G => xs.length ≤ sizeLine ∧ NewP G xs Q
theorem pe_tupP {j : Nat} (ha : PA X es ta) : PE X (.Tuple es j pos) (tTupP ta) := by
  constructor
  intro pins s σ H Q I go
  exact wpAny_Tuple_spliced (thn (ha.run pos pins s σ H _ I go) fun us t ⟨xs, G, J, rv, hz, w⟩ => ⟨rv.length ▸ hz, laidP J rv hz w⟩)
/-- t + u -/
def rCatP (K : PySem.W.Frag) : R2 := fun x y H Q => ∃ a b xs ys, x = .ref a ∧ y = .ref b ∧ SqT K H a xs ∧ SqT K H b ys ∧ xs.length + ys.length ≤ sizeLine ∧
  (xs = [] → Q (.ref b) H) ∧ (xs ≠ [] → ys = [] → Q (.ref a) H) ∧ (xs ≠ [] → ys ≠ [] → NewP H (xs ++ ys) Q)
theorem op_catP : OpR X (binaryOp .Add) (rCatP X.K) := by
  rintro pins s σ H x y v u Q I rx ry ⟨a, b, xs, ys, ex, ey, ha, hb, hz, w0, w1, w2⟩
  subst ex; subst ey
  obtain rfl : v = .ref a := rx
  obtain rfl : u = .ref b := ry
  obtain ⟨us, rx', pa, _⟩ := I.tuple ha
  obtain ⟨ws, ry', pb, _⟩ := I.tuple hb
  rcases xs with _ | ⟨x0, xs⟩
  · cases rx'
    exact cat_tup0 pa pb ⟨.ref b, H, I, rfl, w0 rfl⟩
  · refine HT.cat_tup pa pb (fun e => absurd (rx'.nil_iff.mp e) (List.cons_ne_nil _ _)) (fun e => ⟨.ref a, H, I, rfl, w1 (List.cons_ne_nil _ _) (ry'.nil_iff.mp e)⟩) (fun e => ?_) (by rw [← rx'.length, ← ry'.length]; exact hz)
    exact laidP (tk := s.toks) I (rx'.append ry') (by rw [List.length_append]; exact hz) (w2 (List.cons_ne_nil _ _) fun z => e (ry'.nil_iff.mpr z))
/-- t[lo:hi] -/
def rSlP (K : PySem.W.Frag) : V → Option Int → Option Int → Hp → VK → Prop := fun x lo hi H Q => ∃ a xs, x = .ref a ∧ SqT K H a xs ∧
  (HT.sIx xs.length 0 lo = 0 ∧ HT.sIx xs.length xs.length hi = xs.length → Q (.ref a) H) ∧ (¬ (HT.sIx xs.length 0 lo = 0 ∧ HT.sIx xs.length xs.length hi = xs.length) → NewP H (cutV xs lo hi) Q)
theorem sl_tupP : SlR X (rSlP X.K) := by
  rintro pins s σ H x v vl vu lo hi sl Q I rx hs pl pu ⟨a, xs, ex, ha, w1, w2⟩
  subst ex
  obtain rfl : v = .ref a := rx
  obtain ⟨us, rv, pa, hz⟩ := I.tuple ha
  have many : us.toArray.size = xs.length := by rw [List.size_toArray, rv.length]
  refine ⟨"tuple", _, PyProof.Rows.slot_tuple_getitem.lookup, pa.typeIs, ?_⟩
  rcases Classical.em (HT.sIx xs.length 0 lo = 0 ∧ HT.sIx xs.length xs.length hi = xs.length) with all | part
  · refine getItem_tuple_whole pa hs pl pu (by rw [many]; exact all) ⟨.ref a, H, I, rfl, w1 all⟩
  · refine HT.getItem_tuple_cut pa hs pl pu (by rw [many]; exact part) ?_ (by rw [many]; exact hz)
    rw [many]
    exact laidP (tk := s.toks) I ((rv.drop (HT.sIx xs.length 0 lo)).take (HT.sIx xs.length xs.length hi - HT.sIx xs.length 0 lo)) (Nat.le_trans (cutV_length xs lo hi) hz) (w2 part)
/-- tuple(x) of a list, or of a tuple -/
theorem call_tupP : CallR X (.type "tuple") (fun xs H Q => ∃ p ys, xs = [.ref p] ∧ ((SqL X.K H p ys ∧ NewP H ys Q) ∨ (SqT X.K H p ys ∧ Q (.ref p) H))) := by
  rintro pins s σ H xs us Q I r ⟨p, ys, ex, h⟩
  subst ex
  obtain ⟨u, eu, ru⟩ := vals1 r
  subst eu
  obtain rfl : u = .ref p := ru
  rcases h with ⟨hl, w⟩ | ⟨ht, w⟩
  · obtain ⟨its, rv, pl, hz⟩ := I.list hl
    refine call_tuple_list pl.isList (fun h' kp => ?_) (by rw [List.size_toArray, ← rv.length]; exact hz)
    have J : Inv X pins σ H { s with heap := h' } := I.kept (t' := s.toks) kp
    exact laidP (tk := s.toks) J rv hz w
  · obtain ⟨its, rv, pt, _⟩ := I.tuple ht
    exact call_tuple_same pt ⟨.ref p, H, I, rfl, w⟩
/-- tuple(range(..)) -/
def tTupRgP (te : L2.St → Hp → (Int → Int → Hp → Prop) → Prop) : TE := fun σ H Q => te σ H fun a b G => RgOk a b ∧ NewP G (rgV a b) Q
theorem pe_tupRgP {p : Pos} {e : Expr} {te : L2.St → Hp → (Int → Int → Hp → Prop) → Prop} (hc : X.calm = true) (hg : Gl X "tuple") (hm : X.mg "tuple" = none) (he : PRg X e te) (na : starEach [e] X.env = (false, eval e X.env) :: starEach [] X.env) :
    PE X (.Call (.Name "tuple" p) [e] [] pos) (tTupRgP te) := by
  constructor
  intro pins s σ H Q I go
  refine Call_ (ld_blt I hg hm boot_tuple (PyProof.Rows.callWith_type1 (args_cons (thn (he pins s σ H _ I go) fun x t ⟨r, a, b, c, d, f, G, ex, hr, J, ok, w⟩ => args_nil ?_) na) na))
  subst ex
  have ok' := ok
  obtain ⟨k1, k2, k3, k4, k5⟩ := ok'
  refine call_tuple_range (n := (b - a).toNat) (J.ok.hd hc) hr (small_one k1 k2 k3 k4) (rangeSize_nat a b) k5 fun h' tk acc hk hi => ?_
  have J2 : Inv X pins σ G { t with heap := h', toks := tk } := J.kept hk
  have fin := laidP (tk := tk) J2 (vals_rg hi) (by rw [rgV_length, sizeLine_eq]; omega) w
  rw [Array.toArray_toList] at fin
  exact fin
end
end DL

namespace DL
open PySem PySem.Spec PyProof.Rows L2

/-! ## 1. Data -/
inductive D where
  | non | bl (b : Bool) | int (i : Int) | str (s : List Nat) | tup (ds : List D) | tpl (ds : List D) | lst (ds : List D) | ref (a : Addr) | rnd | scr (ds : List D) | ty (n : String) | fn (i : Nat)

/-- a live object -/
inductive HC where
  | lst (ds : List D)
  | dct (kvs : List (D × D))
  | ins (C : Nat) (fs : List (Str × D))

abbrev HD := Addr → Option HC
def updD (H : HD) (a : Addr) (c : HC) : HD := fun b => if b = a then some c else H b
def delD (H : HD) (a : Addr) : HD := fun b => if b = a then none else H b
def emp : HD := fun _ => none
@[simp] theorem updD_same {H : HD} {a : Addr} {c : HC} : updD H a c a = some c := by unfold updD; rw [if_pos rfl]
theorem updD_ne {H : HD} {a b : Addr} {c : HC} (h : b ≠ a) : updD H a c b = H b := by unfold updD; rw [if_neg h]
@[simp] theorem updD_updD {H : HD} {a : Addr} {c c' : HC} : updD (updD H a c) a c' = updD H a c' := by
  funext b; unfold updD; split <;> rfl
@[simp] theorem delD_same {H : HD} {a : Addr} : delD H a a = none := by unfold delD; rw [if_pos rfl]
theorem delD_updD {H : HD} {a : Addr} {c : HC} (h : H a = none) : delD (updD H a c) a = H := by
  funext b; unfold delD updD; split
  · rename_i e; rw [e, h]
  · rfl
theorem updD_comm {H : HD} {a b : Addr} {c d : HC} (h : a ≠ b) : updD (updD H a c) b d = updD (updD H b d) a c := by
  funext x; unfold updD; split
  · rename_i e; rw [if_neg (by rw [e]; exact fun z => h z.symm)]
  · rfl

def mkStr (l : List Nat) : Str := ⟨l.toArray⟩
theorem mkStr_inj {a b : List Nat} (h : mkStr a = mkStr b) : a = b := by
  have := congrArg (fun s => s.cps.toList) h
  simpa [mkStr] using this
theorem mkStr_length (a : List Nat) : (mkStr a).length = a.length := by simp [mkStr, Str.length]
theorem mkStr_append (a b : List Nat) : mkStr a ++ mkStr b = mkStr (a ++ b) := by
  show Str.append _ _ = _
  simp [mkStr, Str.append]
theorem mkStr_of (s : Str) : mkStr s.cps.toList = s := by simp [mkStr]

/-! ## 2. What stands for what -/
/-- a list of the written part -/
def KPart (K : PySem.W.Frag) (a : Addr) (xs : List V) : Prop :=
  ∃ (o : Obj) (its : Array Value) (n : Nat), K.lookup a = some o ∧ o.cls = .type "list" ∧ o.dict = none ∧ o.data = .seq its n ∧ its.size ≤ sizeLine ∧ Vals xs its.toList
/-- a list that stays as it is -/
def LAt (K : PySem.W.Frag) (S : Addr → Option Bool) (H : Hp) (G : HD) (a : Addr) (vs : List V) : Prop :=
  (H a = some (.lst vs) ∧ G a = none ∧ S a = none) ∨ (∃ o, H a = some (.frz o (.lst vs))) ∨ KPart K a vs
theorem LAt.sq {K : PySem.W.Frag} {S : Addr → Option Bool} {H : Hp} {G : HD} {a : Addr} {vs : List V} (h : LAt K S H G a vs) : SqL K H a vs := by
  rcases h with ⟨h, _, _⟩ | ⟨o, h⟩ | h
  · exact .inl (.inl h)
  · exact .inl (.inr ⟨o, h⟩)
  · exact .inr h
section
variable (K : PySem.W.Frag) (fnm : Nat → Option Addr) (clm : Nat → Option Addr) (S : Addr → Option Bool) (H : Hp) (G : HD)
mutual
inductive Dat : V → D → Prop
  | non : Dat .non .non
  | bl (b : Bool) : Dat (.bl b) (.bl b)
  | int (i : Int) : Dat (.int i) (.int i)
  | str (s : List Nat) : PyData.strOk (mkStr s) = true → s.length ≤ sizeLine → Dat (.str (mkStr s)) (.str s)
  | tup {a : Addr} {vs : List V} {ds : List D} : SqP K H a vs → vs.length ≤ sizeLine → DatAll vs ds → Dat (.ref a) (.tup ds)
  | tpl {a : Addr} {vs : List V} {ds : List D} : SqT K H a vs → vs.length ≤ sizeLine → DatAll vs ds → Dat (.ref a) (.tpl ds)
  | lst {a : Addr} {vs : List V} {ds : List D} : H a = some (.lst vs) → G a = none → S a = none → vs.length ≤ sizeLine → DatAll vs ds → Dat (.ref a) (.lst ds)
  | ref (a : Addr) : Dat (.ref a) (.ref a)
  | rnd (a : Addr) : S a = some true → Dat (.ref a) .rnd
  | scr {a : Addr} {vs : List V} {ds : List D} : ((∃ o, H a = some (.frz o (.lst vs))) ∨ KPart K a vs) → vs.length ≤ sizeLine → DatAll vs ds → Dat (.ref a) (.scr ds)
  | ty (n : String) : Dat (.ty n) (.ty n)
  | fn {i : Nat} {f : Addr} : fnm i = some f → Dat (.ref f) (.fn i)
inductive DatAll : List V → List D → Prop
  | nil : DatAll [] []
  | cons {v : V} {d : D} {vs : List V} {ds : List D} : Dat v d → DatAll vs ds → DatAll (v :: vs) (d :: ds)
end
end
theorem DatAll.length {K fnm S H G} : ∀ {vs : List V} {ds : List D}, DatAll K fnm S H G vs ds → vs.length = ds.length
  | _, _, .nil => rfl
  | _, _, .cons _ t => by simp [DatAll.length t]
theorem DatAll.get {K fnm S H G} : ∀ {vs : List V} {ds : List D} {i : Nat} {d : D}, DatAll K fnm S H G vs ds → ds[i]? = some d → ∃ v, vs[i]? = some v ∧ Dat K fnm S H G v d
  | _, _, _, _, .nil, e => by simp at e
  | _, _, 0, _, .cons r _, e => by simp at e; subst e; exact ⟨_, rfl, r⟩
  | _, _, i + 1, _, .cons _ t, e => by
    obtain ⟨v, h1, h2⟩ := DatAll.get t (by simpa using e)
    exact ⟨v, by simpa using h1, h2⟩
theorem DatAll.get' {K fnm S H G} : ∀ {vs : List V} {ds : List D} {i : Nat} {v : V}, DatAll K fnm S H G vs ds → vs[i]? = some v → ∃ d, ds[i]? = some d ∧ Dat K fnm S H G v d
  | _, _, _, _, .nil, e => by simp at e
  | _, _, 0, _, .cons r _, e => by simp at e; subst e; exact ⟨_, rfl, r⟩
  | _, _, i + 1, _, .cons _ t, e => by
    obtain ⟨v, h1, h2⟩ := DatAll.get' t (by simpa using e)
    exact ⟨v, by simpa using h1, h2⟩
theorem DatAll.append {K fnm S H G} : ∀ {vs ws : List V} {ds es : List D}, DatAll K fnm S H G vs ds → DatAll K fnm S H G ws es → DatAll K fnm S H G (vs ++ ws) (ds ++ es)
  | _, _, _, _, .nil, s => s
  | _, _, _, _, .cons r t, s => .cons r (DatAll.append t s)
theorem DatAll.take {K fnm S H G} : ∀ {vs : List V} {ds : List D} (n : Nat), DatAll K fnm S H G vs ds → DatAll K fnm S H G (vs.take n) (ds.take n)
  | _, _, 0, _ => .nil
  | _, _, _ + 1, .nil => .nil
  | _, _, n + 1, .cons r t => .cons r (DatAll.take n t)
theorem DatAll.drop {K fnm S H G} : ∀ {vs : List V} {ds : List D} (n : Nat), DatAll K fnm S H G vs ds → DatAll K fnm S H G (vs.drop n) (ds.drop n)
  | _, _, 0, r => r
  | _, _, _ + 1, .nil => .nil
  | _, _, n + 1, .cons _ t => DatAll.drop n t
theorem DatAll.set {K fnm S H G} {v : V} {d : D} (r : Dat K fnm S H G v d) : ∀ {vs : List V} {ds : List D} (i : Nat), DatAll K fnm S H G vs ds → DatAll K fnm S H G (vs.set i v) (ds.set i d)
  | _, _, _, .nil => .nil
  | _, _, 0, .cons _ t => .cons r t
  | _, _, i + 1, .cons q t => .cons q (DatAll.set r i t)
theorem DatAll.eraseIdx {K fnm S H G} : ∀ {vs : List V} {ds : List D} (i : Nat), DatAll K fnm S H G vs ds → DatAll K fnm S H G (vs.eraseIdx i) (ds.eraseIdx i)
  | _, _, _, .nil => .nil
  | _, _, 0, .cons _ t => t
  | _, _, i + 1, .cons q t => .cons q (DatAll.eraseIdx i t)
theorem DatAll.dropLast {K fnm S H G} {vs : List V} {ds : List D} (h : DatAll K fnm S H G vs ds) : DatAll K fnm S H G vs.dropLast ds.dropLast := by
  rw [List.dropLast_eq_take, List.dropLast_eq_take, h.length]; exact h.take _
theorem DatAll.reverse {K fnm S H G} : ∀ {vs : List V} {ds : List D}, DatAll K fnm S H G vs ds → DatAll K fnm S H G vs.reverse ds.reverse
  | _, _, .nil => .nil
  | _, _, .cons r t => by rw [List.reverse_cons, List.reverse_cons]; exact (DatAll.reverse t).append (.cons r .nil)
theorem DatAll.rep {K fnm S H G} {vs : List V} {ds : List D} (h : DatAll K fnm S H G vs ds) : ∀ n : Nat, DatAll K fnm S H G (List.replicate n vs).flatten (List.replicate n ds).flatten
  | 0 => .nil
  | n + 1 => by rw [List.replicate_succ, List.replicate_succ, List.flatten_cons, List.flatten_cons]; exact h.append (DatAll.rep h n)
theorem DatAll.nil_iff {K fnm S H G} {vs : List V} {ds : List D} (h : DatAll K fnm S H G vs ds) : vs = [] ↔ ds = [] := by
  cases h <;> simp

/-- a law's stream -/
def RndAt (H : Hp) (G : HD) (S : Addr → Option Bool) (a : Addr) : Prop :=
  ∃ (q : Addr) (ns : List Int) (x k m : Int), H a = some (.lst [.ref q, .int x, .int k, .int m]) ∧ H q = some (.lst (ns.map V.int)) ∧ G q = none ∧ S q = none ∧ 0 ≤ x ∧ 0 ≤ k ∧ k ≤ ns.length ∧ 0 ≤ m ∧ m < 2147483647 ∧ ns.length ≤ sizeLine
def keyD : D → Option Key
  | .int i => some (.inl i)
  | .str s => some (.inr (mkStr s))
  | _ => none
section
variable (K : PySem.W.Frag) (fnm : Nat → Option Addr) (clm : Nat → Option Addr) (S : Addr → Option Bool) (H : Hp) (G : HD)
inductive KvAll : List (Key × V) → List (D × D) → Prop
  | nil : KvAll [] []
  | cons {k : Key} {v : V} {c d : D} {vs : List (Key × V)} {ds : List (D × D)} : keyD c = some k → Dat K fnm S H G (kV k) c → Dat K fnm S H G v d → KvAll vs ds → KvAll ((k, v) :: vs) ((c, d) :: ds)
inductive FsAll : List (Str × V) → List (Str × D) → Prop
  | nil : FsAll [] []
  | cons {x : Str} {v : V} {d : D} {vs : List (Str × V)} {ds : List (Str × D)} : Dat K fnm S H G v d → FsAll vs ds → FsAll ((x, v) :: vs) ((x, d) :: ds)
end
def CellOk (K : PySem.W.Frag) (fnm _clm : Nat → Option Addr) (S : Addr → Option Bool) (H : Hp) (G : HD) (a : Addr) : HC → Prop
  | .lst ds => ∃ vs, H a = some (.lst vs) ∧ vs.length ≤ sizeLine ∧ DatAll K fnm S H G vs ds
  | .dct kvs => ∃ vs, H a = some (.dK vs) ∧ KvAll K fnm S H G vs kvs
  | .ins C fs => ∃ c dx vs, fnm (1000 + C) = some c ∧ H a = some (.ins c dx vs) ∧ FsAll K fnm S H G vs fs
section
variable (K : PySem.W.Frag) (fnm : Nat → Option Addr) (clm : Nat → Option Addr) (S : Addr → Option Bool) (H : Hp) (G : HD)
structure Hel : Prop where
  cell : ∀ a c, G a = some c → CellOk K fnm clm S H G a c
  rnd : ∀ a, S a = some true → G a = none ∧ RndAt H G S a
  res : ∀ a, S a = some false → G a = none ∧ H a ≠ none
end
/-- what a piece of code may do: what is neither owned nor a stream stays -/
structure Step (S : Addr → Option Bool) (H : Hp) (G : HD) (S' : Addr → Option Bool) (H' : Hp) (G' : HD) : Prop where
  stay : ∀ a o, H a = some o → G a = none → S a ≠ some true → H' a = some o
  strm : ∀ a b, S a = some b → S' a = some b
  own : ∀ a, (G' a ≠ none ∨ S' a = some true) → G a ≠ none ∨ S a = some true ∨ H a = none
  res : ∀ a, S' a = some false → S a = some false ∨ H a = none
  there : ∀ a, H' a = none → H a = none
theorem Step.refl {S H G} : Step S H G S H G := ⟨fun _ _ h _ _ => h, fun _ _ h => h, fun _ h => h.elim .inl fun x => .inr (.inl x), fun _ h => .inl h, fun _ h => h⟩
theorem Step.trans {S H G S1 H1 G1 S2 H2 G2} (x : Step S H G S1 H1 G1) (y : Step S1 H1 G1 S2 H2 G2) : Step S H G S2 H2 G2 := by
  refine ⟨fun a o h g s => ?_, fun a b h => y.strm a b (x.strm a b h), fun a h => ?_, fun a h => ?_, fun a h => x.there a (y.there a h)⟩
  · have h1 := x.stay a o h g s
    have n : ¬ (G1 a ≠ none ∨ S1 a = some true) := fun z => by
      rcases x.own a z with q | q | q
      · exact q g
      · exact s q
      · rw [h] at q; cases q
    exact y.stay a o h1 (Classical.byContradiction fun z => n (.inl z)) fun z => n (.inr z)
  · rcases y.own a h with q | q | q
    · exact x.own a (.inl q)
    · exact x.own a (.inr q)
    · exact .inr (.inr (x.there a q))
  · rcases y.res a h with q | q
    · exact x.res a q
    · exact .inr (x.there a q)
section
variable {K : PySem.W.Frag} {fnm clm : Nat → Option Addr} {S S' : Addr → Option Bool} {H H' : Hp} {G G' : HD}
theorem Step.un (st : Step S H G S' H' G') {a : Addr} {o : HO} (h : H a = some o) (g : G a = none) (s : S a = none) : H' a = some o ∧ G' a = none ∧ S' a = none := by
  have n : ¬ (G' a ≠ none ∨ S' a = some true) := fun z => by
    rcases st.own a z with q | q | q
    · exact q g
    · rw [s] at q; cases q
    · rw [h] at q; cases q
  refine ⟨st.stay a o h g (by rw [s]; simp), Classical.byContradiction fun z => n (.inl z), ?_⟩
  cases e : S' a with
  | none => rfl
  | some b =>
    cases b with
    | true => exact absurd (.inr e) n
    | false =>
      rcases st.res a e with q | q
      · rw [s] at q; cases q
      · rw [h] at q; cases q
theorem Hel.notTup (R : Hel K fnm clm S H G) {a : Addr} (h : (∃ vs, H a = some (.tup vs)) ∨ ∃ o u, H a = some (.frz o u)) : G a = none ∧ S a ≠ some true := by
  refine ⟨?_, fun s => ?_⟩
  · cases e : G a with
    | none => rfl
    | some c =>
      have q := R.cell a c e
      cases c with
      | lst ds => obtain ⟨vs, q, _⟩ := q; rcases h with ⟨_, h⟩ | ⟨_, _, h⟩ <;> (rw [h] at q; cases q)
      | dct ds => obtain ⟨vs, q, _⟩ := q; rcases h with ⟨_, h⟩ | ⟨_, _, h⟩ <;> (rw [h] at q; cases q)
      | ins C fs => obtain ⟨_, _, vs, _, q, _⟩ := q; rcases h with ⟨_, h⟩ | ⟨_, _, h⟩ <;> (rw [h] at q; cases q)
  · obtain ⟨_, q, _, _, _, _, e, _⟩ := R.rnd a s
    rcases h with ⟨_, h⟩ | ⟨_, _, h⟩ <;> (rw [h] at e; cases e)
/-- what stays so that what stood for what does so still -/
structure Keep (S : Addr → Option Bool) (H : Hp) (G : HD) (S' : Addr → Option Bool) (H' : Hp) (G' : HD) : Prop where
  un : ∀ a o, H a = some o → G a = none → S a = none → H' a = some o ∧ G' a = none ∧ S' a = none
  tup : ∀ a vs, H a = some (.tup vs) → H' a = some (.tup vs)
  frz : ∀ a o u, H a = some (.frz o u) → H' a = some (.frz o u)
  rnd : ∀ a, S a = some true → S' a = some true
theorem Keep.of (R : Hel K fnm clm S H G) (st : Step S H G S' H' G') : Keep S H G S' H' G' :=
  ⟨fun a o h g s => st.un h g s, fun a vs h => let ⟨g, s⟩ := R.notTup (.inl ⟨vs, h⟩); st.stay a _ h g s, fun a o u h => let ⟨g, s⟩ := R.notTup (.inr ⟨o, u, h⟩); st.stay a _ h g s, fun a h => st.strm a _ h⟩
theorem Keep.sqT (k : Keep S H G S' H' G') {a : Addr} {vs : List V} (h : SqT K H a vs) : SqT K H' a vs := by
  rcases h with (h | ⟨o, h⟩) | h
  · exact .inl (.inl (k.tup a _ h))
  · exact .inl (.inr ⟨o, k.frz a _ _ h⟩)
  · exact .inr h
theorem Keep.sqP (k : Keep S H G S' H' G') {a : Addr} {vs : List V} (h : SqP K H a vs) : SqP K H' a vs := by
  rcases h with ⟨o, h, z⟩ | h
  · exact .inl ⟨o, k.frz a _ _ h, z⟩
  · exact .inr h
theorem LAt.keep (k : Keep S H G S' H' G') {a : Addr} {vs : List V} (h : LAt K S H G a vs) : LAt K S' H' G' a vs := by
  rcases h with ⟨h, g, s⟩ | ⟨o, h⟩ | h
  · exact .inl (k.un _ _ h g s)
  · exact .inr (.inl ⟨o, k.frz _ _ _ h⟩)
  · exact .inr (.inr h)
mutual
theorem Dat.keep (k : Keep S H G S' H' G') : ∀ {v : V} {d : D}, Dat K fnm S H G v d → Dat K fnm S' H' G' v d
  | _, _, .non => .non
  | _, _, .bl b => .bl b
  | _, _, .int i => .int i
  | _, _, .str s h z => .str s h z
  | _, _, .tup h z r => .tup (k.sqP h) z (DatAll.keep k r)
  | _, _, .tpl h z r => .tpl (k.sqT h) z (DatAll.keep k r)
  | _, _, .lst h g s z r => let ⟨h', g', s'⟩ := k.un _ _ h g s; .lst h' g' s' z (DatAll.keep k r)
  | _, _, .ref a => .ref a
  | _, _, .rnd a s => .rnd a (k.rnd a s)
  | _, _, .scr h z r => .scr (h.imp (fun ⟨o, h⟩ => ⟨o, k.frz _ _ _ h⟩) id) z (DatAll.keep k r)
  | _, _, .ty n => .ty n
  | _, _, .fn h => .fn h
theorem DatAll.keep (k : Keep S H G S' H' G') : ∀ {vs : List V} {ds : List D}, DatAll K fnm S H G vs ds → DatAll K fnm S' H' G' vs ds
  | _, _, .nil => .nil
  | _, _, .cons r t => .cons (Dat.keep k r) (DatAll.keep k t)
end
theorem Dat.step (R : Hel K fnm clm S H G) (st : Step S H G S' H' G') {v : V} {d : D} (r : Dat K fnm S H G v d) : Dat K fnm S' H' G' v d := r.keep (.of R st)
theorem DatAll.step (R : Hel K fnm clm S H G) (st : Step S H G S' H' G') {vs : List V} {ds : List D} (r : DatAll K fnm S H G vs ds) : DatAll K fnm S' H' G' vs ds := r.keep (.of R st)
end
section
variable {K : PySem.W.Frag} {fnm clm : Nat → Option Addr} {S S' : Addr → Option Bool} {H H' : Hp} {G G' : HD}
theorem KvAll.keep (k : Keep S H G S' H' G') : ∀ {vs ds}, KvAll K fnm S H G vs ds → KvAll K fnm S' H' G' vs ds
  | _, _, .nil => .nil
  | _, _, .cons e c r t => .cons e (c.keep k) (r.keep k) (KvAll.keep k t)
theorem FsAll.keep (k : Keep S H G S' H' G') : ∀ {vs ds}, FsAll K fnm S H G vs ds → FsAll K fnm S' H' G' vs ds
  | _, _, .nil => .nil
  | _, _, .cons r t => .cons (r.keep k) (FsAll.keep k t)
theorem CellOk.keep (k : Keep S H G S' H' G') {a : Addr} (e : H' a = H a) {c : HC} (h : CellOk K fnm clm S H G a c) : CellOk K fnm clm S' H' G' a c := by
  cases c with
  | lst ds => obtain ⟨vs, h1, h2, h3⟩ := h; exact ⟨vs, e.trans h1, h2, h3.keep k⟩
  | dct ds => obtain ⟨vs, h1, h3⟩ := h; exact ⟨vs, e.trans h1, h3.keep k⟩
  | ins C fs => obtain ⟨c, dx, vs, h0, h1, h3⟩ := h; exact ⟨c, dx, vs, h0, e.trans h1, h3.keep k⟩
theorem RndAt.keep (k : Keep S H G S' H' G') {a : Addr} (e : H' a = H a) (h : RndAt H G S a) : RndAt H' G' S' a := by
  obtain ⟨q, ns, x, y, m, h1, h2, h3, h4, h5⟩ := h
  obtain ⟨k1, k2, k3⟩ := k.un _ _ h2 h3 h4
  exact ⟨q, ns, x, y, m, e.trans h1, k1, k2, k3, h5⟩
theorem CellOk.step (R : Hel K fnm clm S H G) (st : Step S H G S' H' G') {a : Addr} (e : H' a = H a) {c : HC} (h : CellOk K fnm clm S H G a c) : CellOk K fnm clm S' H' G' a c := h.keep (.of R st) e
theorem RndAt.step (R : Hel K fnm clm S H G) (st : Step S H G S' H' G') {a : Addr} (e : H' a = H a) (h : RndAt H G S a) : RndAt H' G' S' a := h.keep (.of R st) e
theorem Hel.there (R : Hel K fnm clm S H G) {a : Addr} (h : G a ≠ none ∨ S a ≠ none) : H a ≠ none := fun e => by
  rcases h with h | h
  · cases q : G a with
    | none => exact h q
    | some c =>
      have z := R.cell a c q
      cases c with
      | lst ds => obtain ⟨vs, h1, _⟩ := z; rw [e] at h1; cases h1
      | dct ds => obtain ⟨vs, h1, _⟩ := z; rw [e] at h1; cases h1
      | ins C fs => obtain ⟨c, dx, vs, h0, h1, h3⟩ := z; rw [e] at h1; cases h1
  · cases q : S a with
    | none => exact h q
    | some b =>
      cases b with
      | true =>
        obtain ⟨_, q, ns, x, k, m, h1, _⟩ := R.rnd a q
        rw [e] at h1; cases h1
      | false => exact (R.res a q).2 e
theorem Hel.free (R : Hel K fnm clm S H G) {p : Addr} (h : H p = none) : G p = none ∧ S p = none :=
  ⟨Classical.byContradiction fun z => R.there (.inl z) h, Classical.byContradiction fun z => R.there (.inr z) h⟩
theorem upd_there {p a : Addr} {o : HO} (h : upd H p o a = none) : H a = none := by
  unfold upd at h
  split at h
  · cases h
  · exact h
/-- a new object that is no live one -/
theorem Step.newU {p : Addr} {o : HO} (h : H p = none) : Step S H G S (upd H p o) G :=
  ⟨fun a u e _ _ => by rw [upd_ne (ne_of_none e h)]; exact e, fun _ _ h => h, fun _ h => h.elim .inl fun x => .inr (.inl x), fun _ h => .inl h, fun _ h => upd_there h⟩
/-- the rest of a heap's facts, where the live ones and the streams stand as they were -/
theorem Hel.kept (R : Hel K fnm clm S H G) (st : Step S H G S H' G) (ne : ∀ a, (G a ≠ none ∨ S a = some true) → H' a = H a) : Hel K fnm clm S H' G := by
  refine ⟨fun a c e => (R.cell a c e).step R st (ne a (.inl (by rw [e]; simp))), fun a e => ?_, fun a e => ?_⟩
  · obtain ⟨g, r⟩ := R.rnd a e
    exact ⟨g, r.step R st (ne a (.inr e))⟩
  · obtain ⟨g, r⟩ := R.res a e
    exact ⟨g, fun z => r (st.there a z)⟩
theorem Hel.newU (R : Hel K fnm clm S H G) {p : Addr} {o : HO} (h : H p = none) : Hel K fnm clm S (upd H p o) G := by
  refine R.kept (Step.newU h) fun a z => upd_ne fun e => R.there (a := a) ?_ (by rw [e]; exact h)
  rcases z with z | z
  · exact .inl z
  · exact .inr (by rw [z]; simp)
/-- a new live object -/
theorem Step.new {p : Addr} {o : HO} {c : HC} (h : H p = none) : Step S H G S (upd H p o) (updD G p c) := by
  refine ⟨fun a u e _ _ => by rw [upd_ne (ne_of_none e h)]; exact e, fun _ _ h => h, fun a z => ?_, fun _ h => .inl h, fun _ h => upd_there h⟩
  by_cases q : a = p
  · exact .inr (.inr (by rw [q]; exact h))
  · rw [updD_ne q] at z
    exact z.elim .inl fun x => .inr (.inl x)
theorem Hel.put (R : Hel K fnm clm S H G) {p : Addr} {vs : List V} {ds : List D} (st : Step S H G S (upd H p (.lst vs)) (updD G p (.lst ds))) (ns : S p = none) (z : vs.length ≤ sizeLine) (r : DatAll K fnm S H G vs ds) :
    Hel K fnm clm S (upd H p (.lst vs)) (updD G p (.lst ds)) := by
  refine ⟨fun a c e => ?_, fun a e => ?_, fun a e => ?_⟩
  · by_cases q : a = p
    · subst q
      rw [updD_same] at e; cases e
      exact ⟨vs, upd_same, z, r.step R st⟩
    · rw [updD_ne q] at e
      exact (R.cell a c e).step R st (upd_ne q)
  · obtain ⟨g, r⟩ := R.rnd a e
    have q : a ≠ p := fun z => by rw [z, ns] at e; cases e
    exact ⟨by rw [updD_ne q]; exact g, r.step R st (upd_ne q)⟩
  · obtain ⟨g, r⟩ := R.res a e
    have q : a ≠ p := fun z => by rw [z, ns] at e; cases e
    exact ⟨by rw [updD_ne q]; exact g, by rw [upd_ne q]; exact r⟩
theorem Hel.newL (R : Hel K fnm clm S H G) {p : Addr} {vs : List V} {ds : List D} (h : H p = none) (z : vs.length ≤ sizeLine) (r : DatAll K fnm S H G vs ds) :
    Hel K fnm clm S (upd H p (.lst vs)) (updD G p (.lst ds)) := R.put (Step.new h) (R.free h).2 z r
/-- a live object is changed -/
theorem Step.write {p : Addr} {o : HO} {c : HC} (h : G p ≠ none) : Step S H G S (upd H p o) (updD G p c) := by
  refine ⟨fun a u e g _ => by rw [upd_ne (fun z => h (by rw [← z]; exact g))]; exact e, fun _ _ h => h, fun a z => ?_, fun _ h => .inl h, fun _ h => upd_there h⟩
  by_cases q : a = p
  · exact .inl (by rw [q]; exact h)
  · rw [updD_ne q] at z
    exact z.elim .inl fun x => .inr (.inl x)
theorem Hel.live (R : Hel K fnm clm S H G) {p : Addr} (h : G p ≠ none) : S p = none := by
  cases e : S p with
  | none => rfl
  | some b =>
    cases b with
    | true => exact absurd (R.rnd p e).1 h
    | false => exact absurd (R.res p e).1 h
theorem Hel.writeL (R : Hel K fnm clm S H G) {p : Addr} {vs : List V} {ds : List D} (h : G p ≠ none) (z : vs.length ≤ sizeLine) (r : DatAll K fnm S H G vs ds) :
    Hel K fnm clm S (upd H p (.lst vs)) (updD G p (.lst ds)) := R.put (Step.write h) (R.live h) z r
/-- less is known -/
def Sub (G' G : HD) : Prop := ∀ a c, G' a = some c → G a = some c
theorem Step.less (h : Sub G' G) : Step S H G S H G' := by
  refine ⟨fun _ _ e _ _ => e, fun _ _ h => h, fun a z => ?_, fun _ h => .inl h, fun _ h => h⟩
  rcases z with z | z
  · cases q : G' a with
    | none => exact absurd q z
    | some c => exact .inl (by rw [h a c q]; simp)
  · exact .inr (.inl z)
theorem Sub.no (h : Sub G' G) {a : Addr} (g : G a = none) : G' a = none := by
  cases q : G' a with
  | none => rfl
  | some c => rw [h a c q] at g; cases g
theorem Hel.less (R : Hel K fnm clm S H G) (h : Sub G' G) : Hel K fnm clm S H G' := by
  have st : Step S H G S H G' := Step.less h
  refine ⟨fun a c e => (R.cell a c (h a c e)).step R st rfl, fun a e => ?_, fun a e => ?_⟩
  · obtain ⟨g, r⟩ := R.rnd a e
    exact ⟨h.no g, r.step R st rfl⟩
  · obtain ⟨g, r⟩ := R.res a e
    exact ⟨h.no g, r⟩
theorem sub_del {a : Addr} : Sub (delD G a) G := fun b c e => by
  unfold delD at e
  split at e
  · cases e
  · exact e
theorem Sub.refl : Sub G G := fun _ _ h => h
theorem Sub.upd {p : Addr} {c : HC} (h : G p = none) : Sub G (updD G p c) := fun a o e => by
  rw [updD_ne (fun z => by rw [z, h] at e; cases e)]; exact e
theorem Sub.trans {G1 G2 : HD} (x : Sub G G1) (y : Sub G1 G2) : Sub G G2 := fun a c h => y a c (x a c h)
theorem Sub.emp : Sub emp G := fun a c h => by cases h
end
/-! ### an object kept apart for a while -/
def resS (S : Addr → Option Bool) (p : Addr) : Addr → Option Bool := fun a => if a = p then some false else S a
def unS (S : Addr → Option Bool) (p : Addr) : Addr → Option Bool := fun a => if a = p then none else S a
section
variable {K : PySem.W.Frag} {fnm clm : Nat → Option Addr} {S S' : Addr → Option Bool} {H H' : Hp} {G G' : HD}
theorem Step.reserve {p : Addr} {o : HO} (R : Hel K fnm clm S H G) (h : H p = none) : Step S H G (resS S p) (upd H p o) G := by
  refine ⟨fun a u e _ _ => by rw [upd_ne (ne_of_none e h)]; exact e, fun a b e => ?_, fun a z => ?_, fun a e => ?_, fun _ h => upd_there h⟩
  · unfold resS
    rw [if_neg (fun z => by rw [z, (R.free h).2] at e; cases e)]; exact e
  · unfold resS at z
    rcases z with z | z
    · exact .inl z
    · split at z
      · cases z
      · exact .inr (.inl z)
  · unfold resS at e
    split at e
    · rename_i q; exact .inr (by rw [q]; exact h)
    · exact .inl e
theorem Hel.reserve (R : Hel K fnm clm S H G) {p : Addr} {o : HO} (h : H p = none) : Hel K fnm clm (resS S p) (upd H p o) G := by
  have st : Step S H G (resS S p) (upd H p o) G := Step.reserve R h
  have fr := R.free h
  refine ⟨fun a c e => (R.cell a c e).step R st (upd_ne fun z => by rw [z, fr.1] at e; cases e), fun a e => ?_, fun a e => ?_⟩
  · unfold resS at e
    split at e
    · cases e
    · rename_i q
      obtain ⟨g, r⟩ := R.rnd a e
      exact ⟨g, r.step R st (upd_ne q)⟩
  · by_cases q : a = p
    · subst q; exact ⟨fr.1, by rw [upd_same]; simp⟩
    · unfold resS at e
      rw [if_neg q] at e
      obtain ⟨g, r⟩ := R.res a e
      exact ⟨g, by rw [upd_ne q]; exact r⟩
/-- the object kept apart is changed -/
theorem Keep.change {p : Addr} {o : HO} {vs : List V} (h : H p = some (.lst vs)) (s : S p = some false) : Keep S H G S (upd H p o) G := by
  refine ⟨fun a u e g s' => ⟨by rw [upd_ne (fun z => by rw [z, s] at s'; cases s')]; exact e, g, s'⟩, fun a ws e => ?_, fun a u w e => ?_, fun _ h => h⟩
  · rw [upd_ne (fun z => by rw [z, h] at e; cases e)]; exact e
  · rw [upd_ne (fun z => by rw [z, h] at e; cases e)]; exact e
theorem Hel.change (R : Hel K fnm clm S H G) {p : Addr} {o : HO} {vs : List V} (h : H p = some (.lst vs)) (s : S p = some false) : Hel K fnm clm S (upd H p o) G := by
  have k : Keep S H G S (upd H p o) G := Keep.change h s
  refine ⟨fun a c e => (R.cell a c e).keep k (upd_ne fun z => by rw [z, (R.res p s).1] at e; cases e), fun a e => ?_, fun a e => ?_⟩
  · obtain ⟨g, r⟩ := R.rnd a e
    exact ⟨g, r.keep k (upd_ne fun z => by rw [z, s] at e; cases e)⟩
  · obtain ⟨g, r⟩ := R.res a e
    refine ⟨g, fun z => r (upd_there z)⟩
/-- from before it was there the change is none -/
theorem Step.change {H0 : Hp} {S0 : Addr → Option Bool} {G0 : HD} {p : Addr} {o : HO} (st : Step S0 H0 G0 S H G) (h : H0 p = none) : Step S0 H0 G0 S (upd H p o) G :=
  ⟨fun a u e g s => by rw [upd_ne (ne_of_none e h)]; exact st.stay a u e g s, st.strm, st.own, st.res, fun a z => st.there a (upd_there z)⟩
/-- it is let out -/
theorem Hel.letOut (R : Hel K fnm clm S H G) {p : Addr} (s : S p = some false) : Keep S H G (unS S p) H G ∧ Hel K fnm clm (unS S p) H G := by
  have k : Keep S H G (unS S p) H G := by
    refine ⟨fun a u e g s => ⟨e, g, ?_⟩, fun _ _ e => e, fun _ _ _ e => e, fun a h => ?_⟩
    · unfold unS; split <;> first | rfl | exact s
    · unfold unS; rw [if_neg (fun z => by rw [z, s] at h; cases h)]; exact h
  refine ⟨k, fun a c e => (R.cell a c e).keep k rfl, fun a e => ?_, fun a e => ?_⟩
  · unfold unS at e
    split at e
    · cases e
    · obtain ⟨g, r⟩ := R.rnd a e
      exact ⟨g, r.keep k rfl⟩
  · unfold unS at e
    split at e
    · cases e
    · exact R.res a e
theorem Hel.track (R : Hel K fnm clm S H G) {p : Addr} {vs : List V} {ds : List D} (h : H p = some (.lst vs)) (s : S p = some false) (z : vs.length ≤ sizeLine) (r : DatAll K fnm S H G vs ds) : Hel K fnm clm (unS S p) H (updD G p (.lst ds)) := by
  have k : Keep S H G (unS S p) H (updD G p (.lst ds)) := by
    refine ⟨fun a u e g s' => ?_, fun _ _ e => e, fun _ _ _ e => e, fun a h => ?_⟩
    · have ne : a ≠ p := fun z => by rw [z, s] at s'; cases s'
      refine ⟨e, by rw [updD_ne ne]; exact g, ?_⟩
      unfold unS; split <;> first | rfl | exact s'
    · unfold unS; rw [if_neg (fun z => by rw [z, s] at h; cases h)]; exact h
  refine ⟨fun a c e => ?_, fun a e => ?_, fun a e => ?_⟩
  · by_cases q : a = p
    · subst q
      rw [updD_same] at e; cases e
      exact ⟨vs, h, z, r.keep k⟩
    · rw [updD_ne q] at e
      exact (R.cell a c e).keep k rfl
  · unfold unS at e
    split at e
    · cases e
    · rename_i q
      obtain ⟨g, r⟩ := R.rnd a e
      exact ⟨by rw [updD_ne q]; exact g, r.keep k rfl⟩
  · unfold unS at e
    split at e
    · cases e
    · rename_i q
      obtain ⟨g, r⟩ := R.res a e
      exact ⟨by rw [updD_ne q]; exact g, r⟩
theorem Step.track {H0 : Hp} {S0 : Addr → Option Bool} {G0 : HD} {p : Addr} {c : HC} (st : Step S0 H0 G0 S H G) (h : S0 p = none) (h0 : H0 p = none) : Step S0 H0 G0 (unS S p) H (updD G p c) := by
  refine ⟨st.stay, fun a b e => ?_, fun a z => ?_, fun a e => ?_, st.there⟩
  · unfold unS
    rw [if_neg (fun z => by rw [z, h] at e; cases e)]; exact st.strm a b e
  · by_cases q : a = p
    · exact .inr (.inr (by rw [q]; exact h0))
    · unfold unS at z
      rw [updD_ne q, if_neg q] at z
      exact st.own a z
  · unfold unS at e
    split at e
    · cases e
    · exact st.res a e
theorem Step.letOut {H0 : Hp} {S0 : Addr → Option Bool} {G0 : HD} {p : Addr} (st : Step S0 H0 G0 S H G) (h : S0 p = none) : Step S0 H0 G0 (unS S p) H G := by
  refine ⟨st.stay, fun a b e => ?_, fun a z => ?_, fun a e => ?_, st.there⟩
  · unfold unS
    rw [if_neg (fun z => by rw [z, h] at e; cases e)]; exact st.strm a b e
  · unfold unS at z
    split at z
    · rcases z with z | z
      · exact st.own a (.inl z)
      · cases z
    · exact st.own a z
  · unfold unS at e
    split at e
    · cases e
    · exact st.res a e
end
/-- the slots -/
def SlotOk (K : PySem.W.Frag) (fnm : Nat → Option Addr) (S : Addr → Option Bool) (H : Hp) (G : HD) (σ : List (Option V)) (σD : List (Option D)) : Prop :=
  σ.length = σD.length ∧ ∀ (i : Nat) (d : D), σD[i]? = some (some d) → ∃ v, σ[i]? = some (some v) ∧ Dat K fnm S H G v d
section
variable {K : PySem.W.Frag} {fnm clm : Nat → Option Addr} {S S' : Addr → Option Bool} {H H' : Hp} {G G' : HD} {σ : List (Option V)} {σD : List (Option D)}
theorem SlotOk.step (R : Hel K fnm clm S H G) (st : Step S H G S' H' G') (h : SlotOk K fnm S H G σ σD) : SlotOk K fnm S' H' G' σ σD :=
  ⟨h.1, fun i d e => let ⟨v, h1, h2⟩ := h.2 i d e; ⟨v, h1, h2.step R st⟩⟩
theorem SlotOk.set (h : SlotOk K fnm S H G σ σD) {v : V} {d : D} (r : Dat K fnm S H G v d) (i : Nat) : SlotOk K fnm S H G (σ.set i (some v)) (σD.set i (some d)) := by
  refine ⟨by simp [h.1], fun j e q => ?_⟩
  by_cases hj : i = j
  · subst hj
    by_cases hl : i < σD.length
    · rw [List.getElem?_set_self hl] at q
      cases q
      exact ⟨v, List.getElem?_set_self (by rw [h.1]; exact hl), r⟩
    · rw [List.getElem?_eq_none (by simpa using hl)] at q; cases q
  · rw [List.getElem?_set_ne hj] at q
    obtain ⟨w, h1, h2⟩ := h.2 j e q
    exact ⟨w, by rw [List.getElem?_set_ne hj]; exact h1, h2⟩
theorem SlotOk.wipe1 (h : SlotOk K fnm S H G σ σD) (i : Nat) : SlotOk K fnm S H G (σ.set i none) (σD.set i none) := by
  refine ⟨by simp [h.1], fun j e q => ?_⟩
  by_cases hj : i = j
  · subst hj
    by_cases hl : i < σD.length
    · rw [List.getElem?_set_self hl] at q; cases q
    · rw [List.getElem?_eq_none (by simpa using hl)] at q; cases q
  · rw [List.getElem?_set_ne hj] at q
    obtain ⟨w, h1, h2⟩ := h.2 j e q
    exact ⟨w, by rw [List.getElem?_set_ne hj]; exact h1, h2⟩
end
end DL

namespace DL
open PySem PySem.Spec PyProof.Rows L2

/-! ## 3. The short language -/
inductive BOp where | add | sub | mul | fdiv | mod | pow | xor | bor | band | shl | shr
inductive COp where | eq | ne | lt | le | gt | ge | isn | nisn | inn | nin | ind | nind
inductive Bf where | len | abs | int | bool | tuple | list | all | any | min | max | sum | ord | str | allT
inductive Mt where | append | extend | pop | index | join | count | sindex | scount | sfind | indexD | tcount
inductive Ty where | non | bool | int | str | tuple | list | dict
  deriving DecidableEq
inductive Tgt where | n (i : Nat) | t (ts : List Tgt)
mutual
inductive E where
  | var (i : Nat) | con (d : D) | glb (i : Nat)
  | bin (z : Bool) (o : BOp) (a b : E) | neg (a : E) | nt (a : E) | boo (b : Bool) (es : Es)
  | cmp (o : COp) (a b : E) | chn (o p : COp) (a b c : E) | ife (t : T) (a b : E)
  | tup (es : Es) | lst (z : Bool) (es : Es) | idx (a b : E) | sl (z : Bool) (a lo hi : E) | no
  | call (f : Nat) (es : Es) | bf (z : Bool) (f : Bf) (es : Es) | isi (a : E) (ts : List Ty)
  | mt (m : Mt) (o : E) (es : Es)
  | lc (z : Bool) (e : E) (g : Tgt) (it : I) (c : T) (own : List (Str × Nat))
  | frz (a : E) | frD (n : Nat) (a : E) | lzp (z : Bool) (es : Es) | rg1 (z t : Bool) (a : E) | rg2 (z t : Bool) (a b : E)
  | dlen (e v : E) (g : Tgt) (it : I) (c : T) (own : List (Str × Nat))
  | rep (a : E) | dix (a b : E) | isc (i : Nat) (c : Option Nat)
  | lcl (z : Bool) (e : E) (g : Tgt) (a : E) (c : T) (own : List (Str × Nat))
  | dcx (ks : List (List Nat)) (es : Es) (b : E)
  | gdx (g : Nat) (b : E)
  | fld (c : Nat) (a : E) (f : Str) | mcl (c : Nat) (m : Str) (i : Nat) (o : E) (es : Es) | mak (c i : Nat) (es : Es)
inductive Es where | n | c (e : E) (es : Es)
inductive T where
  | of (e : E) | nt (t : T) | bo (b : Bool) (ts : Ts) | cmp (o : COp) (a b : E) | chn (o p : COp) (a b c : E) | yes
inductive Ts where | n | c (t : T) (ts : Ts)
inductive I where
  | of (e : E) | rng (es : Es) | enu (e : E) | zip (es : Es) | rev (e : E)
end
/-- an except clause's suite -/
inductive SU where
  | n | set (i : Nat) (e : E) (r : SU) | ret (e : E) | ifr (t : T) (e : E) (r : SU)
mutual
inductive S where
  | set (i : Nat) (e : E) | asg (g : Tgt) (e : E) | setI (o i e : E) | aug (i : Nat) (o : BOp) (e : E)
  | ex (e : E) | ret (e : E) | retN | ite (t : T) (a b : Ss) | for_ (g : Tgt) (it : I) (b : Ss) | forL (g : Tgt) (a : E) (b : Ss) | whl (t : T) (b : Ss)
  | brk | cnt | pas | rai (x : Nat)
  | setF (c : Nat) (o : E) (f : Str) (e : E) | augF (c : Nat) (o : E) (f : Str) (e : E)
  | fz (i : Nat) | tri (b : Ss) (x : Nat) (n : Option Nat) (h : SU)
inductive Ss where | n | c (s : S) (ss : Ss)
end

/-! ## 4. What it means -/
abbrev StD := List (Option D)
abbrev KD := D → HD → Prop
abbrev KX := Nat → HD → Prop
abbrev SpD := List D → HD → KD → KX → Prop
structure Gam where
  sp : Nat → SpD
  gl : Nat → D
  /-- is a class below another one? -/
  sb : Nat → Nat → Bool := fun _ _ => false
  /-- the exception that is handled, its class -/
  xc : Option (Addr × Nat) := none
/-- is y below the class c (none: ValueError)? -/
def Gam.isb (Γ : Gam) (y : Nat) : Option Nat → Bool
  | none => true
  | some c => Γ.sb y c
def ok {α : Type} (o : Option α) (k : α → Prop) : Prop := match o with | some a => k a | none => False
@[simp] theorem ok_some {α : Type} (a : α) (k : α → Prop) : ok (some a) k = k a := rfl
@[simp] theorem ok_none {α : Type} (k : α → Prop) : ok none k = False := rfl
abbrev lim : Nat := 16777216
def seqOf : D → HD → Option (List D)
  | .lst ds, _ => some ds
  | .scr ds, _ => some ds
  | .ref a, H => match H a with | some (.lst ds) => some ds | _ => none
  | _, _ => none
/-- a list of the heap -/
def seqH : D → HD → Option (List D)
  | .lst ds, _ => some ds
  | .ref a, H => match H a with | some (.lst ds) => some ds | _ => none
  | _, _ => none
/-- a tuple's or a list's items -/
def itms (d : D) (H : HD) : Option (List D) := match d with
  | .tup ds => some ds
  | .tpl ds => some ds
  | d => seqOf d H
/-- .. what tuple(x) is made of -/
def itmT (d : D) (H : HD) : Option (List D) := match d with
  | .tup ds => some ds
  | d => seqOf d H
def lenD (d : D) (H : HD) : Option Nat := match d with
  | .str s => some s.length
  | .tup ds => some ds.length
  | .tpl ds => some ds.length
  | d => match seqOf d H with
    | some ds => some ds.length
    | none => match d with
      | .ref a => match H a with | some (.dct kvs) => some kvs.length | _ => none
      | _ => none
def truth (d : D) (H : HD) : Option Bool := match d with
  | .non => some false
  | .bl b => some b
  | .int i => some (i != 0)
  | d => match lenD d H with
    | some n => some (n != 0)
    | none => none
mutual
def py : D → Option PyData
  | .non => some .none
  | .bl b => some (.bool b)
  | .int i => some (.int i)
  | .str s => some (.str (mkStr s))
  | .tup ds => match pys ds with | some xs => some (.tuple xs) | none => none
  | .tpl ds => match pys ds with | some xs => some (.tuple xs) | none => none
  | .lst ds => match pys ds with | some xs => some (.list xs) | none => none
  | .scr ds => match pys ds with | some xs => some (.list xs) | none => none
  | _ => none
def pys : List D → Option (List PyData)
  | [] => some []
  | d :: ds => match py d, pys ds with | some x, some xs => some (x :: xs) | _, _ => none
end
def pyT (d : D) (H : HD) : Option PyData := match d with
  | .ref a => match H a with
    | some (.lst ds) => (match pys ds with | some xs => some (.list xs) | none => none)
    | _ => none
  | d => py d
def eqD (x y : D) (H : HD) : Option Bool := match pyT x H, pyT y H with
  | some a, some b => if min a.depth b.depth ≤ 64 then some (PyData.eqv a b) else none
  | _, _ => none
def flatD : D → Bool
  | .non | .bl _ | .int _ | .str _ => true
  | _ => false
/-- == of flat values -/
def eqF : D → D → Bool
  | .non, .non => true
  | .bl a, .bl b => a == b
  | .bl a, .int b => (if a then 1 else 0) == b
  | .int a, .bl b => a == (if b then 1 else 0)
  | .int a, .int b => a == b
  | .str a, .str b => a == b
  | _, _ => false
def inD (x y : D) (H : HD) : Option Bool := match y with
  | .str t => match x with
    | .str [c] => some (decide (c ∈ t))
    | _ => none
  | y => match itms y H with
    | some ds => if (flatD x && ds.all flatD) = true then some (ds.any fun z => eqF z x) else none
    | none => none
/-- in, of data -/
def indD (x y : D) : Option Bool := match py x, py y with
  | some d, some (.list xs) => if min (PyData.depthAll xs) d.depth ≤ 60 then some (xs.any fun z => PyData.eqv z d) else none
  | some d, some (.tuple xs) => if min (PyData.depthAll xs) d.depth ≤ 60 then some (xs.any fun z => PyData.eqv z d) else none
  | _, _ => none
def cmpD (o : COp) (x y : D) (H : HD) : Option Bool := match o with
  | .eq => eqD x y H
  | .ne => (eqD x y H).map (!·)
  | .lt => match x, y with | .int i, .int j => some (decide (i < j)) | _, _ => none
  | .le => match x, y with | .int i, .int j => some (decide (i ≤ j)) | _, _ => none
  | .gt => match x, y with | .int i, .int j => some (decide (j < i)) | _, _ => none
  | .ge => match x, y with | .int i, .int j => some (decide (j ≤ i)) | _, _ => none
  | .isn => match y with | .non => (match x with | .non => some true | _ => some false) | .bl b => (match x with | .bl a => some (decide (a = b)) | _ => none) | _ => none
  | .nisn => match y with | .non => (match x with | .non => some false | _ => some true) | .bl b => (match x with | .bl a => some (!decide (a = b)) | _ => none) | _ => none
  | .inn => inD x y H
  | .nin => (inD x y H).map (!·)
  | .ind => indD x y
  | .nind => (indD x y).map (!·)
def newL (z : Bool) (ds : List D) (H : HD) (Q : KD) : Prop := match z with
  | true => Q (.lst ds) H
  | false => ∀ p, H p = none → Q (.ref p) (updD H p (.lst ds))
@[simp] theorem newL_t {ds : List D} {H : HD} {Q : KD} : newL true ds H Q = Q (.lst ds) H := rfl
theorem newL_f {ds : List D} {H : HD} {Q : KD} : newL false ds H Q = ∀ p, H p = none → Q (.ref p) (updD H p (.lst ds)) := rfl
def binD (z : Bool) (o : BOp) (x y : D) (H : HD) (Q : KD) : Prop := match o with
  | .add => match x, y with
    | .int i, .int j => Q (.int (i + j)) H
    | .str s, .str t => s.length + t.length ≤ lim ∧ Q (.str (s ++ t)) H
    | .tup s, .tup t => s.length + t.length ≤ lim ∧ Q (.tup (s ++ t)) H
    | x, y => ok (seqH x H) fun a => ok (seqH y H) fun b => a.length + b.length ≤ lim ∧ newL z (a ++ b) H Q
  | .sub => match x, y with | .int i, .int j => Q (.int (i - j)) H | _, _ => False
  | .mul => match x, y with
    | .int i, .int j => ((-18446744073709551616 < i ∧ i < 18446744073709551616) ∨ (-18446744073709551616 < j ∧ j < 18446744073709551616)) ∧ Q (.int (i * j)) H
    | .str s, .int n => (0 ≤ n ∧ n ≤ lim) ∧ s.length * n.toNat ≤ lim ∧ Q (.str (List.replicate n.toNat s).flatten) H
    | x, .int n => ok (seqH x H) fun a => (0 ≤ n ∧ n ≤ lim) ∧ a.length * n.toNat ≤ lim ∧ newL z (List.replicate n.toNat a).flatten H Q
    | _, _ => False
  | .fdiv => match x, y with | .int i, .int j => (0 < j ∧ j < 2 ^ 200) ∧ Q (.int (i / j)) H | _, _ => False
  | .mod => match x, y with | .int i, .int j => 0 < j ∧ Q (.int (i % j)) H | _, _ => False
  | .pow => match x, y with | .int i, .int j => (0 ≤ j ∧ j ≤ 1000000 ∧ i.natAbs < 2 ^ 64) ∧ Q (.int (i ^ j.toNat)) H | _, _ => False
  | .xor => match x, y with | .int i, .int j => Q (.int (Builtin.bitXor i j)) H | _, _ => False
  | .bor => match x, y with | .int i, .int j => Q (.int (Builtin.bitOr i j)) H | _, _ => False
  | .band => match x, y with | .int i, .int j => Q (.int (Builtin.bitAnd i j)) H | _, _ => False
  | .shl => match x, y with | .int i, .int j => (0 ≤ j ∧ j ≤ 1000000 ∧ i.natAbs < 2 ^ 64) ∧ Q (.int (i * 2 ^ j.toNat)) H | _, _ => False
  | .shr => match x, y with | .int i, .int j => 0 ≤ j ∧ Q (.int (i / 2 ^ j.toNat)) H | _, _ => False
def idxD (x i : D) (H : HD) : Option D := match i with
  | .int i => match x with
    | .str s => (atI s i).map fun c => .str [c]
    | x => match itms x H with
      | some ds => atI ds i
      | none => none
  | _ => none
def cutL {α : Type} (xs : List α) (lo hi : Option Int) : List α := (xs.drop (HT.sIx xs.length 0 lo)).take (HT.sIx xs.length xs.length hi - HT.sIx xs.length 0 lo)
def slD (z : Bool) (x : D) (lo hi : Option Int) (H : HD) (Q : KD) : Prop := match x with
  | .str s => Q (.str (cutL s lo hi)) H
  | .tup ds => Q (.tup (cutL ds lo hi)) H
  | x => ok (seqOf x H) fun ds => newL z (cutL ds lo hi) H Q
def tyD (d : D) (H : HD) : Option Ty := match d with
  | .non => some .non
  | .bl _ => some .bool
  | .int _ => some .int
  | .str _ => some .str
  | .tup _ => some .tuple
  | .tpl _ => some .tuple
  | .lst _ => some .list
  | .scr _ => some .list
  | .ref a => match H a with
    | some (.lst _) => some .list
    | some (.dct _) => some .dict
    | _ => none
  | _ => none
def isTy : Ty → Ty → Bool
  | .bool, .int => true
  | a, b => decide (a = b)
def blsOf : List D → Option (List Bool)
  | [] => some []
  | .bl b :: ds => (blsOf ds).map (b :: ·)
  | _ => none
/-- lists: whether each bears something -/
def lsbOf : List D → HD → Option (List Bool)
  | [], _ => some []
  | d :: ds, H => match seqOf d H, lsbOf ds H with
    | some es, some bs => some ((!es.isEmpty) :: bs)
    | _, _ => none
def intsOf : List D → Option (List Int)
  | [] => some []
  | .int b :: ds => (intsOf ds).map (b :: ·)
  | _ => none
def strsOf : List D → Option (List (List Nat))
  | [] => some []
  | .str b :: ds => (strsOf ds).map (b :: ·)
  | _ => none
def joinL (sep : List Nat) : List (List Nat) → List Nat
  | [] => []
  | [x] => x
  | x :: y :: r => x ++ sep ++ joinL sep (y :: r)
/-- a value's text: may it be told? -/
def shOk (p : PyData) : Prop := p.showable = true ∧ p.depth ≤ 64 ∧ p.shown.length ≤ lim ∧ PyData.strOk p.shown = true
/-- pairs of a text and a value -/
def prsD : List D → Option (List (List Nat × D))
  | [] => some []
  | .tup [.str s, v] :: ds => (prsD ds).map ((s, v) :: ·)
  | _ => none
/-- dict(pairs)[k] -/
def drsD : D → Option (List (List Nat × D))
  | .tup ds => match prsD ds with
    | some ps => if (ps.map Prod.fst).Nodup then some ps else none
    | none => none
  | _ => none
def dgtD (ps : List (List Nat × D)) : D → Option D
  | .str s => (ps.find? fun p => decide (p.1 = s)).map Prod.snd
  | _ => none
/-- a field of an instance of the class c -/
def attD (c : Nat) (f : Str) (x : D) (H : HD) : Option D := match x with
  | .ref a => match H a with
    | some (.ins c' fs) => if c' = c then fs.lookup f else none
    | _ => none
  | _ => none
/-- an instance of c, no field of this name -/
def insB (c : Nat) (m : Str) (x : D) (H : HD) : Bool := match x with
  | .ref a => match H a with
    | some (.ins c' fs) => decide (c' = c) && (fs.lookup m).isNone
    | _ => false
  | _ => false
def putFD (f : Str) (d : D) : List (Str × D) → List (Str × D)
  | [] => [(f, d)]
  | (g, e) :: r => if g = f then (g, d) :: r else (g, e) :: putFD f d r
def setFD (c : Nat) (f : Str) (x d : D) (H : HD) (Q : HD → Prop) : Prop := match x with
  | .ref a => match H a with
    | some (.ins c' fs) => (c' = c ∧ fs.length < 1000) ∧ Q (updD H a (.ins c (putFD f d fs)))
    | _ => False
  | _ => False
def bfD (z : Bool) (f : Bf) (ds : List D) (H : HD) (Q : KD) : Prop := match f, ds with
  | .len, [x] => ok (lenD x H) fun n => Q (.int n) H
  | .abs, [.int i] => Q (.int i.natAbs) H
  | .int, [.int i] => Q (.int i) H
  | .int, [.bl b] => Q (.int (if b then 1 else 0)) H
  | .bool, [.bl b] => Q (.bl b) H
  | .bool, [.int i] => Q (.bl (i != 0)) H
  | .tuple, [x] => ok (itmT x H) fun ds => Q (.tup ds) H
  | .list, [x] => ok (itms x H) fun ds => newL z ds H Q
  | .all, [x] => ok (seqOf x H) fun ds => ok (blsOf ds) fun bs => Q (.bl (bs.all id)) H
  | .any, [x] => ok (seqOf x H) fun ds => ok (blsOf ds) fun bs => Q (.bl (bs.any id)) H
  | .allT, [x] => ok (seqOf x H) fun ds => ok (lsbOf ds H) fun bs => Q (.bl (bs.all id)) H
  | .min, [.int i, .int j] => Q (.int (if j < i then j else i)) H
  | .max, [.int i, .int j] => Q (.int (if j > i then j else i)) H
  | .min, [x] => ok (seqOf x H) fun ds => ok (intsOf ds) fun ns => 0 < ns.length ∧ ∀ m, m ∈ ns → (∀ y, y ∈ ns → m ≤ y) → Q (.int m) H
  | .max, [x] => ok (seqOf x H) fun ds => ok (intsOf ds) fun ns => 0 < ns.length ∧ ∀ m, m ∈ ns → (∀ y, y ∈ ns → y ≤ m) → Q (.int m) H
  | .sum, [x] => ok (seqOf x H) fun ds => ok (intsOf ds) fun ns => Q (.int ns.sum) H
  | .ord, [.str [c]] => Q (.int c) H
  | .str, [.int i] => i.natAbs.log2 < 1920 ∧ (∀ s : List Nat, mkStr s = Str.ofString (toString i) → Q (.str s) H)
  | _, _ => False
def mtD (m : Mt) (o : D) (es : List D) (H : HD) (Q : KD) : Prop := match m, o, es with
  | .append, .ref a, [d] => (match H a with | some (.lst ds) => ds.length < lim ∧ Q .non (updD H a (.lst (ds ++ [d]))) | _ => False)
  | .extend, .ref a, [x] => (match H a with | some (.lst ds) => ok (seqH x H) fun es => ds.length + es.length ≤ lim ∧ Q .non (updD H a (.lst (ds ++ es))) | _ => False)
  | .pop, .ref a, [] => (match H a with | some (.lst ds) => ok ds.getLast? fun d => Q d (updD H a (.lst ds.dropLast)) | _ => False)
  | .pop, .ref a, [.int i] => (match H a with | some (.lst ds) => (0 ≤ i ∧ i < ds.length) ∧ ok (ds[i.toNat]?) fun d => Q d (updD H a (.lst (ds.eraseIdx i.toNat))) | _ => False)
  | .index, x, [d] => ok (seqOf x H) fun ds => (flatD d && ds.all flatD) = true ∧ ok (ds.findIdx? fun z => eqF z d) fun i => Q (.int (i : Nat)) H
  | .join, .str s, [x] => ok (itms x H) fun ds => ok (strsOf ds) fun ss => (ss.map List.length).sum + ss.length * s.length ≤ lim ∧ Q (.str (joinL s ss)) H
  | .sindex, .str s, [.str t] => ok (Txt.index0 (mkStr s) (mkStr t)) fun i => Q (.int (i : Nat)) H
  | .scount, .str s, [.str t] => Q (.int (Txt.count (mkStr s) (mkStr t))) H
  | .sfind, .str s, [.str t] => Q (.int (Txt.find (mkStr s) (mkStr t))) H
  | .indexD, x, [d] => ok (seqOf x H) fun es => ok (pys es) fun xs => ok (py d) fun e => min (PyData.depthAll xs) e.depth ≤ 60 ∧ ok (xs.findIdx? fun z => PyData.eqv z e) fun i => Q (.int (i : Nat)) H
  | .tcount, .tup es, [d] => ok (pys es) fun xs => ok (py d) fun e => min (PyData.depthAll xs) e.depth ≤ 60 ∧ Q (.int ((xs.countP fun z => PyData.eqv z e : Nat) : Int)) H
  | _, _, _ => False
/-- what a method is called of -/
def rcv (m : Mt) (x : D) (H : HD) : Bool := match m with
  | .append | .extend | .pop | .index | .count | .indexD => (seqOf x H).isSome
  | .tcount => match x with | .tup _ => true | _ => false
  | .join | .sindex | .scount | .sfind => match x with | .str _ => true | _ => false
def frzD (d : D) (H : HD) (Q : KD) : Prop := match d with
  | .ref a => (match H a with | some (.lst ds) => Q (.lst ds) (delD H a) | _ => False)
  | d => Q d H
def frL (f : D → HD → Option (D × HD)) : List D → HD → Option (List D × HD)
  | [], H => some ([], H)
  | d :: ds, H => match f d H with
    | some (e, H1) => match frL f ds H1 with
      | some (es, H2) => some (e :: es, H2)
      | none => none
    | none => none
/-- frozen, and so is what lies in it -/
def frDp : Nat → D → HD → Option (D × HD)
  | 0, d, H => some (d, H)
  | n + 1, .ref a, H => match H a with
    | some (.lst ds) => match frL (frDp n) ds (delD H a) with
      | some (es, H') => some (.lst es, H')
      | none => none
    | _ => none
  | n + 1, .tup ds, H => match frL (frDp n) ds H with
    | some (es, H') => some (.tup es, H')
    | none => none
  | _ + 1, d, H => some (d, H)
/-- list(zip(s, t)), s and t tuples -/
def zip2T (ds : List D) : Option (List D × List D) := match ds with
  | [.tup xs, .tup ys] => some (xs, ys)
  | _ => none
mutual
def asg : Tgt → D → StD → Option StD
  | .n i, d, σ => some (σ.set i (some d))
  | .t ts, .tup ds, σ => asgs ts ds σ
  | .t ts, .tpl ds, σ => asgs ts ds σ
  | .t _, _, _ => none
def asgs : List Tgt → List D → StD → Option StD
  | [], [], σ => some σ
  | g :: gs, d :: ds, σ => match asg g d σ with | some σ' => asgs gs ds σ' | none => none
  | _, _, _ => none
end
def wipeD (σ : StD) : List Nat → StD
  | [] => σ
  | v :: vs => (wipeD σ vs).set v none
/-- what may be walked in a for or a comprehension: it doesn't change meanwhile -/
def walkD : D → Option (List D)
  | .tup ds => some ds
  | .tpl ds => some ds
  | .lst ds => some ds
  | .scr ds => some ds
  | .str s => some (s.map fun c => .str [c])
  | _ => none
/-- .. a live list too, where it stays as it is -/
def lvD (d : D) (H : HD) : Option (List D) := match d with
  | .ref a => match H a with | some (.lst ds) => some ds | _ => none
  | d => walkD d
def gdD (d : D) (ds : List D) (H : HD) : Prop := match d with
  | .ref a => H a = some (.lst ds)
  | _ => True
/-- what may be walked for enumerate, zip, reversed -/
def fixD : D → Option (List D)
  | .tup ds => some ds
  | .lst ds => some ds
  | .scr ds => some ds
  | _ => none
def rngD (ds : List D) : Option (Int × Nat × Int) := match ds with
  | [.int j] => if -4611686018427387904 ≤ j ∧ j < 4611686018427387904 then some (0, j.toNat, 1) else none
  | [.int i, .int j] => if (-4611686018427387904 ≤ i ∧ i < 4611686018427387904) ∧ (-4611686018427387904 ≤ j ∧ j < 4611686018427387904) then some (i, (j - i).toNat, 1) else none
  | [.int i, .int j, .int c] => if ((-4611686018427387904 ≤ i ∧ i < 4611686018427387904) ∧ (-4611686018427387904 ≤ j ∧ j < 4611686018427387904)) ∧ c = -1 then some (i, (i - j).toNat, -1) else none
  | _ => none
def rngF (c : Int) : Nat → Int → List D
  | 0, _ => []
  | n + 1, lo => .int lo :: rngF c n (lo + c)
def rngL (r : Int × Nat × Int) : List D := rngF r.2.2 r.2.1 r.1
/-- tuple(range(i, j)), list(range(i, j)) -/
def rgD (z t : Bool) (i j : Int) (H : HD) (Q : KD) : Prop := ((-4611686018427387904 ≤ i ∧ i < 4611686018427387904) ∧ (-4611686018427387904 ≤ j ∧ j < 4611686018427387904)) ∧ (j - i).toNat ≤ lim ∧
  match t with
  | true => Q (.tup (rngL (i, (j - i).toNat, 1))) H
  | false => newL z (rngL (i, (j - i).toNat, 1)) H Q
def enuF : Nat → List D → List D
  | _, [] => []
  | k, d :: ds => .tpl [.int (k : Nat), d] :: enuF (k + 1) ds
def enuL (ds : List D) : List D := enuF 0 ds
def zip2L : List D → List D → List D
  | x :: xs, y :: ys => .tpl [x, y] :: zip2L xs ys
  | _, _ => []
def zipD (ds : List D) : Option (List D) := match ds with
  | [.lst xs, .lst ys] => some (zip2L xs ys)
  | [.lst xs, .scr ys] => some (zip2L xs ys)
  | [.scr xs, .lst ys] => some (zip2L xs ys)
  | [.scr xs, .scr ys] => some (zip2L xs ys)
  | [.tup xs, .tup ys] => some (zip2L xs ys)
  | [.lst xs, .tup ys] => some (zip2L xs ys)
  | [.tup xs, .lst ys] => some (zip2L xs ys)
  | _ => none
/-- {k: v, ..}[y], keys texts -/
def dcxD (ks : List (List Nat)) (ds : List D) (y : D) : Option D := match y with
  | .str s => ((ks.zip ds).find? fun p => decide (p.1 = s)).map (·.2)
  | _ => none
/-- a module's own dict, its keys texts: as data a tuple of pairs -/
def dPL : List D → List (List Nat × D)
  | .tup [.str k, v] :: r => (k, v) :: dPL r
  | _ => []
def dPairs : D → List (List Nat × D)
  | .tup ps => dPL ps
  | _ => []
def dctD (t y : D) : Option D := match y with
  | .str s => ((dPairs t).find? fun p => decide (p.1 = s)).map (·.2)
  | _ => none
def isNo : E → Bool
  | .no => true
  | _ => false
/-- an optional part of a slice -/
def wPart (n : Bool) (w : StD → HD → KD → KX → Prop) (σ : StD) (H : HD) (Q : Option Int → HD → Prop) (X : KX) : Prop := match n with
  | true => Q none H
  | false => w σ H (fun d H1 => match d with | .int i => Q (some i) H1 | _ => False) X
/-- the turns of a comprehension -/
def lcD (step : D → HD → (Option D → HD → Prop) → Prop) (Q : List D → HD → Prop) : List D → List D → HD → Prop
  | [], acc, H => Q acc H
  | x :: xs, acc, H => step x H fun r H1 => lcD step Q xs (match r with | some d => acc ++ [d] | none => acc) H1
/-- a dict's keys, one more -/
def insK (acc : List Key) (k : Key) : List Key := if (acc.any fun x => decide (x = k)) = true then acc else acc ++ [k]
/-- the turns of a dict comprehension -/
def dcD (step : D → HD → (Option Key → HD → Prop) → Prop) (Q : List Key → HD → Prop) : List D → List Key → HD → Prop
  | [], acc, H => Q acc H
  | x :: xs, acc, H => step x H fun r H1 => dcD step Q xs (match r with | some k => insK acc k | none => acc) H1
mutual
def wE (Γ : Gam) : E → StD → HD → KD → KX → Prop
  | .var i => fun σ H Q _ => ok (σ.getD i none) fun d => Q d H
  | .con d => fun _ H Q _ => Q d H
  | .glb i => fun _ H Q _ => Q (Γ.gl i) H
  | .bin z o a b => fun σ H Q X => wE Γ a σ H (fun x H1 => wE Γ b σ H1 (fun y H2 => binD z o x y H2 Q) X) X
  | .neg a => fun σ H Q X => wE Γ a σ H (fun x H1 => match x with | .int i => Q (.int (-i)) H1 | _ => False) X
  | .nt a => fun σ H Q X => wE Γ a σ H (fun x H1 => ok (truth x H1) fun b => Q (.bl (!b)) H1) X
  | .boo b es => fun σ H Q X => wBo Γ b es σ H Q X
  | .cmp o a b => fun σ H Q X => wE Γ a σ H (fun x H1 => wE Γ b σ H1 (fun y H2 => ok (cmpD o x y H2) fun c => Q (.bl c) H2) X) X
  | .chn o p a b c => fun σ H Q X => wE Γ a σ H (fun x H1 => wE Γ b σ H1 (fun y H2 => ok (cmpD o x y H2) fun k => match k with
      | true => wE Γ c σ H2 (fun z H3 => ok (cmpD p y z H3) fun k' => Q (.bl k') H3) X
      | false => Q (.bl false) H2) X) X
  | .ife t a b => fun σ H Q X => wT Γ t σ H (fun k H1 => match k with | true => wE Γ a σ H1 Q X | false => wE Γ b σ H1 Q X) X
  | .tup es => fun σ H Q X => wEs Γ es σ H (fun ds H1 => Q (.tup ds) H1) X
  | .lst z es => fun σ H Q X => wEs Γ es σ H (fun ds H1 => newL z ds H1 Q) X
  | .idx a b => fun σ H Q X => wE Γ a σ H (fun x H1 => wE Γ b σ H1 (fun y H2 => ok (idxD x y H2) fun d => Q d H2) X) X
  | .sl z a lo hi => fun σ H Q X => wE Γ a σ H (fun x H1 => wPart (isNo lo) (wE Γ lo) σ H1 (fun l H2 => wPart (isNo hi) (wE Γ hi) σ H2 (fun h H3 => slD z x l h H3 Q) X) X) X
  | .no => fun _ _ _ _ => False
  | .call f es => fun σ H Q X => wEs Γ es σ H (fun ds H1 => Γ.sp f ds H1 Q X) X
  | .bf z f es => fun σ H Q X => wEs Γ es σ H (fun ds H1 => bfD z f ds H1 Q) X
  | .isi a ts => fun σ H Q X => wE Γ a σ H (fun x H1 => ok (tyD x H1) fun t => Q (.bl (ts.any fun u => isTy t u)) H1) X
  | .mt m o es => fun σ H Q X => wE Γ o σ H (fun x H1 => rcv m x H1 = true ∧ wEs Γ es σ H1 (fun ds H2 => mtD m x ds H2 Q) X) X
  | .lc z e g it c own => fun σ H Q X => wI Γ it σ H (fun items H1 => lcD (fun x H2 K => ok (asg g x (wipeD σ (own.map (·.2)))) fun σ' =>
      wT Γ c σ' H2 (fun k H3 => match k with | true => wE Γ e σ' H3 (fun d H4 => K (some d) H4) (fun _ _ => False) | false => K none H3) (fun _ _ => False)) (fun acc H2 => newL z acc H2 Q) items [] H1) X
  | .frz a => fun σ H Q X => wE Γ a σ H (fun d H1 => frzD d H1 Q) X
  | .frD n a => fun σ H Q X => wE Γ a σ H (fun d H1 => ok (frDp n d H1) fun r => Q r.1 r.2) X
  | .lzp z es => fun σ H Q X => wEs Γ es σ H (fun ds H1 => ok (zip2T ds) fun r => r.1.length ≤ lim ∧ newL z (zip2L r.1 r.2) H1 Q) X
  | .rg1 z t a => fun σ H Q X => wE Γ a σ H (fun d H1 => match d with | .int j => rgD z t 0 j H1 Q | _ => False) X
  | .rg2 z t a b => fun σ H Q X => wE Γ a σ H (fun d H1 => wE Γ b σ H1 (fun e H2 => match d, e with | .int i, .int j => rgD z t i j H2 Q | _, _ => False) X) X
  | .dix a b => fun σ H Q X => wE Γ a σ H (fun x H1 => ok (drsD x) fun ps => wE Γ b σ H1 (fun y H2 => ok (dgtD ps y) fun d => Q d H2) X) X
  | .isc i c => fun σ H Q _ => match Γ.xc with
    | some (a, y) => σ.getD i none = some (.ref a) ∧ Q (.bl (Γ.isb y c)) H
    | none => False
  | .lcl z e g a c own => fun σ H Q X => wE Γ a σ H (fun d H1 => ok (lvD d H1) fun items => lcD (fun x H2 K => gdD d items H2 ∧ ok (asg g x (wipeD σ (own.map (·.2)))) fun σ' =>
      wT Γ c σ' H2 (fun k H3 => match k with | true => wE Γ e σ' H3 (fun d H4 => K (some d) H4) (fun _ _ => False) | false => K none H3) (fun _ _ => False)) (fun acc H2 => gdD d items H2 ∧ newL z acc H2 Q) items [] H1) X
  | .dcx ks es b => fun σ H Q X => wEs Γ es σ H (fun ds H1 => wE Γ b σ H1 (fun y H2 => ok (dcxD ks ds y) fun d => Q d H2) X) X
  | .gdx g b => fun σ H Q X => wE Γ b σ H (fun y H1 => ok (dctD (Γ.gl g) y) fun d => Q d H1) X
  | .fld c a f => fun σ H Q X => wE Γ a σ H (fun x H1 => ok (attD c f x H1) fun d => Q d H1) X
  | .mcl c m i o es => fun σ H Q X => wE Γ o σ H (fun x H1 => insB c m x H1 = true ∧ wEs Γ es σ H1 (fun ds H2 => Γ.sp i (x :: ds) H2 Q X) X) X
  | .mak c i es => fun σ H Q X => wEs Γ es σ H (fun ds H1 => ∀ p, H1 p = none → Γ.sp i (.ref p :: ds) (updD H1 p (.ins c [])) (fun d H2 => d = .non ∧ Q (.ref p) H2) X) X
  | .rep a => fun σ H Q X => wE Γ a σ H (fun x H1 => ok (pyT x H1) fun p => shOk p ∧ Q (.str p.shown.cps.toList) H1) X
  | .dlen e v g it c own => fun σ H Q X => wI Γ it σ H (fun items H1 => dcD (fun x H2 K => ok (asg g x (wipeD σ (own.map (·.2)))) fun σ' =>
      wT Γ c σ' H2 (fun k H3 => match k with | true => wE Γ e σ' H3 (fun d H4 => wE Γ v σ' H4 (fun _ H5 => ok (keyD d) fun k => K (some k) H5) (fun _ _ => False)) (fun _ _ => False) | false => K none H3) (fun _ _ => False)) (fun acc H2 => Q (.int (acc.length : Nat)) H2) items [] H1) X
def wEs (Γ : Gam) : Es → StD → HD → (List D → HD → Prop) → KX → Prop
  | .n => fun _ H Q _ => Q [] H
  | .c e es => fun σ H Q X => wE Γ e σ H (fun d H1 => wEs Γ es σ H1 (fun ds H2 => Q (d :: ds) H2) X) X
def wBo (Γ : Gam) (b : Bool) : Es → StD → HD → KD → KX → Prop
  | .n => fun _ _ _ _ => False
  | .c e .n => fun σ H Q X => wE Γ e σ H Q X
  | .c e (.c e' es) => fun σ H Q X => wE Γ e σ H (fun d H1 => ok (truth d H1) fun k => if k = b then wBo Γ b (.c e' es) σ H1 Q X else Q d H1) X
def wT (Γ : Gam) : T → StD → HD → (Bool → HD → Prop) → KX → Prop
  | .of e => fun σ H Q X => wE Γ e σ H (fun d H1 => ok (truth d H1) fun b => Q b H1) X
  | .nt t => fun σ H Q X => wT Γ t σ H (fun b H1 => Q (!b) H1) X
  | .bo b ts => fun σ H Q X => wTs Γ b ts σ H Q X
  | .cmp o a b => fun σ H Q X => wE Γ a σ H (fun x H1 => wE Γ b σ H1 (fun y H2 => ok (cmpD o x y H2) fun c => Q c H2) X) X
  | .chn o p a b c => fun σ H Q X => wE Γ a σ H (fun x H1 => wE Γ b σ H1 (fun y H2 => ok (cmpD o x y H2) fun k => match k with
      | true => wE Γ c σ H2 (fun z H3 => ok (cmpD p y z H3) fun k' => Q k' H3) X
      | false => Q false H2) X) X
  | .yes => fun _ H Q _ => Q true H
def wTs (Γ : Gam) (b : Bool) : Ts → StD → HD → (Bool → HD → Prop) → KX → Prop
  | .n => fun _ _ _ _ => False
  | .c t .n => fun σ H Q X => wT Γ t σ H Q X
  | .c t (.c t' ts) => fun σ H Q X => wT Γ t σ H (fun k H1 => if k = b then wTs Γ b (.c t' ts) σ H1 Q X else Q (!b) H1) X
def wI (Γ : Gam) : I → StD → HD → (List D → HD → Prop) → KX → Prop
  | .of e => fun σ H Q X => wE Γ e σ H (fun d H1 => ok (walkD d) fun ds => Q ds H1) X
  | .rng es => fun σ H Q X => wEs Γ es σ H (fun ds H1 => ok (rngD ds) fun r => r.2.1 ≤ lim ∧ Q (rngL r) H1) X
  | .enu e => fun σ H Q X => wE Γ e σ H (fun d H1 => ok (fixD d) fun ds => Q (enuL ds) H1) X
  | .zip es => fun σ H Q X => wEs Γ es σ H (fun ds H1 => ok (zipD ds) fun ds => Q ds H1) X
  | .rev e => fun σ H Q X => wE Γ e σ H (fun d H1 => ok (fixD d) fun ds => Q ds.reverse H1) X
end
structure EndsD where
  nx : StD → HD → Prop
  rt : KD
  bk : StD → HD → Prop := fun _ _ => False
  ct : StD → HD → Prop := fun _ _ => False
  ex : Nat → StD → HD → Prop := fun _ _ _ => False
def wFor (g : Tgt) (body : EndsD → StD → HD → Prop) (D : EndsD) : List DL.D → StD → HD → Prop
  | [], σ, H => D.nx σ H
  | x :: xs, σ, H => ok (asg g x σ) fun σ' => body { D with nx := wFor g body D xs, ct := wFor g body D xs, bk := D.nx } σ' H
/-- .. over a live list that stays as it is -/
def wForL (gd : HD → Prop) (g : Tgt) (body : EndsD → StD → HD → Prop) (D : EndsD) : List DL.D → StD → HD → Prop
  | [], σ, H => gd H ∧ D.nx σ H
  | x :: xs, σ, H => gd H ∧ ok (asg g x σ) fun σ' => body { D with nx := wForL gd g body D xs, ct := wForL gd g body D xs, bk := D.nx } σ' H
def wWhl (t : StD → HD → (Bool → HD → Prop) → Prop) (body : EndsD → StD → HD → Prop) (D : EndsD) (σ : StD) (H : HD) : Prop :=
  ∃ W : Nat → StD → HD → Prop, (∃ m, W m σ H) ∧ ∀ m σ H, W m σ H →
    t σ H fun b H1 => match b with
      | true => body { D with nx := fun σ' H' => ∃ m', m' < m ∧ W m' σ' H', ct := fun σ' H' => ∃ m', m' < m ∧ W m' σ' H', bk := D.nx } σ H1
      | false => D.nx σ H1
def wSU (Γ : Gam) : SU → EndsD → StD → HD → Prop
  | .n => fun D σ H => D.nx σ H
  | .set i e r => fun D σ H => wE Γ e σ H (fun d H1 => wSU Γ r D (σ.set i (some d)) H1) fun _ _ => False
  | .ret e => fun D σ H => wE Γ e σ H D.rt fun _ _ => False
  | .ifr t e r => fun D σ H => wT Γ t σ H (fun k H1 => match k with | true => wE Γ e σ H1 D.rt fun _ _ => False | false => wSU Γ r D σ H1) fun _ _ => False
/-- the exception's name goes away behind the suite -/
def offD (n : Option Nat) (D : EndsD) : EndsD := match n with
  | none => D
  | some i => { D with nx := fun σ H => D.nx (σ.set i none) H, bk := fun σ H => D.bk (σ.set i none) H, ct := fun σ H => D.ct (σ.set i none) H }
def onD (n : Option Nat) (a : Addr) (σ : StD) : StD := match n with
  | none => σ
  | some i => σ.set i (some (.ref a))
mutual
def wS (Γ : Gam) : S → EndsD → StD → HD → Prop
  | .set i e => fun D σ H => wE Γ e σ H (fun d H1 => D.nx (σ.set i (some d)) H1) fun x H1 => D.ex x σ H1
  | .asg g e => fun D σ H => wE Γ e σ H (fun d H1 => ok (asg g d σ) fun σ' => D.nx σ' H1) fun x H1 => D.ex x σ H1
  | .setI o i e => fun D σ H => wE Γ e σ H (fun d H1 => wE Γ o σ H1 (fun x H2 => wE Γ i σ H2 (fun y H3 => match x, y with
      | .ref a, .int k => (match H3 a with | some (.lst ds) => (0 ≤ k ∧ k < ds.length) ∧ D.nx σ (updD H3 a (.lst (ds.set k.toNat d))) | _ => False)
      | _, _ => False) fun x H1 => D.ex x σ H1) fun x H1 => D.ex x σ H1) fun x H1 => D.ex x σ H1
  | .setF c o f e => fun D σ H => wE Γ e σ H (fun d H1 => wE Γ o σ H1 (fun x H2 => setFD c f x d H2 fun H3 => D.nx σ H3) fun x H1 => D.ex x σ H1) fun x H1 => D.ex x σ H1
  | .augF c o f e => fun D σ H => wE Γ o σ H (fun x H1 => ok (attD c f x H1) fun v => wE Γ e σ H1 (fun y H2 => match v, y with
      | .int i, .int j => setFD c f x (.int (i + j)) H2 fun H3 => D.nx σ H3
      | _, _ => False) fun x H1 => D.ex x σ H1) fun x H1 => D.ex x σ H1
  | .aug i o e => fun D σ H => ok (σ.getD i none) fun x => wE Γ e σ H (fun y H1 => match x, y with
      | .int _, .int _ => binD true o x y H1 fun d H2 => D.nx (σ.set i (some d)) H2
      | .str _, .str _ => binD true o x y H1 fun d H2 => D.nx (σ.set i (some d)) H2
      | _, _ => False) fun x H1 => D.ex x σ H1
  | .ex e => fun D σ H => wE Γ e σ H (fun _ H1 => D.nx σ H1) fun x H1 => D.ex x σ H1
  | .ret e => fun D σ H => wE Γ e σ H D.rt fun x H1 => D.ex x σ H1
  | .retN => fun D _ H => D.rt .non H
  | .ite t a b => fun D σ H => wT Γ t σ H (fun k H1 => match k with | true => wSs Γ a D σ H1 | false => wSs Γ b D σ H1) fun x H1 => D.ex x σ H1
  | .for_ g it b => fun D σ H => wI Γ it σ H (fun items H1 => wFor g (wSs Γ b) D items σ H1) fun x H1 => D.ex x σ H1
  | .forL g a b => fun D σ H => wE Γ a σ H (fun d H1 => ok (lvD d H1) fun items => wForL (gdD d items) g (wSs Γ b) D items σ H1) fun x H1 => D.ex x σ H1
  | .whl t b => fun D σ H => wWhl (fun σ H Q => wT Γ t σ H Q fun x H1 => D.ex x σ H1) (wSs Γ b) D σ H
  | .brk => fun D σ H => D.bk σ H
  | .cnt => fun D σ H => D.ct σ H
  | .pas => fun D σ H => D.nx σ H
  | .rai x => fun D σ H => D.ex x σ H
  | .fz i => fun D σ H => ok (σ.getD i none) fun d => frzD d H fun d' H1 => D.nx (σ.set i (some d')) H1
  | .tri b x n h => fun D σ H => wSs Γ b { D with ex := fun y σ' H' => match Γ.sb y x with
      | true => ∀ a, H' a = none → wSU { Γ with xc := some (a, y) } h (offD n D) (onD n a σ') H'
      | false => D.ex y σ' H' } σ H
def wSs (Γ : Gam) : Ss → EndsD → StD → HD → Prop
  | .n => fun D σ H => D.nx σ H
  | .c s ss => fun D σ H => wS Γ s { D with nx := wSs Γ ss D } σ H
end
end DL

namespace DL
open PySem PySem.Spec PyProof.Rows L2
abbrev St' := List (Option V)

/-! ## 5. Contexts and judgements -/
/-- an own class: its name, its instances' fields, its methods (each with its def's place), its __init__'s place -/
structure Oc where
  x : Str
  fds : List Str
  mts : List (Str × Nat)
  ini : Option Nat := none
structure Cfg where
  fns : List (Str × Nat)
  gls : List Str
  cls : List Str
  rp : Bool := false
  ocs : List Oc := []
/-- may repr stand here? -/
def Cfg.no (C : Cfg) : Cfg := { C with rp := false }
def Cfg.yes (C : Cfg) : Cfg := { C with rp := true }
/-- a method's def is told by class.name -/
def dotted (x : Str) : Bool := x.cps.toList.contains 46
def nameOk (x : Str) : Bool := !dotted x && !(x == ("__debug__" : Str)) && !(x == ("__classdict__" : Str)) && !(x == ("__name__" : Str))
def bltNames : List Str := ["len", "abs", "int", "bool", "str", "tuple", "list", "dict", "all", "any", "min", "max", "sum", "ord", "isinstance", "range", "enumerate", "zip", "reversed", "sorted", "repr", "ValueError"]
/-- a def's promise, from one over data -/
def lift (K : PySem.W.Frag) (fnm clm : Nat → Option Addr) (n : Nat) (sp : SpD) : Sp := fun vs H Q E => vs.length = n ∧
  ∃ (S : Addr → Option Bool) (G : HD) (ds : List D) (QD : KD) (XD : KX), Hel K fnm clm S H G ∧ DatAll K fnm S H G vs ds ∧ sp ds G QD XD ∧
    (∀ v S' H' d G', Step S H G S' H' G' → Hel K fnm clm S' H' G' → Dat K fnm S' H' G' v d → QD d G' → Q v H') ∧
    (∀ x c S' H' G', Step S H G S' H' G' → Hel K fnm clm S' H' G' → clm x = some c → XD x G' → E (.ref c) none H')
/-- a def's promise where no repr runs -/
structure FnOkG (P : Program) (w : World) (K : PySem.W.Frag) (mg : Str → Option Value) (base : Heap) (CX : CXT) (k : Nat) (f : Addr) (fd : FuncData) (ps : List Str) (sp : Sp) : Prop where
  len : ∀ vs H Q E, sp vs H Q E → vs.length = ps.length
  run : ∀ (A : Around) (outer : List Env) (s : Shared) (H : Hp) (args : Args) (us : List Value) (vs : List V) (Q : VK) (E : XK), Room k A → A.guards = some [] → Env0 P w K mg base A outer s H → BindsTo s fd args (ps.zip us) → Vals vs us → sp vs H Q E →
    codeAny (model P w) A (.call (.ref f) args) (CR CX outer P w H s Q E) s
theorem FnOkG.mono {P : Program} {w : World} {K : PySem.W.Frag} {mg : Str → Option Value} {base : Heap} {CX : CXT} {j k : Nat} {f : Addr} {fd : FuncData} {ps : List Str} {sp : Sp} (F : FnOkG P w K mg base CX j f fd ps sp) (h : j ≤ k) :
    FnOkG P w K mg base CX k f fd ps sp := ⟨F.len, fun A outer s H args us vs Q E hr => F.run A outer s H args us vs Q E (hr.mono h)⟩
theorem FnOkG.imp {P : Program} {w : World} {K : PySem.W.Frag} {mg : Str → Option Value} {base : Heap} {CX : CXT} {k : Nat} {f : Addr} {fd : FuncData} {ps : List Str} {sp sp' : Sp} (F : FnOkG P w K mg base CX k f fd ps sp)
    (h : ∀ vs H Q E, sp' vs H Q E → sp vs H Q E) : FnOkG P w K mg base CX k f fd ps sp' :=
  ⟨fun vs H Q E q => F.len vs H Q E (h _ _ _ _ q), fun A outer s H args us vs Q E hr hg he hb hv hs => F.run A outer s H args us vs Q E hr hg he hb hv (h _ _ _ _ hs)⟩
section
variable {X : Cx} {CX : CXT} {k : Nat} {f : Addr} {fd : FuncData} {ps : List Str} {sp : Sp} {E : L2.St → XK} {x : Str} {p pos : Pos} {e : Expr} {es : List Expr} {t : TA}
theorem run_fnG {pins : List (Addr × Obj)} {σ : L2.St} {H : Hp} {s : Shared} {Q : VK} {us : List Value} {vs : List V} (F : FnOkG X.prog X.w X.K X.mg X.base CX k f fd ps sp) (hr : Room k X.A) (gd : X.A.guards = some []) (hb : Binds X.K fd ps []) (hx : PassesAt CX X σ (E σ))
    (I : Inv X pins σ H s) (r : Vals vs us) (h : sp vs H Q (E σ)) : wpAny (model X.prog X.w) X.A (call (.ref f) us) (EP X pins σ Q) X.xe s := by
  have hl : us.length = ps.length := by rw [← r.length]; exact F.len _ _ _ _ h
  have b := hb s us I.kIn (by rw [List.append_nil]; exact hl)
  rw [List.append_nil] at b
  refine wpAny_call (codeAny_mono (F.run X.A X.stack s H ⟨us, []⟩ us vs Q (E σ) hr gd I.env0 b r h) fun r s' hq => ?_)
  cases r with
  | error e => exact hx pins H s e s' I hq
  | ok fl =>
    cases fl with
    | ret u => exact I.after hq
    | next => exact False.elim hq
    | brk => exact False.elim hq
    | cont => exact False.elim hq
theorem pe_callG' (F : FnOkG X.prog X.w X.K X.mg X.base CX k f fd ps sp) (hr : Room k X.A) (gd : X.A.guards = some []) (hg : Gl X x) (hm : X.mg x = some (.ref f)) (hk : PySem.W.keepIn X.K (.ref f) = true) (hb : Binds X.K fd ps []) (hx : ∀ σ, PassesAt CX X σ (E σ))
    (ha : PA X (e :: es) t) (hdb : (x == ("__debug__" : Str)) = false := by decide) (he : starEach (e :: es) X.env = (false, eval e X.env) :: starEach es X.env := by rfl) (hpl : (backTo pos (starEach es X.env)).any (·.1) = false := by rfl) :
    PE X (.Call (.Name x p) (e :: es) [] pos) (tCallS sp E t) := by
  refine ⟨fun pins s σ H Q I h => ?_⟩
  refine wpAny_Call_Name_kw (ld_glob I hg hm ?_ hdb)
  refine PySem.W.callWith_K (h₀ := X.base) I.ok.mod.kin hk (thn (ha.run pos pins s σ H _ I h) fun us s1 ⟨vs, H1, I1, r, q⟩ => ⟨I1.kIn, ?_⟩) he hpl
  exact run_fnG F hr gd hb (hx σ) I1 r q
theorem guards_make {A : Around} {C : Addr} {us : List Value} {kw : List (Str × Value)} (h : A.guards = some []) : (A.under (.builtin "type.__call__" ⟨.ref C :: us, kw⟩)).guards = some [] := by
  have e : (Code.builtin "type.__call__" ⟨.ref C :: us, kw⟩).guards = [] := by
    unfold Code.guards
    rw [if_neg]
    show ¬ (guardIds.contains "type.__call__" = true)
    decide +kernel
  show pushGuards (Code.builtin "type.__call__" ⟨.ref C :: us, kw⟩).guards A.guards = _
  rw [e]; exact h
end
structure FnGood (P : Program) (w : World) (K : PySem.W.Frag) (mg : Str → Option Value) (base : Heap) (fnm clm : Nat → Option Addr) (k : Nat) (i : Nat) (x : Str × Nat) (sp : SpD) : Prop where
  ex : ∃ f fd ps, ps.length = x.2 ∧ fnm i = some f ∧ (dotted x.1 = false → mg x.1 = some (.ref f)) ∧ PySem.W.keepIn K (.ref f) = true ∧ Binds K fd ps [] ∧ FnOkG P w K mg base (L2.CX P w) k f fd ps (lift K fnm clm x.2 sp)
/-- room for a def's call, behind a class's making, too -/
structure RoomM (k : Nat) (A : Around) : Prop where
  r : Room k A
  m : ∀ (c : Addr) (us : List Value), Room k (A.under (.builtin "type.__call__" ⟨.ref c :: us, []⟩))
theorem RoomM.of {k : Nat} {A : Around} (r : Room (k + 1) A) (env : Env) : RoomM k (A.deeper env) :=
  ⟨r.deeper env, fun c us => ⟨r.hd, by have h := r.dp; rw [make_depth]; show A.depth + 1 + 1 + 3 * k + 5 < _; omega, by have h := r.un; rw [make_units]; show A.units + 3 + 1 + 16 * k + 200 < _; omega⟩⟩
/-- an own class stands in the world -/
structure OcAt (K : PySem.W.Frag) (mg : Str → Option Value) (fnm : Nat → Option Addr) (j : Nat) (o : Oc) : Prop where
  ex : ∃ c, fnm (1000 + j) = some c ∧ mg o.x = some (.ref c) ∧ Cls K c ∧ (∀ f ∈ o.fds, NoAttr K c f) ∧ (∀ p ∈ o.mts, ∃ g, fnm p.2 = some g ∧ Meth K c p.1 g) ∧ ∀ i, o.ini = some i → ∃ g, fnm i = some g ∧ Mk K c g
structure COk (C : Cfg) (fnm clm : Nat → Option Addr) (Γ : Gam) (N : List Str) (sc : Scope) (X : Cx) (W : WX) : Prop where
  hN : X.N = N
  nd : N.Nodup
  hsc : X.env.scope = sc
  calm : X.calm = true
  tk : Takes X W
  po : PassesOwn (model X.prog X.w) X.A X.env X.xe
  fnk : ∃ k, RoomM k X.A ∧ ∀ i x, C.fns[i]? = some x → FnGood X.prog X.w X.K X.mg X.base fnm clm k i x (Γ.sp i)
  blt : ∀ x ∈ bltNames, X.mg x = none
  gls : ∀ i x, i < 60 → C.gls[i]? = some x → ∃ u v, X.mg x = some u ∧ RelV v u ∧ ∀ S H G, Dat X.K fnm S H G v (Γ.gl i)
  dct : ∀ i x, 60 ≤ i → C.gls[i]? = some x → ∃ d, X.mg x = some (.ref d) ∧ ∀ s y, dctD (Γ.gl i) (.str s) = some y → ∃ v, KDct X.K X.w d (mkStr s) v ∧ ∀ S H G, Dat X.K fnm S H G v y
  cls : ∀ i x, C.cls[i]? = some x → ∃ c, clm i = some c ∧ X.mg x = some (.ref c) ∧ PySem.W.excIn X.K c He.veBase "ValueError.__new__" = true ∧ PySem.W.keepIn X.K (.ref c) = true ∧ Raises X (.ref c)
  grd : X.A.guards = some []
  exm : ∀ i j c d, clm i = some c → clm j = some d → PySem.W.exmOne X.K (.ref c) (.ref d) = some (Γ.sb i j)
  ocs : ∀ j o, C.ocs[j]? = some o → OcAt X.K X.mg fnm j o
  isx : ∀ i c, clm i = some c → L2.ExcC X.K c ∧ PySem.W.kitOne X.K (.ref c) (.type "ValueError") = some true ∧ ∀ j d, clm j = some d → PySem.W.kitOne X.K (.ref c) (.ref d) = some (Γ.sb i j)
section
variable (K : PySem.W.Frag) (fnm clm : Nat → Option Addr)
def PostE (S : Addr → Option Bool) (H : Hp) (G : HD) (QD : KD) (Q : VK) : Prop := ∀ v S' H' d G', Step S H G S' H' G' → Hel K fnm clm S' H' G' → Dat K fnm S' H' G' v d → QD d G' → Q v H'
def PostT (S : Addr → Option Bool) (H : Hp) (G : HD) (QD : Bool → HD → Prop) (Q : Bool → Hp → Prop) : Prop := ∀ b S' H' G', Step S H G S' H' G' → Hel K fnm clm S' H' G' → QD b G' → Q b H'
def PostA (S : Addr → Option Bool) (H : Hp) (G : HD) (n : Nat) (QD : List D → HD → Prop) (Q : List V → Hp → Prop) : Prop := ∀ vs S' H' ds G', vs.length = n → Step S H G S' H' G' → Hel K fnm clm S' H' G' → DatAll K fnm S' H' G' vs ds → QD ds G' → Q vs H'
def PostX (W : WX) (σ : St') (S : Addr → Option Bool) (H : Hp) (G : HD) (XD : KX) : Prop := ∀ x c S' H' G', Step S H G S' H' G' → Hel K fnm clm S' H' G' → clm x = some c → XD x G' → W (.ref c) none σ H'
def RefE (W : WX) (te : TE) (t : StD → HD → KD → KX → Prop) : Prop :=
  ∀ S (σ : St') σD H G Q QD XD, Hel K fnm clm S H G → SlotOk K fnm S H G σ σD → t σD G QD XD → PostE K fnm clm S H G QD Q → PostX K fnm clm W σ S H G XD → te σ H Q
def RefT (W : WX) (te : TT) (t : StD → HD → (Bool → HD → Prop) → KX → Prop) : Prop :=
  ∀ S (σ : St') σD H G Q QD XD, Hel K fnm clm S H G → SlotOk K fnm S H G σ σD → t σD G QD XD → PostT K fnm clm S H G QD Q → PostX K fnm clm W σ S H G XD → te σ H Q
def RefA (W : WX) (n : Nat) (te : TA) (t : StD → HD → (List D → HD → Prop) → KX → Prop) : Prop :=
  ∀ S (σ : St') σD H G Q QD XD, Hel K fnm clm S H G → SlotOk K fnm S H G σ σD → t σD G QD XD → PostA K fnm clm S H G n QD Q → PostX K fnm clm W σ S H G XD → te σ H Q
def RefO (W : WX) (te : TO) (t : StD → HD → (Option Int → HD → Prop) → KX → Prop) : Prop :=
  ∀ S (σ : St') σD H G (Q : Option Int → Hp → Prop) QD XD, Hel K fnm clm S H G → SlotOk K fnm S H G σ σD → t σD G QD XD → (∀ o S' H' G', Step S H G S' H' G' → Hel K fnm clm S' H' G' → QD o G' → Q o H') → PostX K fnm clm W σ S H G XD → te σ H Q
/-- what is walked: from now on, whatever happens, the i-th turn brings the i-th of these -/
structure ItOk (J : It) (S : Addr → Option Bool) (H : Hp) (G : HD) (items : List D) : Prop where
  len : items.length ≤ sizeLine
  go : ∀ S' H' G', Step S H G S' H' G' → Hel K fnm clm S' H' G' → ∀ i d, items[i]? = some d → J.go i H' ∧ ∀ x H'', J.yld i H' x H'' → Step S' H' G' S' H'' G' ∧ Hel K fnm clm S' H'' G' ∧ Dat K fnm S' H'' G' x d
  stop : ∀ S' H' G', Step S H G S' H' G' → Hel K fnm clm S' H' G' → J.stop items.length H'
def RefI (W : WX) (wi : TI) (t : StD → HD → (List D → HD → Prop) → KX → Prop) : Prop :=
  ∀ S (σ : St') σD H G (R : It → Hp → Prop) QD XD, Hel K fnm clm S H G → SlotOk K fnm S H G σ σD → t σD G QD XD →
    (∀ J S' H' G' items, Step S H G S' H' G' → Hel K fnm clm S' H' G' → ItOk K fnm clm J S' H' G' items → QD items G' → R J H') → PostX K fnm clm W σ S H G XD → wi σ H R
structure PostS (S : Addr → Option Bool) (H : Hp) (G : HD) (ED : EndsD) (D : Ends) : Prop where
  nx : ∀ (σ' : St') σD' S' H' G', Step S H G S' H' G' → Hel K fnm clm S' H' G' → SlotOk K fnm S' H' G' σ' σD' → ED.nx σD' G' → D.nx σ' H'
  bk : ∀ (σ' : St') σD' S' H' G', Step S H G S' H' G' → Hel K fnm clm S' H' G' → SlotOk K fnm S' H' G' σ' σD' → ED.bk σD' G' → D.bk σ' H'
  ct : ∀ (σ' : St') σD' S' H' G', Step S H G S' H' G' → Hel K fnm clm S' H' G' → SlotOk K fnm S' H' G' σ' σD' → ED.ct σD' G' → D.ct σ' H'
  rt : PostE K fnm clm S H G ED.rt D.rt
def PostXS (W : WX) (S : Addr → Option Bool) (H : Hp) (G : HD) (XD : Nat → StD → HD → Prop) : Prop :=
  ∀ x c (σ' : St') σD' S' H' G', Step S H G S' H' G' → Hel K fnm clm S' H' G' → SlotOk K fnm S' H' G' σ' σD' → clm x = some c → XD x σD' G' → W (.ref c) none σ' H'
def RefS (W : WX) (ts : TS) (t : EndsD → StD → HD → Prop) : Prop :=
  ∀ S (σ : St') σD H G D ED, Hel K fnm clm S H G → SlotOk K fnm S H G σ σD → t ED σD G → PostS K fnm clm S H G ED D → PostXS K fnm clm W S H G ED.ex → ts D σ H
end
section
variable {K : PySem.W.Frag} {fnm clm : Nat → Option Addr} {S S' : Addr → Option Bool} {H H' : Hp} {G G' : HD}
theorem PostE.step {QD : KD} {Q : VK} (h : PostE K fnm clm S H G QD Q) (st : Step S H G S' H' G') : PostE K fnm clm S' H' G' QD Q :=
  fun v S2 H2 d G2 s2 => h v S2 H2 d G2 (st.trans s2)
theorem PostT.step {QD : Bool → HD → Prop} {Q : Bool → Hp → Prop} (h : PostT K fnm clm S H G QD Q) (st : Step S H G S' H' G') : PostT K fnm clm S' H' G' QD Q :=
  fun v S2 H2 G2 s2 => h v S2 H2 G2 (st.trans s2)
theorem PostX.step {W : WX} {σ : St'} {XD : KX} (h : PostX K fnm clm W σ S H G XD) (st : Step S H G S' H' G') : PostX K fnm clm W σ S' H' G' XD :=
  fun x c S2 H2 G2 s2 => h x c S2 H2 G2 (st.trans s2)
theorem PostS.step {ED : EndsD} {D : Ends} (h : PostS K fnm clm S H G ED D) (st : Step S H G S' H' G') : PostS K fnm clm S' H' G' ED D :=
  ⟨fun a b c d e s2 => h.nx a b c d e (st.trans s2), fun a b c d e s2 => h.bk a b c d e (st.trans s2), fun a b c d e s2 => h.ct a b c d e (st.trans s2), h.rt.step st⟩
theorem PostXS.step {W : WX} {XD : Nat → StD → HD → Prop} (h : PostXS K fnm clm W S H G XD) (st : Step S H G S' H' G') : PostXS K fnm clm W S' H' G' XD :=
  fun x c a b S2 H2 G2 s2 => h x c a b S2 H2 G2 (st.trans s2)
theorem PostXS.at {W : WX} {XD : Nat → StD → HD → Prop} {σ : St'} {σD : StD} (R : Hel K fnm clm S H G) (sl : SlotOk K fnm S H G σ σD) (h : PostXS K fnm clm W S H G XD) : PostX K fnm clm W σ S H G (fun x => XD x σD) :=
  fun x c S2 H2 G2 s2 r2 hc hx => h x c σ σD S2 H2 G2 s2 r2 (sl.step R s2) hc hx
end
def isStar : Expr → Bool
  | .Starred _ _ => true
  | _ => false
theorem star_no {e : Expr} (h : isStar e = false) (es : List Expr) (env : Env) : starEach (e :: es) env = (false, eval e env) :: starEach es env := by
  cases e <;> first | rfl | cases h
def isComp : Expr → Bool
  | .ListComp .. => true
  | .SetComp .. => true
  | .DictComp .. => true
  | _ => false
theorem swap_no {e : Expr} (h : isComp e = false) (t : Option Expr) (l : Nat) (env : Env) : swapsWith e t l env = pure false := by
  cases e <;> first | rfl | cases h
/-- what is asked of an expression besides -/
structure JE (fnm clm : Nat → Option Addr) (X : Cx) (W : WX) (e : Expr) (t : StD → HD → KD → KX → Prop) : Prop where
  star : isStar e = false
  ex : ∃ te, PE X e te ∧ RefE X.K fnm clm W te t
def JT (fnm clm : Nat → Option Addr) (X : Cx) (W : WX) (e : Expr) (t : StD → HD → (Bool → HD → Prop) → KX → Prop) : Prop := ∃ te, PT X e te ∧ RefT X.K fnm clm W te t
structure JA (fnm clm : Nat → Option Addr) (X : Cx) (W : WX) (es : List Expr) (t : StD → HD → (List D → HD → Prop) → KX → Prop) : Prop where
  star : ∀ e ∈ es, isStar e = false
  ex : ∃ te, PA X es te ∧ RefA X.K fnm clm W es.length te t
def JI (fnm clm : Nat → Option Addr) (X : Cx) (W : WX) (tg e : Expr) (t : StD → HD → (List D → HD → Prop) → KX → Prop) : Prop := ∃ te, PI X tg e te ∧ RefI X.K fnm clm W te t
def JS (fnm clm : Nat → Option Addr) (X : Cx) (W : WX) (s : Stmt) (t : EndsD → StD → HD → Prop) : Prop := ∃ te, PS X s te ∧ RefS X.K fnm clm W te t
def JSs (fnm clm : Nat → Option Addr) (X : Cx) (W : WX) (s : List Stmt) (t : EndsD → StD → HD → Prop) : Prop := ∃ te, PSs X s te ∧ RefS X.K fnm clm W te t

section
variable {C : Cfg} {fnm clm : Nat → Option Addr} {Γ : Gam} {N : List Str} {sc : Scope} {X : Cx} {W : WX}

/-! ## 6. Expressions -/
theorem vis_of (k : COk C fnm clm Γ N sc X W) {x : Str} (h : (match sc.names.lookup x with | some .local => true | some .cell => true | some .free => true | _ => false) = true) : Vis X.env.scope x := by
  rw [k.hsc]
  unfold Vis
  split at h <;> simp_all
theorem name_debug {x : Str} (h : nameOk x = true) : (x == ("__debug__" : Str)) = false ∧ (x == ("__classdict__" : Str)) = false ∧ x ≠ "__name__" := by
  unfold nameOk at h
  simp only [Bool.and_eq_true, Bool.not_eq_true', beq_eq_false_iff_ne] at h
  exact ⟨by simpa using h.1.1.2, by simpa using h.1.2, h.2⟩
theorem name_dot {x : Str} (h : nameOk x = true) : dotted x = false := by
  unfold nameOk at h
  simp only [Bool.and_eq_true, Bool.not_eq_true'] at h
  exact h.1.1.1
theorem je_var (k : COk C fnm clm Γ N sc X W) {i : Nat} {x : Str} {pos : Pos} (hi : N[i]? = some x) (hv : Vis X.env.scope x) (hx : nameOk x = true) : JE fnm clm X W (.Name x pos) (wE Γ (.var i)) := by
  obtain ⟨h1, h2, h3⟩ := name_debug hx
  refine ⟨rfl, _, pe_var (by rw [k.hN]; exact hi) hv h1 h2, fun S σ σD H G Q QD XD R sl h hQ hX => ?_⟩
  have h : ok (σD.getD i none) fun d => QD d G := h
  cases e : σD.getD i none with
  | none => rw [e] at h; exact h.elim
  | some d =>
    rw [e] at h
    have e2 : σD[i]? = some (some d) := by
      rw [List.getD_eq_getElem?_getD] at e
      cases q : σD[i]? with
      | none => rw [q] at e; cases e
      | some z => rw [q] at e; simp at e; rw [e]
    obtain ⟨v, h1, h2⟩ := sl.2 i d e2
    exact ⟨v, h1, hQ v S H d G .refl R h2 h⟩
theorem je_con {c : Const} {d : D} {j : Nat} {pos : Pos} (h : match c, d with | .none, .non => True | .bool a, .bl b => a = b | .int i, .int j => i = j | .str s, .str l => s = mkStr l ∧ PyData.strOk s = true ∧ l.length ≤ sizeLine | _, _ => False) :
    JE fnm clm X W (.Constant c j pos) (wE Γ (.con d)) := by
  refine ⟨rfl, ?_⟩
  cases c <;> cases d <;> simp only at h
  · exact ⟨_, pe_non, fun S σ σD H G Q QD XD R sl h hQ hX => hQ _ S H _ G .refl R .non h⟩
  · subst h; exact ⟨_, pe_bl, fun S σ σD H G Q QD XD R sl h hQ hX => hQ _ S H _ G .refl R (.bl _) h⟩
  · subst h; exact ⟨_, pe_int, fun S σ σD H G Q QD XD R sl h hQ hX => hQ _ S H _ G .refl R (.int _) h⟩
  · obtain ⟨rfl, h2, h3⟩ := h; exact ⟨_, pe_str, fun S σ σD H G Q QD XD R sl h hQ hX => hQ _ S H _ G .refl R (.str _ h2 h3) h⟩
theorem gl_of (k : COk C fnm clm Γ N sc X W) {x : Str} (h : (match sc.names.lookup x with | some .globalImplicit => true | _ => false) = true) : Gl X x := by
  show X.env.scope.names.lookup x = _
  rw [k.hsc]
  split at h <;> simp_all
theorem je_glb (k : COk C fnm clm Γ N sc X W) {i : Nat} {x : Str} {pos : Pos} (hl : i < 60) (hi : C.gls[i]? = some x) (hg : Gl X x) (hx : nameOk x = true) : JE fnm clm X W (.Name x pos) (wE Γ (.glb i)) := by
  obtain ⟨h1, h2, h3⟩ := name_debug hx
  obtain ⟨u, v, hm, r, hd⟩ := k.gls i x hl hi
  exact ⟨rfl, _, pe_glob hg hm r h1, fun S σ σD H G Q QD XD R sl h hQ hX => hQ _ S H _ G .refl R (hd S H G) h⟩
/-- two in a row -/
theorem ref2 {ta tb : TE} {t u : StD → HD → KD → KX → Prop} (ha : RefE X.K fnm clm W ta t) (hb : RefE X.K fnm clm W tb u) {S : Addr → Option Bool} {σ : St'} {σD : StD} {H : Hp} {G : HD} {XD : KX} {RD : D → D → HD → Prop} {R2 : V → V → Hp → Prop}
    (R : Hel X.K fnm clm S H G) (sl : SlotOk X.K fnm S H G σ σD) (h : t σD G (fun x G1 => u σD G1 (fun y G2 => RD x y G2) XD) XD)
    (hQ : ∀ v v' S' H' d d' G', Step S H G S' H' G' → Hel X.K fnm clm S' H' G' → Dat X.K fnm S' H' G' v d → Dat X.K fnm S' H' G' v' d' → RD d d' G' → R2 v v' H') (hX : PostX X.K fnm clm W σ S H G XD) :
    ta σ H fun x H1 => tb σ H1 fun y H2 => R2 x y H2 := by
  refine ha S σ σD H G _ _ XD R sl h (fun v S1 H1 d G1 st1 R1 r1 h1 => ?_) hX
  refine hb S1 σ σD H1 G1 _ _ XD R1 (sl.step R st1) h1 (fun v' S2 H2 d' G2 st2 R2' r2 h2 => ?_) (hX.step st1)
  exact hQ v v' S2 H2 d d' G2 (st1.trans st2) R2' (r1.step R1 st2) r2 h2
/-- an operator by values -/
theorem je_op2 {op : Operator} {r : R2} {a b : Expr} {pos : Pos} {t u : StD → HD → KD → KX → Prop} {rd : D → D → HD → KD → Prop} (ho : OpR X (binaryOp op) r) (ha : JE fnm clm X W a t) (hb : JE fnm clm X W b u)
    (hr : ∀ v v' d d' S H G Q QD, Hel X.K fnm clm S H G → Dat X.K fnm S H G v d → Dat X.K fnm S H G v' d' → rd d d' G QD → PostE X.K fnm clm S H G QD Q → r v v' H Q) :
    JE fnm clm X W (.BinOp a op b pos) (fun σ H Q X => t σ H (fun x H1 => u σ H1 (fun y H2 => rd x y H2 Q) X) X) := by
  obtain ⟨_, ta, pa, ra⟩ := ha
  obtain ⟨_, tb, pb, rb⟩ := hb
  refine ⟨rfl, _, pe_op ho pa pb, fun S σ σD H G Q QD XD R sl h hQ hX => ?_⟩
  exact ref2 ra rb R sl h (fun v v' S' H' d d' G' st R' r1 r2 h' => hr v v' d d' S' H' G' Q QD R' r1 r2 h' (hQ.step st)) hX
end
end DL

namespace DL
open PySem PySem.Spec PyProof.Rows L2
/-! ## 7. Values -/
section
variable {K : PySem.W.Frag} {fnm clm : Nat → Option Addr} {S : Addr → Option Bool} {H : Hp} {G : HD} {v v' : V} {d d' : D} {Q : VK} {QD : KD}
theorem lim_eq : sizeLine = lim := sizeLine_eq
theorem dat_int {i : Int} (r : Dat K fnm S H G v (.int i)) : v = .int i := by cases r; rfl
theorem dat_bl {i : Bool} (r : Dat K fnm S H G v (.bl i)) : v = .bl i := by cases r; rfl
theorem dat_non (r : Dat K fnm S H G v .non) : v = .non := by cases r; rfl
theorem dat_str {s : List Nat} (r : Dat K fnm S H G v (.str s)) : v = .str (mkStr s) ∧ PyData.strOk (mkStr s) = true ∧ s.length ≤ sizeLine := by cases r; exact ⟨rfl, by assumption, by assumption⟩
theorem dat_ref {a : Addr} (r : Dat K fnm S H G v (.ref a)) : v = .ref a := by cases r; rfl
theorem dat_tupP {ds : List D} (r : Dat K fnm S H G v (.tup ds)) : ∃ a vs, v = .ref a ∧ SqP K H a vs ∧ vs.length ≤ sizeLine ∧ DatAll K fnm S H G vs ds := by
  cases r; exact ⟨_, _, rfl, by assumption, by assumption, by assumption⟩
theorem dat_tup {ds : List D} (r : Dat K fnm S H G v (.tup ds)) : ∃ a vs, v = .ref a ∧ SqT K H a vs ∧ vs.length ≤ sizeLine ∧ DatAll K fnm S H G vs ds := by
  obtain ⟨a, vs, h1, h2, h3⟩ := dat_tupP r
  exact ⟨a, vs, h1, h2.sq, h3⟩
theorem dat_tpl {ds : List D} (r : Dat K fnm S H G v (.tpl ds)) : ∃ a vs, v = .ref a ∧ SqT K H a vs ∧ vs.length ≤ sizeLine ∧ DatAll K fnm S H G vs ds := by
  cases r; exact ⟨_, _, rfl, by assumption, by assumption, by assumption⟩
theorem dat_lst {ds : List D} (r : Dat K fnm S H G v (.lst ds)) : ∃ a vs, v = .ref a ∧ LAt K S H G a vs ∧ vs.length ≤ sizeLine ∧ DatAll K fnm S H G vs ds := by
  cases r; exact ⟨_, _, rfl, .inl ⟨by assumption, by assumption, by assumption⟩, by assumption, by assumption⟩
theorem dat_scr {ds : List D} (r : Dat K fnm S H G v (.scr ds)) : ∃ a vs, v = .ref a ∧ LAt K S H G a vs ∧ vs.length ≤ sizeLine ∧ DatAll K fnm S H G vs ds := by
  cases r; exact ⟨_, _, rfl, .inr (by assumption), by assumption, by assumption⟩
theorem strOk_iff {s : List Nat} : PyData.strOk (mkStr s) = true ↔ ∀ c ∈ s, c < 0x110000 := by
  simp [PyData.strOk, mkStr, Array.all_toList.symm]
theorem seq_ok (R : Hel K fnm clm S H G) (r : Dat K fnm S H G v d) {ds : List D} (e : seqOf d G = some ds) : ∃ a vs, v = .ref a ∧ SqL K H a vs ∧ vs.length ≤ sizeLine ∧ DatAll K fnm S H G vs ds := by
  cases d with
  | lst xs =>
    obtain ⟨a, vs, h1, h2, h5, h6⟩ := dat_lst r
    cases e
    exact ⟨a, vs, h1, h2.sq, h5, h6⟩
  | scr xs =>
    obtain ⟨a, vs, h1, h2, h5, h6⟩ := dat_scr r
    cases e
    exact ⟨a, vs, h1, h2.sq, h5, h6⟩
  | ref a =>
    have h := dat_ref r
    cases q : G a with
    | none => simp [seqOf, q] at e
    | some c =>
      simp only [seqOf, q] at e
      cases c with
      | lst xs =>
        cases e
        obtain ⟨vs, h1, h2, h3⟩ := R.cell a _ q
        exact ⟨a, vs, h, SqL.of h1, h2, h3⟩
      | dct _ => cases e
      | ins _ _ => cases e
  | _ => cases e
theorem seqH_ok (R : Hel K fnm clm S H G) (r : Dat K fnm S H G v d) {ds : List D} (e : seqH d G = some ds) : ∃ a vs, v = .ref a ∧ H a = some (.lst vs) ∧ vs.length ≤ sizeLine ∧ DatAll K fnm S H G vs ds := by
  cases d with
  | lst xs =>
    cases e
    cases r; exact ⟨_, _, rfl, by assumption, by assumption, by assumption⟩
  | ref a =>
    have h := dat_ref r
    cases q : G a with
    | none => simp [seqH, q] at e
    | some c =>
      simp only [seqH, q] at e
      cases c with
      | lst xs =>
        cases e
        obtain ⟨vs, h1, h2, h3⟩ := R.cell a _ q
        exact ⟨a, vs, h, h1, h2, h3⟩
      | dct _ => cases e
      | ins _ _ => cases e
  | _ => cases e
theorem itm_ok (R : Hel K fnm clm S H G) (r : Dat K fnm S H G v d) {ds : List D} (e : itms d G = some ds) : ∃ a vs, v = .ref a ∧ (SqL K H a vs ∨ SqT K H a vs) ∧ vs.length ≤ sizeLine ∧ DatAll K fnm S H G vs ds := by
  cases d with
  | tup xs =>
    cases e
    obtain ⟨a, vs, h1, h2, h3, h4⟩ := dat_tup r
    exact ⟨a, vs, h1, .inr h2, h3, h4⟩
  | tpl xs =>
    cases e
    obtain ⟨a, vs, h1, h2, h3, h4⟩ := dat_tpl r
    exact ⟨a, vs, h1, .inr h2, h3, h4⟩
  | lst xs => obtain ⟨a, vs, h1, h2, h3, h4⟩ := seq_ok R r e; exact ⟨a, vs, h1, .inl h2, h3, h4⟩
  | scr xs => obtain ⟨a, vs, h1, h2, h3, h4⟩ := seq_ok R r e; exact ⟨a, vs, h1, .inl h2, h3, h4⟩
  | ref a => obtain ⟨a, vs, h1, h2, h3, h4⟩ := seq_ok R r e; exact ⟨a, vs, h1, .inl h2, h3, h4⟩
  | _ => cases e
theorem ok_of {α : Type} {o : Option α} {k : α → Prop} (h : ok o k) : ∃ a, o = some a ∧ k a := by
  cases o with
  | none => exact h.elim
  | some a => exact ⟨a, rfl, h⟩
theorem new_list (R : Hel K fnm clm S H G) {z : Bool} {vs : List V} {ds : List D} (hz : vs.length ≤ sizeLine) (r : DatAll K fnm S H G vs ds) (h : newL z ds G QD) (hQ : PostE K fnm clm S H G QD Q) :
    ∀ p, H p = none → Q (.ref p) (upd H p (.lst vs)) := fun p hp => by
  cases z with
  | true => exact hQ _ S _ _ G (.newU hp) (R.newU hp) (.lst upd_same (R.free hp).1 (R.free hp).2 hz (r.step R (.newU hp))) h
  | false => exact hQ _ S _ _ _ (.new hp) (R.newL hp hz r) (.ref p) (h p (R.free hp).1)
theorem new_tup (R : Hel K fnm clm S H G) {vs : List V} {ds : List D} (hz : vs.length ≤ sizeLine) (r : DatAll K fnm S H G vs ds) (h : QD (.tup ds) G) (hQ : PostE K fnm clm S H G QD Q) :
    NewP H vs Q := fun p ob hp hd =>
  hQ _ S _ _ G (.newU hp) (R.newU hp) (.tup (.inl ⟨ob, upd_same, hd⟩) hz (r.step R (.newU hp))) h
theorem PostE.here (R : Hel K fnm clm S H G) (hQ : PostE K fnm clm S H G QD Q) (r : Dat K fnm S H G v d) (h : QD d G) : Q v H := hQ v S H d G .refl R r h
theorem PostT.here {b : Bool} {Q : Bool → Hp → Prop} {QD : Bool → HD → Prop} (R : Hel K fnm clm S H G) (hQ : PostT K fnm clm S H G QD Q) (h : QD b G) : Q b H := hQ b S H G .refl R h
end
section
variable {fnm clm : Nat → Option Addr} {X : Cx}
/-! ### operators -/
theorem fold_rep (x : List Nat) : ∀ (n : Nat) (acc : Array Nat), ((List.replicate n x.toArray).foldl (· ++ ·) acc) = acc ++ ((List.replicate n x).flatten).toArray
  | 0, acc => by simp
  | n + 1, acc => by
    rw [List.replicate_succ, List.foldl_cons, fold_rep x n, List.replicate_succ, List.flatten_cons]
    simp [Array.append_assoc]
theorem rep_len (s : List Nat) (n : Nat) : ((List.replicate n s).flatten).length = s.length * n := by
  rw [List.length_flatten]; simp; rw [Nat.mul_comm]
theorem op_mulS {X : Cx} : OpR X (binaryOp .Mult) (fun x y H Q => ∃ (s : List Nat) (n : Int), x = .str (mkStr s) ∧ y = .int n ∧ (0 ≤ n ∧ n ≤ lim) ∧ s.length * n.toNat ≤ lim ∧ Q (.str (mkStr (List.replicate n.toNat s).flatten)) H) := by
  intro pins st σ H x y v u Q I rx ry h
  obtain ⟨s, n, rfl, rfl, ⟨h0, h1⟩, h2, q⟩ := h
  obtain ⟨t, rfl⟩ := rx
  obtain ⟨t', rfl⟩ := ry
  have hlim : lim = 16777216 := rfl
  have hl := mkStr_length s
  refine PySem.P.mul_str ?_ (fun a b => ?_) (fun a b => ?_) ?_
  · rw [decide_eq_false (by omega), decide_eq_false (by omega)]; rfl
  · rw [hl]
    intro z
    have : (s.length : Int) * n ≤ 16777216 := by
      have := Int.ofNat_le.mpr h2
      rw [Int.natCast_mul, Int.toNat_of_nonneg h0] at this
      exact this
    have e : (2 : Int) ^ 63 - 1 = 9223372036854775807 := by decide
    rw [e] at z
    have := (Int.ediv_lt_iff_lt_mul (by omega)).mp z
    omega
  · rw [hl]
    unfold Builtin.Str.tooLong
    rw [lim_eq]
    exact decide_eq_false (by omega)
  · by_cases c1 : n < 1
    · have : n = 0 := by omega
      subst this
      rw [if_pos (by decide)]
      exact ⟨by decide, .str (mkStr []), H, I.tok _, ⟨_, rfl⟩, q⟩
    · rw [if_neg c1]
      by_cases c2 : (n == 1 || (mkStr s).length == 0) = true
      · rw [if_pos c2]
        have e : (List.replicate n.toNat s).flatten = s := by
          rw [hl, Bool.or_eq_true] at c2
          rcases c2 with c2 | c2
          · have : n = 1 := by simpa using c2
            subst this; simp
          · have : s = [] := by simpa using c2
            subst this; simp
        rw [e] at q
        exact ⟨.str (mkStr s), H, I, ⟨_, rfl⟩, q⟩
      · rw [if_neg c2]
        have e : (⟨(List.replicate n.toNat (mkStr s).cps).foldl (· ++ ·) #[]⟩ : Str) = mkStr (List.replicate n.toNat s).flatten := by
          unfold mkStr
          rw [fold_rep]; simp
        rw [e]
        exact ⟨by rw [mkStr_length, rep_len, lim_eq]; exact h2, .str _, H, I.tok _, ⟨_, rfl⟩, q⟩
def bopB : BOp → Operator → Bool
  | .add, .Add => true | .sub, .Sub => true | .mul, .Mult => true | .fdiv, .FloorDiv => true | .mod, .Mod => true | .pow, .Pow => true
  | .xor, .BitXor => true | .bor, .BitOr => true | .band, .BitAnd => true | .shl, .LShift => true | .shr, .RShift => true
  | _, _ => false
theorem wide_ok {j : Int} (h : 0 < j ∧ j < 2 ^ 200) : CDivW 0 j := by
  refine wide_div (b := 200) h.1 ?_ (by decide) (by decide)
  have : (j.natAbs : Int) < ((2 ^ 200 : Nat) : Int) := by
    rw [Int.natAbs_of_nonneg (Int.le_of_lt h.1)]
    exact_mod_cast h.2
  exact_mod_cast this
theorem bin_ok {z : Bool} {o : BOp} {op : Operator} (ho : bopB o op = true) : ∃ r, OpR X (binaryOp op) r ∧
    ∀ v v' d d' S H G Q QD, Hel X.K fnm clm S H G → Dat X.K fnm S H G v d → Dat X.K fnm S H G v' d' → binD z o d d' G QD → PostE X.K fnm clm S H G QD Q → r v v' H Q := by
  cases o <;> cases op <;> first | cases ho | skip
  -- add
  · refine ⟨_, op_add.or (op_add_str.or (op_catP.or op_cat)), fun v v' d d' S H G Q QD R r r' h hQ => ?_⟩
    have seqs : ∀ {x y : D}, Dat X.K fnm S H G v x → Dat X.K fnm S H G v' y → (ok (seqH x G) fun a => ok (seqH y G) fun b => a.length + b.length ≤ lim ∧ newL z (a ++ b) G QD) → rCat v v' H Q := by
      intro x y rx ry h
      obtain ⟨a, e1, h⟩ := ok_of h
      obtain ⟨b, e2, h1, h2⟩ := ok_of h
      obtain ⟨p, vs, rfl, hp, zp, rp⟩ := seqH_ok R rx e1
      obtain ⟨q, ws, rfl, hq, zq, rq⟩ := seqH_ok R ry e2
      refine ⟨p, q, vs, ws, rfl, rfl, hp, hq, ?_, ?_⟩
      · rw [rp.length, rq.length, lim_eq]; exact h1
      · exact new_list R (by rw [List.length_append, rp.length, rq.length, lim_eq]; exact h1) (rp.append rq) h2 hQ
    cases d with
    | int i =>
      cases d' with
      | int j =>
        cases dat_int r; cases dat_int r'
        exact .inl ⟨i, j, rfl, rfl, hQ.here R (.int _) h⟩
      | _ => exact .inr (.inr (.inr (seqs r r' h)))
    | str s =>
      cases d' with
      | str t =>
        obtain ⟨rfl, k1, _⟩ := dat_str r
        obtain ⟨rfl, k2, _⟩ := dat_str r'
        refine .inr (.inl ⟨_, _, rfl, rfl, by rw [mkStr_length, mkStr_length, lim_eq]; exact h.1, ?_⟩)
        rw [mkStr_append]
        refine hQ.here R (.str _ ?_ (by rw [List.length_append, lim_eq]; exact h.1)) h.2
        rw [strOk_iff] at k1 k2 ⊢
        intro c hc
        rcases List.mem_append.mp hc with q | q
        · exact k1 c q
        · exact k2 c q
      | _ => exact .inr (.inr (.inr (seqs r r' h)))
    | tup s =>
      cases d' with
      | tup t =>
        obtain ⟨a, vs, rfl, h1, z1, r1⟩ := dat_tupP r
        obtain ⟨b, ws, rfl, h2, z2, r2⟩ := dat_tupP r'
        refine .inr (.inr (.inl ⟨a, b, vs, ws, rfl, rfl, h1.sq, h2.sq, by rw [r1.length, r2.length, lim_eq]; exact h.1, fun e => ?_, fun _ e => ?_, fun _ _ => ?_⟩))
        · subst e; cases r1
          exact hQ.here R (.tup h2 z2 r2) h.2
        · subst e; cases r2
          exact hQ.here R (.tup h1 z1 r1) (by have := h.2; rw [List.append_nil] at this; exact this)
        · exact new_tup R (by rw [List.length_append, r1.length, r2.length, lim_eq]; exact h.1) (r1.append r2) h.2 hQ
      | _ => exact .inr (.inr (.inr (seqs r r' h)))
    | _ => exact .inr (.inr (.inr (seqs r r' h)))
  -- sub
  · refine ⟨_, op_sub, fun v v' d d' S H G Q QD R r r' h hQ => ?_⟩
    cases d <;> try exact h.elim
    cases d' <;> try exact h.elim
    cases dat_int r; cases dat_int r'
    exact ⟨_, _, rfl, rfl, hQ.here R (.int _) h⟩
  -- mul
  · refine ⟨_, op_mul.or (op_mulS.or op_rep), fun v v' d d' S H G Q QD R r r' h hQ => ?_⟩
    have seqs : ∀ {x : D} {n : Int}, Dat X.K fnm S H G v x → Dat X.K fnm S H G v' (.int n) → (ok (seqH x G) fun a => (0 ≤ n ∧ n ≤ lim) ∧ a.length * n.toNat ≤ lim ∧ newL z (List.replicate n.toNat a).flatten G QD) → rRep v v' H Q := by
      intro x n rx ry h
      obtain ⟨a, e1, h0, h1, h2⟩ := ok_of h
      obtain ⟨p, vs, rfl, hp, zp, rp⟩ := seqH_ok R rx e1
      cases dat_int ry
      refine ⟨p, n, vs, rfl, rfl, hp, by omega, by have := h0.2; unfold lim at this; omega, by rw [rp.length, lim_eq]; exact h1, ?_⟩
      have hl : ((List.replicate n.toNat vs).flatten).length ≤ sizeLine := by rw [(rp.rep n.toNat).length, List.length_flatten]; simp; rw [Nat.mul_comm, lim_eq]; exact h1
      exact new_list R hl (rp.rep _) h2 hQ
    cases d with
    | int i =>
      cases d' with
      | int j =>
        cases dat_int r; cases dat_int r'
        refine .inl ⟨i, j, rfl, rfl, ?_, hQ.here R (.int _) h.2⟩
        have e : (2 : Int) ^ 64 = 18446744073709551616 := by decide
        unfold CMul
        rw [e]
        exact h.1
      | _ => exact h.elim
    | str s =>
      cases d' with
      | int j =>
        obtain ⟨rfl, k, _⟩ := dat_str r
        cases dat_int r'
        have h : (0 ≤ j ∧ j ≤ lim) ∧ s.length * j.toNat ≤ lim ∧ QD (.str (List.replicate j.toNat s).flatten) G := h
        refine .inr (.inl ⟨s, j, rfl, rfl, h.1, h.2.1, hQ.here R (.str _ ?_ (by rw [rep_len, lim_eq]; exact h.2.1)) h.2.2⟩)
        rw [strOk_iff] at k ⊢
        intro c hc
        obtain ⟨l, h1, h2⟩ := List.mem_flatten.mp hc
        rw [List.mem_replicate] at h1
        exact k c (by rw [← h1.2]; exact h2)
      | _ => exact h.elim
    | _ =>
      cases d' with
      | int j => exact .inr (.inr (seqs r r' h))
      | _ => exact h.elim
  -- fdiv
  · refine ⟨_, op_fdivW, fun v v' d d' S H G Q QD R r r' h hQ => ?_⟩
    cases d <;> try exact h.elim
    cases d' <;> try exact h.elim
    cases dat_int r; cases dat_int r'
    exact ⟨_, _, rfl, rfl, wide_ok h.1, hQ.here R (.int _) h.2⟩
  -- mod
  · refine ⟨_, op_mod, fun v v' d d' S H G Q QD R r r' h hQ => ?_⟩
    cases d <;> try exact h.elim
    cases d' <;> try exact h.elim
    cases dat_int r; cases dat_int r'
    exact ⟨_, _, rfl, rfl, h.1, hQ.here R (.int _) h.2⟩
  -- pow
  · refine ⟨_, op_pow, fun v v' d d' S H G Q QD R r r' h hQ => ?_⟩
    cases d <;> try exact h.elim
    cases d' <;> try exact h.elim
    cases dat_int r; cases dat_int r'
    exact ⟨_, _, rfl, rfl, h.1, hQ.here R (.int _) h.2⟩
  · refine ⟨_, op_xor, fun v v' d d' S H G Q QD R r r' h hQ => ?_⟩
    cases d <;> try exact h.elim
    cases d' <;> try exact h.elim
    cases dat_int r; cases dat_int r'
    exact ⟨_, _, rfl, rfl, hQ.here R (.int _) h⟩
  · refine ⟨_, op_or, fun v v' d d' S H G Q QD R r r' h hQ => ?_⟩
    cases d <;> try exact h.elim
    cases d' <;> try exact h.elim
    cases dat_int r; cases dat_int r'
    exact ⟨_, _, rfl, rfl, hQ.here R (.int _) h⟩
  · refine ⟨_, op_and, fun v v' d d' S H G Q QD R r r' h hQ => ?_⟩
    cases d <;> try exact h.elim
    cases d' <;> try exact h.elim
    cases dat_int r; cases dat_int r'
    exact ⟨_, _, rfl, rfl, hQ.here R (.int _) h⟩
  · refine ⟨_, op_shl, fun v v' d d' S H G Q QD R r r' h hQ => ?_⟩
    cases d <;> try exact h.elim
    cases d' <;> try exact h.elim
    cases dat_int r; cases dat_int r'
    exact ⟨_, _, rfl, rfl, h.1, hQ.here R (.int _) h.2⟩
  · refine ⟨_, op_shr, fun v v' d d' S H G Q QD R r r' h hQ => ?_⟩
    cases d <;> try exact h.elim
    cases d' <;> try exact h.elim
    cases dat_int r; cases dat_int r'
    exact ⟨_, _, rfl, rfl, h.1, hQ.here R (.int _) h.2⟩
end
end DL

namespace L2
open PySem PySem.Spec PySem.SeqAt
section
variable {X : Cx}
/-- in, of data -/
theorem op_inDp (hu : X.A.units + 64 < cLine) : OpR X (compareOp .In) (fun x y H Q => ∃ d xs, Dp X.K H x d ∧ (Dp X.K H y (.list xs) ∨ Dp X.K H y (.tuple xs)) ∧ PyData.canLayAll0 xs = true ∧ d.canLay0 = true ∧ min (PyData.depthAll xs) d.depth ≤ 60 ∧ Q (.bl (xs.any fun z => PyData.eqv z d)) H) := by
  intro pins s σ H x y v u Q I rx ry h
  obtain ⟨d, xs, hd, hy, sx, sd, hm, q⟩ := h
  obtain ⟨as, r1⟩ := Dp.reads I d x v hd rx
  rcases hy with hy | hy
  · obtain ⟨bs, r2⟩ := Dp.reads I _ y u hy ry
    exact in_list_data r2 r1 (PyData.plainAll_of_canLay0 xs sx) (PyData.plain_of_canLay0 d sd) (by omega) ⟨.bl _, H, I, rfl, q⟩
  · obtain ⟨bs, r2⟩ := Dp.reads I _ y u hy ry
    exact in_tuple_data r2 r1 (PyData.plainAll_of_canLay0 xs sx) (PyData.plain_of_canLay0 d sd) (by omega) ⟨.bl _, H, I, rfl, q⟩
theorem op_notInDp (hu : X.A.units + 64 < cLine) : OpR X (compareOp .NotIn) (fun x y H Q => ∃ d xs, Dp X.K H x d ∧ (Dp X.K H y (.list xs) ∨ Dp X.K H y (.tuple xs)) ∧ PyData.canLayAll0 xs = true ∧ d.canLay0 = true ∧ min (PyData.depthAll xs) d.depth ≤ 60 ∧ Q (.bl (!xs.any fun z => PyData.eqv z d)) H) := by
  intro pins s σ H x y v u Q I rx ry h
  obtain ⟨d, xs, hd, hy, sx, sd, hm, q⟩ := h
  obtain ⟨as, r1⟩ := Dp.reads I d x v hd rx
  rcases hy with hy | hy
  · obtain ⟨bs, r2⟩ := Dp.reads I _ y u hy ry
    exact notIn_list_data r2 r1 (PyData.plainAll_of_canLay0 xs sx) (PyData.plain_of_canLay0 d sd) (by omega) ⟨.bl _, H, I, rfl, q⟩
  · obtain ⟨bs, r2⟩ := Dp.reads I _ y u hy ry
    exact notIn_tuple_data r2 r1 (PyData.plainAll_of_canLay0 xs sx) (PyData.plain_of_canLay0 d sd) (by omega) ⟨.bl _, H, I, rfl, q⟩
/-- list.index, of data -/
def rIndexP (K : PySem.W.Frag) : V → List V → Hp → VK → Prop := fun x xs H Q => ∃ (a : PySem.Addr) (ys : List V) (y : V) (ds : List PyData) (d : PyData) (j : Nat), x = V.ref a ∧ xs = [y] ∧ SqL K H a ys ∧ DpAll K H ys ds ∧ Dp K H y d ∧
  PyData.canLayAll0 ds = true ∧ d.canLay0 = true ∧ min (PyData.depthAll ds) d.depth ≤ 60 ∧ (ds.findIdx? fun z => PyData.eqv z d) = some j ∧ Q (.int (j : Nat)) H
theorem mt_indexP (hu : X.A.units + 64 < cLine) : MtR X "list.index" (rIndexP X.K) := by
  intro pins s σ H x xs v us Q I rx rxs h
  obtain ⟨a, ys, y, ds, d, j, rfl, rfl, hs, hds, hd, sx, sd, hm, hj, q⟩ := h
  cases rx
  cases rxs with
  | cons ry rt =>
    rename_i uy ut
    cases rt
    obtain ⟨as, r1⟩ := Dp.reads I d y uy hd ry
    obtain ⟨its, rv, ⟨⟨cls, dd, data, sl⟩, n, ho, hc, hdn, hd2⟩, hlen⟩ := I.list hs
    obtain ⟨bs, r2⟩ := Dp.readsAll I ds ys its hds rv
    have r3 : ReadsAll s.heap its.toArray.toList ds bs := by simpa using r2
    simp only at hc hd2
    subst hc hd2
    have px := PyData.plainAll_of_canLay0 ds sx
    obtain ⟨hjs, hit, hno⟩ := hit_at (d := d) r3 px hj
    have hvl := rv.length
    have hjl : j < its.length := by simpa using hjs
    have hsl := sizeLine_eq
    have mk := SeqAt.list_indexAt a its.toArray n dd sl uy (fun w => PyData.eqv (readOf s.heap w) d) j hjs (by omega) hit hno
    refine call_meets PySem.F.slot_list_index ⟨_, ho, rfl⟩ PySem.F.entry_list_index (PySem.F.args_list_index_2 _ _) mk ⟨ho, items_plain r3 r1 px (PyData.plain_of_canLay0 d sd) ?_, ?_⟩
    · omega
    · exact ⟨.int (j : Nat), H, I.tok _, ⟨_, rfl⟩, q⟩
/-- tuple.count, of data -/
def rCountT (K : PySem.W.Frag) : V → List V → Hp → VK → Prop := fun x xs H Q => ∃ (a : PySem.Addr) (ys : List V) (y : V) (ds : List PyData) (d : PyData), x = V.ref a ∧ xs = [y] ∧ SqT K H a ys ∧ DpAll K H ys ds ∧ Dp K H y d ∧
  PyData.canLayAll0 ds = true ∧ d.canLay0 = true ∧ min (PyData.depthAll ds) d.depth ≤ 60 ∧ Q (.int ((ds.countP fun z => PyData.eqv z d : Nat) : Int)) H
theorem mt_countT (hu : X.A.units + 64 < cLine) : MtR X "tuple.count" (rCountT X.K) := by
  intro pins s σ H x xs v us Q I rx rxs h
  obtain ⟨a, ys, y, ds, d, rfl, rfl, hs, hds, hd, sx, sd, hm, q⟩ := h
  cases rx
  cases rxs with
  | cons ry rt =>
    rename_i uy ut
    cases rt
    obtain ⟨as, r1⟩ := Dp.reads I d y uy hd ry
    obtain ⟨its, rv, pl, hlen⟩ := I.tuple hs
    obtain ⟨bs, r2⟩ := Dp.readsAll I ds ys its hds rv
    have r3 : ReadsAll s.heap its.toArray.toList ds bs := by simpa using r2
    exact count_tuple_data pl r3 r1 (PyData.plainAll_of_canLay0 ds sx) (PyData.plain_of_canLay0 d sd) (by omega) ⟨.int _, H, I.tok _, ⟨_, rfl⟩, q⟩
end
end L2

namespace DL
open PySem PySem.Spec PyProof.Rows L2
/-! ### == -/
section
variable {K : PySem.W.Frag} {fnm clm : Nat → Option Addr} {S : Addr → Option Bool} {H : Hp} {G : HD}
mutual
theorem dp_of : ∀ (d : D) {v : V} {x : PyData}, Dat K fnm S H G v d → py d = some x → Dp K H v x ∧ x.canLay0 = true
  | .non, v, x, r, e => by cases dat_non r; cases e; exact ⟨.non, rfl⟩
  | .bl b, v, x, r, e => by cases dat_bl r; cases e; exact ⟨.bl b, rfl⟩
  | .int b, v, x, r, e => by cases dat_int r; cases e; exact ⟨.int b, rfl⟩
  | .str s, v, x, r, e => by obtain ⟨rfl, k, _⟩ := dat_str r; cases e; exact ⟨.str _, by simpa [PyData.canLay0] using k⟩
  | .tup ds, v, x, r, e => by
    obtain ⟨a, vs, rfl, h1, h2, h3⟩ := dat_tup r
    cases q : pys ds with
    | none => simp [py, q] at e
    | some xs =>
      simp [py, q] at e; subst e
      obtain ⟨k1, k2⟩ := dps_of ds h3 q
      exact ⟨.tup h1 k1, by simpa [PyData.canLay0] using k2⟩
  | .tpl ds, v, x, r, e => by
    obtain ⟨a, vs, rfl, h1, h2, h3⟩ := dat_tpl r
    cases q : pys ds with
    | none => simp [py, q] at e
    | some xs =>
      simp [py, q] at e; subst e
      obtain ⟨k1, k2⟩ := dps_of ds h3 q
      exact ⟨.tup h1 k1, by simpa [PyData.canLay0] using k2⟩
  | .lst ds, v, x, r, e => by
    obtain ⟨a, vs, rfl, h1, h2, h3⟩ := dat_lst r
    cases q : pys ds with
    | none => simp [py, q] at e
    | some xs =>
      simp [py, q] at e; subst e
      obtain ⟨k1, k2⟩ := dps_of ds h3 q
      exact ⟨.lst (h1.sq) k1, by simpa [PyData.canLay0] using k2⟩
  | .scr ds, v, x, r, e => by
    obtain ⟨a, vs, rfl, h1, h2, h3⟩ := dat_scr r
    cases q : pys ds with
    | none => simp [py, q] at e
    | some xs =>
      simp [py, q] at e; subst e
      obtain ⟨k1, k2⟩ := dps_of ds h3 q
      exact ⟨.lst (h1.sq) k1, by simpa [PyData.canLay0] using k2⟩
  | .ref _, _, _, _, e => by simp [py] at e
  | .rnd, _, _, _, e => by simp [py] at e
  | .ty _, _, _, _, e => by simp [py] at e
  | .fn _, _, _, _, e => by simp [py] at e
theorem dps_of : ∀ (ds : List D) {vs : List V} {xs : List PyData}, DatAll K fnm S H G vs ds → pys ds = some xs → DpAll K H vs xs ∧ PyData.canLayAll0 xs = true
  | [], _, _, .nil, e => by simp [pys] at e; subst e; exact ⟨.nil, rfl⟩
  | d :: ds, _, xs, .cons r t, e => by
    cases q1 : py d with
    | none => simp [pys, q1] at e
    | some x =>
      cases q2 : pys ds with
      | none => simp [pys, q1, q2] at e
      | some ys =>
        simp [pys, q1, q2] at e; subst e
        obtain ⟨k1, k2⟩ := dp_of d r q1
        obtain ⟨k3, k4⟩ := dps_of ds t q2
        exact ⟨.cons k1 k3, by simp [PyData.canLayAll0, k2, k4]⟩
end
theorem dpT_of (R : Hel K fnm clm S H G) {d : D} {v : V} {x : PyData} (r : Dat K fnm S H G v d) (e : pyT d G = some x) : Dp K H v x ∧ x.canLay0 = true := by
  cases d with
  | ref a =>
    have h := dat_ref r
    subst h
    cases q : G a with
    | none => simp [pyT, q] at e
    | some c =>
      cases c with
      | lst ds =>
        obtain ⟨vs, h1, h2, h3⟩ := R.cell a _ q
        cases q2 : pys ds with
        | none => simp [pyT, q, q2] at e
        | some xs =>
          simp [pyT, q, q2] at e; subst e
          obtain ⟨k1, k2⟩ := dps_of ds h3 q2
          exact ⟨.lst (SqL.of h1) k1, by simpa [PyData.canLay0] using k2⟩
      | _ => simp [pyT, q] at e
  | _ => exact dp_of _ r e
theorem str_beq (a b : List Nat) : (mkStr a == mkStr b) = (a == b) := by
  by_cases h : a = b
  · subst h; rw [beq_self_eq_true, beq_self_eq_true]
  · have : mkStr a ≠ mkStr b := fun z => h (mkStr_inj z)
    rw [beq_eq_false_iff_ne.mpr this, beq_eq_false_iff_ne.mpr h]
theorem flat_of {d : D} {v : V} (r : Dat K fnm S H G v d) (f : flatD d = true) : flatV v = true := by
  cases r <;> first | rfl | cases f
theorem eqF_of {d d' : D} {v v' : V} (r : Dat K fnm S H G v d) (r' : Dat K fnm S H G v' d') (f : flatD d = true) (f' : flatD d' = true) : eqV v v' = eqF d d' := by
  cases d <;> cases f
  all_goals (cases d' <;> cases f')
  all_goals (first | cases dat_non r | cases dat_bl r | cases dat_int r | obtain ⟨rfl, _⟩ := dat_str r)
  all_goals (first | cases dat_non r' | cases dat_bl r' | cases dat_int r' | obtain ⟨rfl, _⟩ := dat_str r')
  all_goals first | rfl | exact str_beq _ _
theorem flats_of : ∀ {ds : List D} {vs : List V}, DatAll K fnm S H G vs ds → ds.all flatD = true → vs.all flatV = true
  | [], _, .nil, _ => rfl
  | d :: ds, v :: vs, .cons r t, f => by
    have f2 : flatD d = true ∧ ds.all flatD = true := by simpa only [List.all_cons, Bool.and_eq_true] using f
    show (flatV v && vs.all flatV) = true
    rw [flat_of r f2.1, flats_of t f2.2] <;> rfl
theorem in_of {d : D} {v : V} (r : Dat K fnm S H G v d) (f : flatD d = true) : ∀ {ds : List D} {vs : List V}, DatAll K fnm S H G vs ds → ds.all flatD = true → inV v vs = ds.any fun z => eqF z d
  | [], _, .nil, _ => rfl
  | d' :: ds, v' :: vs, .cons r' t, f' => by
    have f2 : flatD d' = true ∧ ds.all flatD = true := by simpa only [List.all_cons, Bool.and_eq_true] using f'
    have ih := in_of r f t f2.2
    show (eqV v' v || inV v vs) = (eqF d' d || ds.any fun z => eqF z d)
    rw [ih, eqF_of r' r f2.1 f]
theorem in_str {d : D} {t : List Nat} {c : Bool} (e : inD d (.str t) G = some c) : ∃ x, d = .str [x] ∧ c = decide (x ∈ t) := by
  cases d with
  | str s =>
    match s, e with
    | [x], e => exact ⟨x, rfl, (Option.some.inj e).symm⟩
  | _ => exact nomatch (show (none : Option Bool) = some c from e)
theorem in_seq {d y : D} {c : Bool} (h : ∀ t, y ≠ .str t) (e : inD d y G = some c) : ∃ ds, itms y G = some ds ∧ flatD d = true ∧ ds.all flatD = true ∧ c = ds.any fun z => eqF z d := by
  have e2 : (match itms y G with | some ds => if (flatD d && ds.all flatD) = true then some (ds.any fun z => eqF z d) else none | none => none) = some c := by
    cases y <;> first | exact e | exact absurd rfl (h _)
  split at e2
  · rename_i ds q
    split at e2
    · rename_i f
      rw [Bool.and_eq_true] at f
      exact ⟨ds, q, f.1, f.2, (Option.some.inj e2).symm⟩
    · cases e2
  · cases e2
end
section
variable {fnm clm : Nat → Option Addr} {X : Cx}
def copB : COp → CmpOp → Bool
  | .eq, .Eq => true | .ne, .NotEq => true | .lt, .Lt => true | .le, .LtE => true | .gt, .Gt => true | .ge, .GtE => true | .isn, .Is => true | .nisn, .IsNot => true
  | .inn, .In => true | .nin, .NotIn => true | .ind, .In => true | .nind, .NotIn => true | _, _ => false
theorem op_eqM (hu : X.A.units + 64 < cLine) : OpR X (compareOp .Eq) (fun x y H Q => ∃ d e, Dp X.K H x d ∧ Dp X.K H y e ∧ d.canLay0 = true ∧ e.canLay0 = true ∧ min d.depth e.depth ≤ 64 ∧ Q (.bl (PyData.eqv d e)) H) := by
  intro pins s σ H x y v u Q I rx ry h
  obtain ⟨d, e, hd, he, sd, se, hm, q⟩ := h
  obtain ⟨as, r1⟩ := Dp.reads I d x v hd rx
  obtain ⟨bs, r2⟩ := Dp.reads I e y u he ry
  exact SeqAt.compareEq_reads r1 r2 sd se (by omega) ⟨.bl _, H, I, rfl, q⟩
theorem op_neM (hu : X.A.units + 64 < cLine) : OpR X (compareOp .NotEq) (fun x y H Q => ∃ d e, Dp X.K H x d ∧ Dp X.K H y e ∧ d.canLay0 = true ∧ e.canLay0 = true ∧ min d.depth e.depth ≤ 64 ∧ Q (.bl (!PyData.eqv d e)) H) := by
  intro pins s σ H x y v u Q I rx ry h
  obtain ⟨d, e, hd, he, sd, se, hm, q⟩ := h
  obtain ⟨as, r1⟩ := Dp.reads I d x v hd rx
  obtain ⟨bs, r2⟩ := Dp.reads I e y u he ry
  exact SeqAt.compareNe_reads r1 r2 sd se (by omega) ⟨.bl _, H, I, rfl, q⟩
theorem eqD_of {d d' : D} {G : HD} {b : Bool} (e : eqD d d' G = some b) : ∃ x y, pyT d G = some x ∧ pyT d' G = some y ∧ min x.depth y.depth ≤ 64 ∧ b = PyData.eqv x y := by
  unfold eqD at e
  split at e
  · rename_i x y h1 h2
    by_cases h : min x.depth y.depth ≤ 64
    · rw [if_pos h] at e; exact ⟨x, y, h1, h2, h, (Option.some.inj e).symm⟩
    · rw [if_neg h] at e; cases e
  · cases e
theorem isStr_or (y : D) : (∃ t, y = .str t) ∨ ∀ t, y ≠ .str t := by
  cases y <;> first | exact .inl ⟨_, rfl⟩ | exact .inr fun _ z => nomatch z
theorem in_ok {v v' : V} {d d' : D} {S : Addr → Option Bool} {H : Hp} {G : HD} {c : Bool} {Q : VK} {z : Bool} (R : Hel X.K fnm clm S H G) (r : Dat X.K fnm S H G v d) (r' : Dat X.K fnm S H G v' d') (e : inD d d' G = some c)
    (h : Q (.bl (if z then !c else c)) H) : (∃ (c : Nat) (s : Str), v = .str ⟨#[c]⟩ ∧ v' = .str s ∧ Q (.bl (if z then !decide (c ∈ s.cps.toList) else decide (c ∈ s.cps.toList))) H) ∨ rIn X.K z v v' H Q := by
  rcases isStr_or d' with ⟨t, rfl⟩ | hn
  · obtain ⟨x, rfl, rfl⟩ := in_str e
    obtain ⟨rfl, _⟩ := dat_str r
    obtain ⟨rfl, _⟩ := dat_str r'
    exact .inl ⟨x, mkStr t, rfl, rfl, h⟩
  · obtain ⟨ds, q, f1, f2, rfl⟩ := in_seq hn e
    obtain ⟨a, vs, rfl, h1, h2, h3⟩ := itm_ok R r' q
    refine .inr ⟨a, vs, rfl, h1, flat_of r f1, flats_of h3 f2, ?_⟩
    rw [in_of r f1 h3 f2]
    exact h
theorem cmp_eq (hu : X.A.units + 64 < cLine) {v v' : V} {d d' : D} {S : Addr → Option Bool} {H : Hp} {G : HD} {c : Bool} {Q : Bool → Prop} (R : Hel X.K fnm clm S H G) (r : Dat X.K fnm S H G v d) (r' : Dat X.K fnm S H G v' d') (e : eqD d d' G = some c) (h : Q c) :
    ∃ d e, Dp X.K H v d ∧ Dp X.K H v' e ∧ d.canLay0 = true ∧ e.canLay0 = true ∧ min d.depth e.depth ≤ 64 ∧ Q (PyData.eqv d e) := by
  obtain ⟨x, y, e1, e2, hm, rfl⟩ := eqD_of e
  obtain ⟨k1, k2⟩ := dpT_of R r e1
  obtain ⟨k3, k4⟩ := dpT_of R r' e2
  exact ⟨x, y, k1, k3, k2, k4, hm, h⟩
theorem cmp_int {f : Int → Int → Bool} {v v' : V} {d d' : D} {S : Addr → Option Bool} {H : Hp} {G : HD} {QD : KD} {Q : VK} (R : Hel X.K fnm clm S H G) (r : Dat X.K fnm S H G v d) (r' : Dat X.K fnm S H G v' d')
    (h : ok (match d, d' with | .int i, .int j => some (f i j) | _, _ => none) fun c => QD (.bl c) G) (hQ : PostE X.K fnm clm S H G QD Q) : ∃ i j, v = .int i ∧ v' = .int j ∧ Q (.bl (f i j)) H := by
  cases d <;> try exact h.elim
  cases d' <;> try exact h.elim
  cases dat_int r; cases dat_int r'
  exact ⟨_, _, rfl, rfl, hQ.here R (.bl _) h⟩
theorem cmp_ok (hu : X.A.units + 64 < cLine) : ∀ {o : COp} {op : CmpOp}, copB o op = true → ∃ r, OpR X (compareOp op) r ∧
    ∀ v v' d d' S H G Q QD, Hel X.K fnm clm S H G → Dat X.K fnm S H G v d → Dat X.K fnm S H G v' d' → (ok (cmpD o d d' G) fun c => QD (.bl c) G) → PostE X.K fnm clm S H G QD Q → r v v' H Q
  | .eq, .Eq, _ => ⟨_, op_eqM hu, fun v v' d d' S H G Q QD R r r' h hQ => by
    obtain ⟨c, e, h⟩ := ok_of h
    exact cmp_eq (Q := fun c => Q (.bl c) H) hu R r r' e (hQ.here R (.bl _) h)⟩
  | .ne, .NotEq, _ => ⟨_, op_neM hu, fun v v' d d' S H G Q QD R r r' h hQ => by
    obtain ⟨c, e, h⟩ := ok_of h
    have e : (eqD d d' G).map (!·) = some c := e
    rw [Option.map_eq_some_iff] at e
    obtain ⟨b, e0, rfl⟩ := e
    exact cmp_eq (Q := fun c => Q (.bl (!c)) H) hu R r r' e0 (hQ.here R (.bl _) h)⟩
  | .lt, .Lt, _ => ⟨_, op_lt, fun v v' d d' S H G Q QD R r r' h hQ => cmp_int (f := fun i j => decide (i < j)) R r r' h hQ⟩
  | .le, .LtE, _ => ⟨_, op_le, fun v v' d d' S H G Q QD R r r' h hQ => cmp_int (f := fun i j => decide (i ≤ j)) R r r' h hQ⟩
  | .gt, .Gt, _ => ⟨_, op_gt, fun v v' d d' S H G Q QD R r r' h hQ => cmp_int (f := fun i j => decide (j < i)) R r r' h hQ⟩
  | .ge, .GtE, _ => ⟨_, op_ge, fun v v' d d' S H G Q QD R r r' h hQ => cmp_int (f := fun i j => decide (j ≤ i)) R r r' h hQ⟩
  | .isn, .Is, _ => ⟨_, op_isN.or op_isBl, fun v v' d d' S H G Q QD R r r' h hQ => by
    cases d' <;> try exact h.elim
    · cases dat_non r'
      refine .inl ⟨rfl, hQ.here (d := .bl _) R (.bl _) ?_⟩
      cases r <;> exact h
    · cases dat_bl r'
      cases d <;> try exact h.elim
      cases dat_bl r
      exact .inr ⟨_, _, rfl, rfl, hQ.here (d := .bl _) R (.bl _) h⟩⟩
  | .nisn, .IsNot, _ => ⟨_, op_notN.or op_notBl, fun v v' d d' S H G Q QD R r r' h hQ => by
    cases d' <;> try exact h.elim
    · cases dat_non r'
      refine .inl ⟨rfl, hQ.here (d := .bl _) R (.bl _) ?_⟩
      cases r <;> exact h
    · cases dat_bl r'
      cases d <;> try exact h.elim
      cases dat_bl r
      exact .inr ⟨_, _, rfl, rfl, hQ.here (d := .bl _) R (.bl _) h⟩⟩
  | .inn, .In, _ => ⟨_, op_in_sign.or op_in_seq, fun v v' d d' S H G Q QD R r r' h hQ => by
    obtain ⟨c, e, h⟩ := ok_of h
    exact in_ok (z := false) R r r' e (hQ.here R (.bl _) h)⟩
  | .nin, .NotIn, _ => ⟨_, op_notIn_sign.or op_notIn_seq, fun v v' d d' S H G Q QD R r r' h hQ => by
    obtain ⟨c, e, h⟩ := ok_of h
    have e : (inD d d' G).map (!·) = some c := e
    rw [Option.map_eq_some_iff] at e
    obtain ⟨b, e0, rfl⟩ := e
    exact in_ok (z := true) R r r' e0 (hQ.here R (.bl _) h)⟩
  | .ind, .In, _ => ⟨_, op_inDp hu, fun v v' d d' S H G Q QD R r r' h hQ => by
    obtain ⟨c, e, h⟩ := ok_of h
    have e : indD d d' = some c := e
    unfold indD at e
    split at e
    · rename_i x xs e1 e2
      obtain ⟨k1, k2⟩ := dp_of d r e1
      obtain ⟨k3, k4⟩ := dp_of d' r' e2
      by_cases hm : min (PyData.depthAll xs) x.depth ≤ 60
      · rw [if_pos hm] at e
        cases e
        exact ⟨x, xs, k1, .inl k3, by simpa [PyData.canLay0] using k4, k2, hm, hQ.here R (.bl _) h⟩
      · rw [if_neg hm] at e; cases e
    · rename_i x xs e1 e2
      obtain ⟨k1, k2⟩ := dp_of d r e1
      obtain ⟨k3, k4⟩ := dp_of d' r' e2
      by_cases hm : min (PyData.depthAll xs) x.depth ≤ 60
      · rw [if_pos hm] at e
        cases e
        exact ⟨x, xs, k1, .inr k3, by simpa [PyData.canLay0] using k4, k2, hm, hQ.here R (.bl _) h⟩
      · rw [if_neg hm] at e; cases e
    · cases e⟩
  | .nind, .NotIn, _ => ⟨_, op_notInDp hu, fun v v' d d' S H G Q QD R r r' h hQ => by
    obtain ⟨c, e, h⟩ := ok_of h
    have e : (indD d d').map (!·) = some c := e
    rw [Option.map_eq_some_iff] at e
    obtain ⟨b, e0, rfl⟩ := e
    unfold indD at e0
    split at e0
    · rename_i x xs e1 e2
      obtain ⟨k1, k2⟩ := dp_of d r e1
      obtain ⟨k3, k4⟩ := dp_of d' r' e2
      by_cases hm : min (PyData.depthAll xs) x.depth ≤ 60
      · rw [if_pos hm] at e0
        cases e0
        exact ⟨x, xs, k1, .inl k3, by simpa [PyData.canLay0] using k4, k2, hm, hQ.here R (.bl _) h⟩
      · rw [if_neg hm] at e0; cases e0
    · rename_i x xs e1 e2
      obtain ⟨k1, k2⟩ := dp_of d r e1
      obtain ⟨k3, k4⟩ := dp_of d' r' e2
      by_cases hm : min (PyData.depthAll xs) x.depth ≤ 60
      · rw [if_pos hm] at e0
        cases e0
        exact ⟨x, xs, k1, .inr k3, by simpa [PyData.canLay0] using k4, k2, hm, hQ.here R (.bl _) h⟩
      · rw [if_neg hm] at e0; cases e0
    · cases e0⟩
end
end DL

namespace DL
open PySem PySem.Spec PyProof.Rows L2
/-! ### truth, len, items, slices -/
section
variable {K : PySem.W.Frag} {fnm clm : Nat → Option Addr} {S : Addr → Option Bool} {H : Hp} {G : HD} {v v' : V} {d d' : D} {Q : VK} {QD : KD}
theorem seqOf_some {a : Addr} {ds : List D} (h : G a = some (.lst ds)) : seqOf (.ref a) G = some ds := by simp [seqOf, h]
/-- the three kinds that have a length -/
theorem len_of (R : Hel K fnm clm S H G) (r : Dat K fnm S H G v d) {n : Nat} (e : lenD d G = some n) :
    (∃ s, d = .str s ∧ v = .str (mkStr s) ∧ s.length ≤ sizeLine ∧ n = s.length) ∨ (∃ a vs, v = .ref a ∧ (SqL K H a vs ∨ SqT K H a vs) ∧ n = vs.length) ∨ ∃ a kvs, v = .ref a ∧ H a = some (.dK kvs) ∧ n = kvs.length := by
  have seqs : ∀ ds, seqOf d G = some ds → ds.length = n → ∃ a vs, v = .ref a ∧ (SqL K H a vs ∨ SqT K H a vs) ∧ n = vs.length := fun ds h h2 => by
    obtain ⟨a, vs, h1, h3, h4, h5⟩ := seq_ok R r h
    exact ⟨a, vs, h1, .inl (h3), by rw [← h2, h5.length]⟩
  cases d with
  | str s =>
    obtain ⟨h1, h2, h3⟩ := dat_str r
    exact .inl ⟨s, rfl, h1, h3, (Option.some.inj e).symm⟩
  | tup ds =>
    obtain ⟨a, vs, h1, h2, h3, h4⟩ := dat_tup r
    exact .inr (.inl ⟨a, vs, h1, .inr h2, by rw [← Option.some.inj e, h4.length]⟩)
  | tpl ds =>
    obtain ⟨a, vs, h1, h2, h3, h4⟩ := dat_tpl r
    exact .inr (.inl ⟨a, vs, h1, .inr h2, by rw [← Option.some.inj e, h4.length]⟩)
  | lst ds => exact .inr (.inl (seqs ds rfl (Option.some.inj e)))
  | scr ds => exact .inr (.inl (seqs ds rfl (Option.some.inj e)))
  | ref a =>
    cases q : G a with
    | none => simp [lenD, seqOf, q] at e
    | some c =>
      cases c with
      | lst ds => exact .inr (.inl (seqs ds (seqOf_some q) (by simpa [lenD, seqOf, q] using e)))
      | dct kvs =>
        obtain ⟨vs, h1, h2⟩ := R.cell a _ q
        refine .inr (.inr ⟨a, vs, dat_ref r, h1, ?_⟩)
        have e : kvs.length = n := by simpa [lenD, seqOf, q] using e
        rw [← e]
        clear e h1 q r
        induction h2 with
        | nil => rfl
        | cons _ _ _ _ ih => simp [ih]
      | ins _ _ => simp [lenD, seqOf, q] at e
  | _ => exact nomatch (show (none : Option Nat) = some n from e)
theorem ne0 (n : Nat) : (n != 0) = ((n : Int) != 0) := by
  cases n with
  | zero => rfl
  | succ n =>
    have h1 : (n + 1 != 0) = true := by simp
    have h2 : (((n + 1 : Nat) : Int) != 0) = true := by simp; omega
    rw [h1, h2]
theorem ne0e {α : Type} (xs : List α) : (xs.length != 0) = !xs.isEmpty := by cases xs <;> simp
theorem tru_of (R : Hel K fnm clm S H G) (r : Dat K fnm S H G v d) {b : Bool} (e : truth d G = some b) : TruV K v H b := by
  have lens : (match lenD d G with | some n => some (n != 0) | none => none) = some b → TruV K v H b := fun e0 => by
    split at e0
    · rename_i n q
      rcases len_of R r q with ⟨s, rfl, rfl, h1, h2⟩ | ⟨a, vs, rfl, h1, h2⟩ | ⟨a, vs, rfl, h1, h2⟩
      · refine ⟨by rw [mkStr_length]; exact h1, ?_⟩
        rw [mkStr_length, ← h2, ← Option.some.inj e0, ne0]
      · rw [← Option.some.inj e0, h2, ne0e]
        rcases h1 with h1 | h1
        · exact .inl ⟨vs, h1, rfl⟩
        · exact .inr (.inl ⟨vs, h1, rfl⟩)
      · rw [← Option.some.inj e0, h2, ne0e]
        exact .inr (.inr ⟨vs, h1, rfl⟩)
    · cases e0
  cases d with
  | non => cases dat_non r; exact (Option.some.inj e).symm
  | bl b' => cases dat_bl r; exact (Option.some.inj e).symm
  | int i => cases dat_int r; exact (Option.some.inj e).symm
  | _ => exact lens e
theorem at_of {ds : List D} {vs : List V} (r : DatAll K fnm S H G vs ds) {i : Int} (e : atI ds i = some d) : ∃ v, atI vs i = some v ∧ Dat K fnm S H G v d := by
  unfold atI at e ⊢
  rw [r.length]
  cases q : ixN ds.length i with
  | none => rw [q] at e; cases e
  | some j =>
    rw [q] at e
    exact r.get e
theorem cut_of {ds : List D} {vs : List V} (r : DatAll K fnm S H G vs ds) (lo hi : Option Int) : DatAll K fnm S H G (cutV vs lo hi) (cutL ds lo hi) := by
  unfold cutV cutL
  rw [r.length]
  exact (r.drop _).take _
theorem cutL_length {α : Type} (xs : List α) (lo hi : Option Int) : (cutL xs lo hi).length ≤ xs.length := by
  unfold cutL
  rw [List.length_take, List.length_drop]; omega
theorem cutL_mem {α : Type} {xs : List α} {lo hi : Option Int} {x : α} (h : x ∈ cutL xs lo hi) : x ∈ xs := List.mem_of_mem_drop (List.mem_of_mem_take h)
theorem idx_ok (R : Hel K fnm clm S H G) (r : Dat K fnm S H G v d) (r' : Dat K fnm S H G v' d') (h0 : ok (idxD d d' G) fun x => QD x G) (hQ : PostE K fnm clm S H G QD Q) : rIx K v v' H Q := by
  obtain ⟨x, e0, h⟩ := ok_of h0
  clear h0
  cases d' with
  | int i =>
    cases dat_int r'
    have itms_ : (match itms d G with | some ds => atI ds i | none => none) = some x → rIx K v (.int i) H Q := fun e => by
      split at e
      · rename_i ds q
        obtain ⟨a, vs, rfl, h1, h2, h3⟩ := itm_ok R r q
        obtain ⟨u, h4, h5⟩ := at_of h3 e
        rcases h1 with h1 | h1
        · exact .inl ⟨a, vs, i, u, rfl, rfl, h1, h4, hQ.here R h5 h⟩
        · exact .inr (.inl ⟨a, vs, i, u, rfl, rfl, h1, h4, hQ.here R h5 h⟩)
      · cases e
    cases d with
    | str s =>
      obtain ⟨rfl, k, hl⟩ := dat_str r
      have e1 : (atI s i).map (fun c => D.str [c]) = some x := e0
      clear e0
      rw [Option.map_eq_some_iff] at e1
      obtain ⟨c, e, rfl⟩ := e1
      refine .inr (.inr ⟨mkStr s, i, c, rfl, rfl, by rw [mkStr_length]; exact hl, by simpa [mkStr] using e, hQ.here R (.str [c] ?_ (by rw [lim_eq]; show 1 ≤ lim; decide)) h⟩)
      rw [strOk_iff] at k ⊢
      intro z hz
      rw [List.mem_singleton] at hz
      subst hz
      obtain ⟨j, _, q, _⟩ := atI_get e
      exact k z (List.mem_of_getElem? q)
    | _ => exact itms_ e0
  | _ => exact nomatch (show (none : Option D) = some x from e0)
theorem sl_okD (R : Hel K fnm clm S H G) (r : Dat K fnm S H G v d) {z : Bool} {lo hi : Option Int} (h : slD z d lo hi G QD) (hQ : PostE K fnm clm S H G QD Q) :
    rSlS v lo hi H Q ∨ rSlP K v lo hi H Q ∨ rSlL K v lo hi H Q := by
  have seqs : (ok (seqOf d G) fun ds => newL z (cutL ds lo hi) G QD) → rSlL K v lo hi H Q := fun h => by
    obtain ⟨ds, e, h⟩ := ok_of h
    obtain ⟨a, vs, rfl, h1, h2, h3⟩ := seq_ok R r e
    exact ⟨a, vs, rfl, h1, new_list R (Nat.le_trans (cutV_length _ _ _) h2) (cut_of h3 lo hi) h hQ⟩
  cases d with
  | str s =>
    obtain ⟨rfl, k, hl⟩ := dat_str r
    refine .inl ⟨mkStr s, rfl, by rw [mkStr_length]; exact hl, ?_⟩
    have e : cutS (mkStr s) lo hi = mkStr (cutL s lo hi) := by simp [cutS, mkStr, cutL, Str.length]
    rw [e]
    refine hQ.here R (.str _ ?_ (Nat.le_trans (cutL_length _ _ _) hl)) h
    rw [strOk_iff] at k ⊢
    exact fun c hc => k c (cutL_mem hc)
  | tup ds =>
    obtain ⟨a, vs, rfl, h1, h2, h3⟩ := dat_tupP r
    have h : QD (.tup (cutL ds lo hi)) G := h
    have c := cut_of h3 lo hi
    refine .inr (.inl ⟨a, vs, rfl, h1.sq, fun w => ?_, fun _ => new_tup R (Nat.le_trans (cutV_length _ _ _) h2) c h hQ⟩)
    have e : cutL ds lo hi = ds := by
      unfold cutL
      rw [← h3.length, w.1, w.2, List.drop_zero, Nat.sub_zero, h3.length, List.take_length]
    rw [e] at h
    exact hQ.here R (.tup h1 h2 h3) h
  | _ => exact .inr (.inr (seqs h))
theorem frz_ok (R : Hel K fnm clm S H G) (r : Dat K fnm S H G v d) (h : frzD d G QD) (hQ : PostE K fnm clm S H G QD Q) : Q v H := by
  cases d with
  | ref a =>
    cases dat_ref r
    cases q : G a with
    | none => simp [frzD, q] at h
    | some c =>
      cases c with
      | lst ds =>
        simp only [frzD, q] at h
        obtain ⟨vs, h1, h2, h3⟩ := R.cell a _ q
        have st : Step S H G S H (delD G a) := .less sub_del
        have ns : S a = none := R.live (by rw [q]; simp)
        exact hQ _ S H _ _ st (R.less sub_del) (.lst h1 delD_same ns h2 (h3.step R st)) h
      | dct _ => simp [frzD, q] at h
      | ins _ _ => simp [frzD, q] at h
  | _ => exact hQ.here R r h
end
end DL

namespace PySem
section
variable {prog : Program} {w : World} {A : Around} {R : Result → Shared → Prop} {I : Addr} {fp wr : List Addr} {n : Nat} {P : Nat → Value → Prop} {St : Nat → Heap → Prop} {s : Shared}
/-- a value's truth where the heap still has what it had -/
def TruthIn (prog : Program) (w : World) (A : Around) (wr : List Addr) (s : Shared) (P : Nat → Value → Prop) (tr : Nat → Bool) : Prop :=
  ∀ i v h' tk (Q : Bool → Shared → Prop) (E : Value → Shared → Prop), P i v → (∀ b o, b ∉ wr → s.heap.get? b = some o → h'.get? b = some o) → (∀ tk', Q (tr i) { s with heap := h', toks := tk' }) → wpAny (model prog w) A (truthy v) Q E { s with heap := h', toks := tk }
theorem codeAny_all_loopH (W : Walks prog w A.in1 I fp wr n P St) (tr : Nat → Bool) (htr : TruthIn prog w A.in1 wr s P tr) : ∀ (k i : Nat) h tk, n - i = k → i ≤ n → St i h →
    (∀ b o, b ∉ wr → s.heap.get? b = some o → h.get? b = some o) →
    (∀ h' tk, (∀ b o, b ∉ wr → s.heap.get? b = some o → h'.get? b = some o) → R (.ok (.ret (.bool (((List.range n).drop i).all tr)))) { s with heap := h', toks := tk }) →
    codeAny (model prog w) A (.builtin "all.loop" ⟨[.ref I], []⟩) R { s with heap := h, toks := tk } := by
  intro k
  induction k with
  | zero =>
    intro i h tk hk hi hst hh hR
    have hin : i = n := by omega
    subst hin
    refine codeAny_builtin F.entry_all_loop ?_
    rw [Around.under_plainId F.plain_all_loop _]
    show wpAny _ A.in1 (pyNext (.ref I) >>= _) _ _ _
    refine wpAny_bind (W.done _ _ _ hst fun h' tk hk' => ?_)
    refine wpAny_bind (wpAny_rule (wpAny_pure ?_))
    have := hR h' tk fun b o hb e => hk' b o hb (hh b o hb e)
    rw [List.drop_of_length_le (by simp)] at this
    exact this
  | succ k ih =>
    intro i h tk hk hi hst hh hR
    have hlt : i < n := by omega
    have hd : (List.range n).drop i = i :: (List.range n).drop (i + 1) := by
      rw [List.drop_eq_getElem_cons (by simpa using hlt)]; simp
    refine codeAny_builtin F.entry_all_loop ?_
    rw [Around.under_plainId F.plain_all_loop _]
    show wpAny _ A.in1 (pyNext (.ref I) >>= _) _ _ _
    refine wpAny_bind (W.item i _ _ _ hlt hst fun v h' tk hP hst' hk' => ?_)
    have hh' : ∀ b o, b ∉ wr → s.heap.get? b = some o → h'.get? b = some o := fun b o hb e => hk' b o hb (hh b o hb e)
    refine wpAny_bind (wpAny_holding (htr i v h' tk _ _ hP hh' fun tk' => ?_))
    refine wpAny_bind (wpAny_letGo ?_)
    cases hb : tr i with
    | true =>
      simp only [if_true]
      refine wpAny_pure ⟨plainId_quiet F.plain_all_loop _, ih (i + 1) h' _ (by omega) hlt hst' hh' fun h'' tk'' hk'' => ?_⟩
      have := hR h'' tk'' hk''
      rw [hd, List.all_cons, hb, Bool.true_and] at this
      exact this
    | false =>
      simp only [Bool.false_eq_true, if_false]
      refine wpAny_bind (wpAny_rule (wpAny_pure ?_))
      have := hR h' tk' hh'
      rw [hd, List.all_cons, hb, Bool.false_and] at this
      exact this
end
section
variable {prog : Program} {w : World} {A : Around} {E : Value → Shared → Prop} {s : Shared}
theorem call_all_walkH {x : Value} {Q : Value → Shared → Prop}
    (h : wpAny (model prog w) A.in1 (pyIter x) (fun it s₂ => ∃ I fp wr n P St tr, it = .ref I ∧ Walks prog w A.in1 I fp wr n P St ∧ St 0 s₂.heap ∧ TruthIn prog w A.in1 wr s₂ P tr ∧
      ∀ h' tk, (∀ b o, b ∉ wr → s₂.heap.get? b = some o → h'.get? b = some o) → Q (.bool ((List.range n).all tr)) { s₂ with heap := h', toks := tk }) E s) :
    wpAny (model prog w) A (call (.builtin "all") [x]) Q E s := by
  refine call_function_tree F.kind_all F.plain_all F.entry_all (F.args_all1 _) ?_
  unfold Builtin.«all»
  refine wpAny_bind (m := oneArg "all" _) (wpAny_pure ?_)
  refine wpAny_bind (wpAny_mono h (fun it s₂ h₂ => ?_) fun _ _ e => e)
  obtain ⟨I, fp, wr, n, P, St, tr, rfl, W, hst, htr, hQ⟩ := h₂
  exact wpAny_pure ⟨plainId_quiet F.plain_all_loop _, codeAny_all_loopH (s := s₂) W tr htr n 0 s₂.heap s₂.toks rfl (Nat.zero_le _) hst (fun _ _ _ e => e) fun h' tk hk => by simpa using hQ h' tk hk⟩
end
end PySem
namespace L2
open PySem PySem.Spec
section
variable {X : Cx}
/-- lists, and whether each bears something -/
inductive LsT (K : PySem.W.Frag) (H : Hp) : List V → List Bool → Prop where
  | nil : LsT K H [] []
  | cons {p : Addr} {ys : List V} {xs : List V} {bs : List Bool} : SqL K H p ys → LsT K H xs bs → LsT K H (V.ref p :: xs) ((!ys.isEmpty) :: bs)
theorem LsT.get {K : PySem.W.Frag} {H : Hp} : ∀ {xs : List V} {bs : List Bool} {i : Nat} {x : V}, LsT K H xs bs → xs[i]? = some x → ∃ p ys, x = V.ref p ∧ SqL K H p ys ∧ bs.getD i false = !ys.isEmpty
  | _, _, 0, x, .cons h t, e => by cases e; exact ⟨_, _, rfl, h, rfl⟩
  | _, _, i + 1, x, .cons h t, e => t.get e
theorem LsT.len {K : PySem.W.Frag} {H : Hp} : ∀ {xs : List V} {bs : List Bool}, LsT K H xs bs → xs.length = bs.length
  | _, _, .nil => rfl
  | _, _, .cons _ t => congrArg (· + 1) t.len
def rAllL (K : PySem.W.Frag) : List V → Hp → VK → Prop := fun vs H Q => ∃ (a : Addr) (xs : List V) (bs : List Bool), vs = [V.ref a] ∧ SqL K H a xs ∧ LsT K H xs bs ∧ Q (.bl (bs.all id)) H
theorem cr_allL (hc : X.calm = true) : CallR X (.builtin "all") (rAllL X.K) := by
  intro pins s σ H vs us Q I r h
  obtain ⟨a, xs, bs, rfl, hs, hl0, q⟩ := h
  obtain ⟨its, rv, hl, _⟩ := I.list hs
  rw [Vals.ref1 r]
  refine call_all_walkH (iter_any hl.isList fun s₂ e2 st hne => ?_)
  subst e2
  have keep : ∀ {h' : Heap} {tk}, (∀ b o, b ∉ [s.heap.objs.size] → (s.heap.push { cls := .type "list_iterator", data := .fields #[.ref a, .int 0 0] }).get? b = some o → h'.get? b = some o) → Inv X pins σ H { s with heap := h', toks := tk } := fun {h' tk} hk =>
    I.kept fun b o eo => hk b o (fun hmem => by
      rcases List.mem_cons.mp hmem with e1 | hmem
      · exact absurd (e1 ▸ Heap.lt_size eo) (Nat.lt_irrefl _)
      · cases hmem) (Heap.get?_push_of_some _ eo)
  refine ⟨_, _, _, _, _, _, (fun i => bs.getD i false), rfl, Walks.list (A := X.A.in1) (I.ok.hd hc) _ a hne its.toArray, st, fun i v h' tk Q' E' hP hk hQ => ?_, fun h' tk hk => ?_⟩
  · have hv' : its[i]? = some v := by simpa using hP
    obtain ⟨x, hx⟩ : ∃ x, xs[i]? = some x := by
      cases e : xs[i]? with
      | some x => exact ⟨x, rfl⟩
      | none => rw [Vals.none_of rv e] at hv'; cases hv'
    obtain ⟨u, hu, rx⟩ := Vals.get rv hx
    rw [hv'] at hu
    cases hu
    obtain ⟨p, ys, rfl, hy, hb⟩ := hl0.get hx
    cases rx
    obtain ⟨its2, r2, pl, hz⟩ := (keep (tk := tk) hk).list hy
    have hlen := r2.length
    refine wpAny_truthy_list pl.isList (by simp only [List.size_toArray]; have := sizeLine_eq; omega) ?_
    rw [isEmpty_of r2, ← hb]
    exact hQ _
  · refine ⟨.bl _, H, keep hk, ?_, q⟩
    show Value.bool _ = Value.bool _
    rw [← all_range, List.size_toArray, ← hl0.len, rv.length]
end
end L2

namespace DL
open PySem PySem.Spec PyProof.Rows L2
/-! ### built-ins -/
section
variable {K : PySem.W.Frag} {fnm clm : Nat → Option Addr} {S : Addr → Option Bool} {H : Hp} {G : HD} {v v' : V} {d d' : D} {Q : VK} {QD : KD}
theorem bls_of : ∀ {ds : List D} {vs : List V} {bs : List Bool}, DatAll K fnm S H G vs ds → blsOf ds = some bs → vs = bs.map V.bl
  | [], _, _, .nil, e => by cases e; rfl
  | d :: ds, v :: vs, bs, .cons r t, e => by
    cases d with
    | bl b =>
      have e : (blsOf ds).map (b :: ·) = some bs := e
      rw [Option.map_eq_some_iff] at e
      obtain ⟨cs, e1, rfl⟩ := e
      cases dat_bl r
      rw [bls_of t e1]; rfl
    | _ => exact nomatch (show (none : Option (List Bool)) = some bs from e)
theorem ints_of : ∀ {ds : List D} {vs : List V} {bs : List Int}, DatAll K fnm S H G vs ds → intsOf ds = some bs → vs = bs.map V.int
  | [], _, _, .nil, e => by cases e; rfl
  | d :: ds, v :: vs, bs, .cons r t, e => by
    cases d with
    | int b =>
      have e : (intsOf ds).map (b :: ·) = some bs := e
      rw [Option.map_eq_some_iff] at e
      obtain ⟨cs, e1, rfl⟩ := e
      cases dat_int r
      rw [ints_of t e1]; rfl
    | _ => exact nomatch (show (none : Option (List Int)) = some bs from e)
theorem strs_of : ∀ {ds : List D} {vs : List V} {bs : List (List Nat)}, DatAll K fnm S H G vs ds → strsOf ds = some bs → vs = (bs.map mkStr).map V.str ∧ ∀ b ∈ bs, PyData.strOk (mkStr b) = true
  | [], _, _, .nil, e => by cases e; exact ⟨rfl, fun _ z => nomatch z⟩
  | d :: ds, v :: vs, bs, .cons r t, e => by
    cases d with
    | str b =>
      have e : (strsOf ds).map (b :: ·) = some bs := e
      rw [Option.map_eq_some_iff] at e
      obtain ⟨cs, e1, rfl⟩ := e
      obtain ⟨rfl, k, _⟩ := dat_str r
      obtain ⟨h1, h2⟩ := strs_of t e1
      rw [h1]
      refine ⟨rfl, fun x hx => ?_⟩
      rcases List.mem_cons.mp hx with rfl | hx
      · exact k
      · exact h2 x hx
    | _ => exact nomatch (show (none : Option (List (List Nat))) = some bs from e)
theorem glue_of' (s : List Nat) : ∀ ss : List (List Nat), Str.join (mkStr s) (ss.map mkStr) = mkStr (joinL s ss)
  | [] => rfl
  | [x] => rfl
  | x :: y :: r => by
    have ih := glue_of' s (y :: r)
    show mkStr x ++ mkStr s ++ Str.join (mkStr s) ((y :: r).map mkStr) = _
    rw [ih, mkStr_append, mkStr_append]; rfl
theorem glue_of (s : List Nat) (ss : List (List Nat)) : Txt.join (mkStr s) (ss.map mkStr) = mkStr (joinL s ss) := by
  unfold Txt.join
  rw [StrLaws.glued_eq_join]
  exact glue_of' s ss
theorem joinL_len (s : List Nat) : ∀ ss : List (List Nat), (joinL s ss).length ≤ (ss.map List.length).sum + ss.length * s.length
  | [] => Nat.zero_le _
  | [x] => by simp [joinL]
  | x :: y :: r => by
    have ih := joinL_len s (y :: r)
    simp only [joinL, List.length_append, List.map_cons, List.sum_cons, List.length_cons, Nat.add_mul, Nat.one_mul] at ih ⊢
    omega
theorem joinL_mem (s : List Nat) : ∀ {ss : List (List Nat)} {c : Nat}, c ∈ joinL s ss → c ∈ s ∨ ∃ x ∈ ss, c ∈ x
  | [], _, h => nomatch h
  | [x], _, h => .inr ⟨x, List.mem_singleton.mpr rfl, h⟩
  | x :: y :: r, c, h => by
    simp only [joinL, List.mem_append] at h
    rcases h with (h | h) | h
    · exact .inr ⟨x, List.mem_cons_self, h⟩
    · exact .inl h
    · rcases joinL_mem s h with h | ⟨z, hz, h⟩
      · exact .inl h
      · exact .inr ⟨z, List.mem_cons_of_mem _ hz, h⟩
end
section
variable {fnm clm : Nat → Option Addr} {X : Cx}
/-- a built-in's name and kind: true for a built-in type -/
def bfName : Bf → Str
  | .len => "len" | .abs => "abs" | .int => "int" | .bool => "bool" | .tuple => "tuple" | .list => "list" | .all => "all" | .any => "any" | .min => "min" | .max => "max" | .sum => "sum" | .ord => "ord" | .str => "str" | .allT => "all"
def bfVal : Bf → Value
  | .len => .builtin "len" | .abs => .builtin "abs" | .int => .type "int" | .bool => .type "bool" | .tuple => .type "tuple" | .list => .type "list" | .all => .builtin "all" | .any => .builtin "any" | .min => .builtin "min" | .max => .builtin "max"
  | .sum => .builtin "sum" | .ord => .builtin "ord" | .str => .type "str" | .allT => .builtin "all"
theorem one_of {K : PySem.W.Frag} {S : Addr → Option Bool} {H : Hp} {G : HD} {vs : List V} {d : D} (r : DatAll K fnm S H G vs [d]) : ∃ v, vs = [v] ∧ Dat K fnm S H G v d := by
  cases r with
  | cons a b => cases b; exact ⟨_, rfl, a⟩
theorem two_of {K : PySem.W.Frag} {S : Addr → Option Bool} {H : Hp} {G : HD} {vs : List V} {d e : D} (r : DatAll K fnm S H G vs [d, e]) : ∃ v w, vs = [v, w] ∧ Dat K fnm S H G v d ∧ Dat K fnm S H G w e := by
  cases r with
  | cons a b =>
    cases b with
    | cons b c => cases c; exact ⟨_, _, rfl, a, b⟩
abbrev BfOk (fnm clm : Nat → Option Addr) (X : Cx) (f : Bf) (r : List V → Hp → VK → Prop) : Prop :=
  ∀ z vs ds S H G Q QD, Hel X.K fnm clm S H G → DatAll X.K fnm S H G vs ds → bfD z f ds G QD → PostE X.K fnm clm S H G QD Q → r vs H Q
theorem bf_len : ∃ r, CallR X (.builtin "len") r ∧ BfOk fnm clm X .len r := by
  refine ⟨_, call_len.or call_lenD, fun z vs ds S H G Q QD R r h hQ => ?_⟩
  match ds, r, h with
  | [x], r, h =>
    obtain ⟨v, rfl, q⟩ := one_of r
    obtain ⟨n, e, g⟩ := ok_of (show ok (lenD x G) fun n => QD (.int n) G from h)
    rcases len_of R q e with ⟨s, rfl, rfl, h1, h2⟩ | ⟨a, vs, rfl, h1, h2⟩ | ⟨a, vs, rfl, h1, h2⟩
    · exact .inl ⟨_, n, rfl, ⟨by rw [mkStr_length]; exact h1, by rw [mkStr_length]; exact h2⟩, hQ.here R (.int _) g⟩
    · refine .inl ⟨_, n, rfl, ?_, hQ.here R (.int _) g⟩
      rcases h1 with h1 | h1
      · exact .inl ⟨vs, h1, h2⟩
      · exact .inr ⟨vs, h1, h2⟩
    · exact .inr ⟨a, vs, rfl, h1, by rw [← h2]; exact hQ.here R (.int _) g⟩
  | [], _, h => exact h.elim
  | _ :: _ :: _, _, h => exact h.elim
theorem bf_abs : ∃ r, CallR X (.builtin "abs") r ∧ BfOk fnm clm X .abs r := by
  refine ⟨_, call_abs, fun z vs ds S H G Q QD R r h hQ => ?_⟩
  match ds, r, h with
  | [.int i], r, h =>
    obtain ⟨v, rfl, q⟩ := one_of r
    cases dat_int q
    refine ⟨i, rfl, ?_⟩
    have e : (if i < 0 then -i else i) = (i.natAbs : Int) := by split <;> omega
    rw [e]
    exact hQ.here R (.int _) h
theorem bf_int : ∃ r, CallR X (.type "int") r ∧ BfOk fnm clm X .int r := by
  refine ⟨_, call_int1, fun z vs ds S H G Q QD R r h hQ => ?_⟩
  match ds, r, h with
  | [.int i], r, h =>
    obtain ⟨v, rfl, q⟩ := one_of r
    cases dat_int q
    exact .inl ⟨i, rfl, hQ.here R (.int _) h⟩
  | [.bl i], r, h =>
    obtain ⟨v, rfl, q⟩ := one_of r
    cases dat_bl q
    exact .inr ⟨i, rfl, hQ.here R (.int _) h⟩
theorem bf_bool : ∃ r, CallR X (.type "bool") r ∧ BfOk fnm clm X .bool r := by
  refine ⟨_, call_bool1, fun z vs ds S H G Q QD R r h hQ => ?_⟩
  match ds, r, h with
  | [.int i], r, h =>
    obtain ⟨v, rfl, q⟩ := one_of r
    cases dat_int q
    exact .inl ⟨i, rfl, hQ.here R (.bl _) h⟩
  | [.bl i], r, h =>
    obtain ⟨v, rfl, q⟩ := one_of r
    cases dat_bl q
    exact .inr ⟨i, rfl, hQ.here R (.bl _) h⟩
theorem bf_tuple : ∃ r, CallR X (.type "tuple") r ∧ BfOk fnm clm X .tuple r := by
  refine ⟨_, call_tupP, fun z vs ds S H G Q QD R r h hQ => ?_⟩
  match ds, r, h with
  | [x], r, h =>
    obtain ⟨v, rfl, q⟩ := one_of r
    obtain ⟨es, e, g⟩ := ok_of (show ok (itmT x G) fun ds => QD (.tup ds) G from h)
    have lst : seqOf x G = some es → ∃ p ys, [v] = [V.ref p] ∧ ((SqL X.K H p ys ∧ NewP H ys Q) ∨ (SqT X.K H p ys ∧ Q (.ref p) H)) := fun e => by
      obtain ⟨a, ws, rfl, h1, h2, h3⟩ := seq_ok R q e
      exact ⟨a, ws, rfl, .inl ⟨h1, new_tup R h2 h3 g hQ⟩⟩
    cases x with
    | tup xs =>
      cases e
      obtain ⟨a, ws, rfl, h1, h2, h3⟩ := dat_tupP q
      exact ⟨a, ws, rfl, .inr ⟨h1.sq, hQ.here R (.tup h1 h2 h3) g⟩⟩
    | _ => exact lst e
  | [], _, h => exact h.elim
  | _ :: _ :: _, _, h => exact h.elim
theorem bf_list : ∃ r, CallR X (.type "list") r ∧ BfOk fnm clm X .list r := by
  refine ⟨_, call_list_of, fun z vs ds S H G Q QD R r h hQ => ?_⟩
  match ds, r, h with
  | [x], r, h =>
    obtain ⟨v, rfl, q⟩ := one_of r
    obtain ⟨es, e, g⟩ := ok_of (show ok (itms x G) fun ds => newL z ds G QD from h)
    obtain ⟨a, ws, rfl, h1, h2, h3⟩ := itm_ok R q e
    exact ⟨a, ws, rfl, h1, new_list R h2 h3 g hQ⟩
  | [], _, h => exact h.elim
  | _ :: _ :: _, _, h => exact h.elim
theorem bf_all (hc : X.calm = true) : ∃ r, CallR X (.builtin "all") r ∧ BfOk fnm clm X .all r := by
  refine ⟨_, cr_all hc, fun z vs ds S H G Q QD R r h hQ => ?_⟩
  match ds, r, h with
  | [x], r, h =>
    obtain ⟨v, rfl, q⟩ := one_of r
    obtain ⟨es, e, g⟩ := ok_of (show ok (seqOf x G) fun ds => ok (blsOf ds) fun bs => QD (.bl (bs.all id)) G from h)
    obtain ⟨bs, e2, g2⟩ := ok_of g
    obtain ⟨a, ws, rfl, h1, h2, h3⟩ := seq_ok R q e
    have e3 := bls_of h3 e2
    subst e3
    exact ⟨a, bs, rfl, h1, hQ.here R (.bl _) g2⟩
  | [], _, h => exact h.elim
  | _ :: _ :: _, _, h => exact h.elim
theorem lsb_of {K : PySem.W.Frag} {S : Addr → Option Bool} {H : Hp} {G : HD} (R : Hel K fnm clm S H G) : ∀ {ds : List D} {vs : List V} {bs : List Bool}, DatAll K fnm S H G vs ds → lsbOf ds G = some bs → LsT K H vs bs
  | [], _, _, .nil, e => by cases e; exact .nil
  | d :: ds, v :: vs, bs, .cons r t, e => by
    unfold lsbOf at e
    split at e
    · rename_i es cs e1 e2
      cases e
      obtain ⟨a, ws, rfl, h1, _, h3⟩ := seq_ok R r e1
      have hh : ws.isEmpty = es.isEmpty := by cases h3 <;> rfl
      rw [← hh]
      exact .cons h1 (lsb_of R t e2)
    · cases e
theorem bf_allT (hc : X.calm = true) : ∃ r, CallR X (.builtin "all") r ∧ BfOk fnm clm X .allT r := by
  refine ⟨_, cr_allL hc, fun z vs ds S H G Q QD R r h hQ => ?_⟩
  match ds, r, h with
  | [x], r, h =>
    obtain ⟨v, rfl, q⟩ := one_of r
    obtain ⟨es, e, g⟩ := ok_of (show ok (seqOf x G) fun ds => ok (lsbOf ds G) fun bs => QD (.bl (bs.all id)) G from h)
    obtain ⟨bs, e2, g2⟩ := ok_of g
    obtain ⟨a, ws, rfl, h1, h2, h3⟩ := seq_ok R q e
    exact ⟨a, ws, bs, rfl, h1, lsb_of R h3 e2, hQ.here R (.bl _) g2⟩
  | [], _, h => exact h.elim
  | _ :: _ :: _, _, h => exact h.elim
theorem bf_any (hc : X.calm = true) : ∃ r, CallR X (.builtin "any") r ∧ BfOk fnm clm X .any r := by
  refine ⟨_, cr_any hc, fun z vs ds S H G Q QD R r h hQ => ?_⟩
  match ds, r, h with
  | [x], r, h =>
    obtain ⟨v, rfl, q⟩ := one_of r
    obtain ⟨es, e, g⟩ := ok_of (show ok (seqOf x G) fun ds => ok (blsOf ds) fun bs => QD (.bl (bs.any id)) G from h)
    obtain ⟨bs, e2, g2⟩ := ok_of g
    obtain ⟨a, ws, rfl, h1, h2, h3⟩ := seq_ok R q e
    have e3 := bls_of h3 e2
    subst e3
    exact ⟨a, bs, rfl, h1, hQ.here R (.bl _) g2⟩
  | [], _, h => exact h.elim
  | _ :: _ :: _, _, h => exact h.elim
theorem bf_sum (hc : X.calm = true) : ∃ r, CallR X (.builtin "sum") r ∧ BfOk fnm clm X .sum r := by
  refine ⟨_, cr_sum hc, fun z vs ds S H G Q QD R r h hQ => ?_⟩
  match ds, r, h with
  | [x], r, h =>
    obtain ⟨v, rfl, q⟩ := one_of r
    obtain ⟨es, e, g⟩ := ok_of (show ok (seqOf x G) fun ds => ok (intsOf ds) fun bs => QD (.int bs.sum) G from h)
    obtain ⟨bs, e2, g2⟩ := ok_of g
    obtain ⟨a, ws, rfl, h1, h2, h3⟩ := seq_ok R q e
    have e3 := ints_of h3 e2
    subst e3
    exact ⟨a, bs, rfl, h1, hQ.here R (.int _) g2⟩
  | [], _, h => exact h.elim
  | _ :: _ :: _, _, h => exact h.elim
theorem mm_of {f : Bf} {vs : List V} {x : D} {S : Addr → Option Bool} {H : Hp} {G : HD} {P : List Int → Prop} (R : Hel X.K fnm clm S H G) (r : DatAll X.K fnm S H G vs [x]) (h : ok (seqOf x G) fun ds => ok (intsOf ds) fun ns => P ns) :
    ∃ (a : Addr) (ns : List Int), vs = [V.ref a] ∧ SqL X.K H a (ns.map V.int) ∧ P ns := by
  obtain ⟨v, rfl, q⟩ := one_of r
  obtain ⟨es, e, g⟩ := ok_of h
  obtain ⟨bs, e2, g2⟩ := ok_of g
  obtain ⟨a, ws, rfl, h1, h2, h3⟩ := seq_ok R q e
  have e3 := ints_of h3 e2
  subst e3
  exact ⟨a, bs, rfl, h1, g2⟩
theorem bf_min (hc : X.calm = true) : ∃ r, CallR X (.builtin "min") r ∧ BfOk fnm clm X .min r := by
  refine ⟨_, (call_min2 hc).or (cr_min hc), fun z vs ds S H G Q QD R r h hQ => ?_⟩
  match ds, r, h with
  | [x], r, h =>
    have h : ok (seqOf x G) fun ds => ok (intsOf ds) fun ns => 0 < ns.length ∧ ∀ m, m ∈ ns → (∀ y, y ∈ ns → m ≤ y) → QD (.int m) G := by
      cases x <;> exact h
    obtain ⟨a, ns, rfl, h1, h2, h3⟩ := mm_of (f := .min) R r h
    exact .inr ⟨a, ns, rfl, h1, h2, fun m h4 h5 => hQ.here R (.int _) (h3 m h4 h5)⟩
  | [x, y], r, h =>
    obtain ⟨v, w, rfl, r1, r2⟩ := two_of r
    cases x <;> try exact h.elim
    cases y <;> try exact h.elim
    cases dat_int r1; cases dat_int r2
    exact .inl ⟨_, _, rfl, hQ.here R (.int _) h⟩
  | [], _, h => exact h.elim
  | _ :: _ :: _ :: _, _, h => exact absurd h (by simp [bfD])
theorem bf_max (hc : X.calm = true) : ∃ r, CallR X (.builtin "max") r ∧ BfOk fnm clm X .max r := by
  refine ⟨_, (call_max2 hc).or (cr_max hc), fun z vs ds S H G Q QD R r h hQ => ?_⟩
  match ds, r, h with
  | [x], r, h =>
    have h : ok (seqOf x G) fun ds => ok (intsOf ds) fun ns => 0 < ns.length ∧ ∀ m, m ∈ ns → (∀ y, y ∈ ns → y ≤ m) → QD (.int m) G := by
      cases x <;> exact h
    obtain ⟨a, ns, rfl, h1, h2, h3⟩ := mm_of (f := .max) R r h
    exact .inr ⟨a, ns, rfl, h1, h2, fun m h4 h5 => hQ.here R (.int _) (h3 m h4 h5)⟩
  | [x, y], r, h =>
    obtain ⟨v, w, rfl, r1, r2⟩ := two_of r
    cases x <;> try exact h.elim
    cases y <;> try exact h.elim
    cases dat_int r1; cases dat_int r2
    exact .inl ⟨_, _, rfl, hQ.here R (.int _) h⟩
  | [], _, h => exact h.elim
  | _ :: _ :: _ :: _, _, h => exact absurd h (by simp [bfD])
theorem bf_ord : ∃ r, CallR X (.builtin "ord") r ∧ BfOk fnm clm X .ord r := by
  refine ⟨_, call_ord, fun z vs ds S H G Q QD R r h hQ => ?_⟩
  match ds, r, h with
  | [.str [c]], r, h =>
    obtain ⟨v, rfl, q⟩ := one_of r
    obtain ⟨rfl, _⟩ := dat_str q
    exact ⟨_, rfl, rfl, hQ.here R (.int _) h⟩
theorem ofString_ok (t : String) : PyData.strOk (Str.ofString t) = true := by
  unfold PyData.strOk
  rw [← Array.all_toList, List.all_eq_true]
  intro c hc
  rw [Str.ofString_eq_toList] at hc
  simp only [List.mem_map] at hc
  obtain ⟨ch, _, rfl⟩ := hc
  have h := ch.valid
  have e : ch.toNat = ch.val.toNat := rfl
  rw [decide_eq_true_eq, e]
  rcases h with h | ⟨_, h⟩ <;> omega
theorem call_strI : CallR X (.type "str") (fun xs H Q => ∃ i, xs = [.int i] ∧ i.natAbs.log2 < 1920 ∧ Q (.str (toString i)) H) := by
  intro pins s σ H xs us Q I r h
  obtain ⟨i, rfl, hz, q⟩ := h
  obtain ⟨u, rfl, t, rfl⟩ := vals1 r
  refine PySem.P.str_of_int hz ?_
  exact ⟨.str _, H, I.tok _, ⟨_, rfl⟩, q⟩
theorem bf_str : ∃ r, CallR X (.type "str") r ∧ BfOk fnm clm X .str r := by
  refine ⟨_, call_strI, fun z vs ds S H G Q QD R r h hQ => ?_⟩
  match ds, r, h with
  | [.int i], r, h =>
    obtain ⟨v, rfl, q⟩ := one_of r
    cases dat_int q
    have h : i.natAbs.log2 < 1920 ∧ ∀ s : List Nat, mkStr s = Str.ofString (toString i) → QD (.str s) G := h
    have e := mkStr_of (Str.ofString (toString i))
    have q2 := h.2 _ e
    have r2 : Dat X.K fnm S H G (.str (mkStr (Str.ofString (toString i)).cps.toList)) (.str (Str.ofString (toString i)).cps.toList) :=
      .str _ (by rw [e]; exact ofString_ok _) (int_text_fits h.1)
    rw [e] at r2
    exact ⟨_, rfl, h.1, hQ.here R r2 q2⟩
theorem bf_ok (hc : X.calm = true) (f : Bf) : ∃ r, CallR X (bfVal f) r ∧ BfOk fnm clm X f r := by
  cases f
  · exact bf_len
  · exact bf_abs
  · exact bf_int
  · exact bf_bool
  · exact bf_tuple
  · exact bf_list
  · exact bf_all hc
  · exact bf_any hc
  · exact bf_min hc
  · exact bf_max hc
  · exact bf_sum hc
  · exact bf_ord
  · exact bf_str
  · exact bf_allT hc
end
end DL

namespace DL
open PySem PySem.Spec PyProof.Rows L2
/-! ### methods of built-in types -/
section
variable {K : PySem.W.Frag} {fnm clm : Nat → Option Addr} {S : Addr → Option Bool} {H : Hp} {G : HD} {v v' : V} {d d' : D} {Q : VK} {QD : KD}
theorem write_l (R : Hel K fnm clm S H G) {a : Addr} {ds0 ds : List D} {vs : List V} (hg : G a = some (.lst ds0)) (hz : vs.length ≤ sizeLine) (r : DatAll K fnm S H G vs ds) (rv : Dat K fnm S H G v d)
    (h : QD d (updD G a (.lst ds))) (hQ : PostE K fnm clm S H G QD Q) : Q v (upd H a (.lst vs)) := by
  have ne : G a ≠ none := by rw [hg]; simp
  exact hQ v S _ d _ (.write ne) (R.writeL ne hz r) (rv.step R (.write ne)) h
theorem cell_l (R : Hel K fnm clm S H G) {a : Addr} {ds : List D} (hg : G a = some (.lst ds)) : ∃ vs, H a = some (.lst vs) ∧ vs.length ≤ sizeLine ∧ DatAll K fnm S H G vs ds := R.cell a _ hg
/-- a method's receiver: as tyV has it, or a tuple that bears no own dict -/
def tyU (K : PySem.W.Frag) (T : String) (x : V) (H : Hp) : Prop := tyV K T x H ∨ (T = "tuple" ∧ ∃ p xs, x = V.ref p ∧ SqP K H p xs)
theorem rcv_seq (R : Hel K fnm clm S H G) (r : Dat K fnm S H G v d) (h : (seqOf d G).isSome = true) : tyU K "list" v H := .inl <| by
  cases e : seqOf d G with
  | none => rw [e] at h; cases h
  | some ds =>
    obtain ⟨a, vs, rfl, h1, h2, h3⟩ := seq_ok R r e
    exact .inl ⟨rfl, vs, h1⟩
theorem rcv_str {m : Mt} (hm : m = .join ∨ m = .sindex ∨ m = .scount ∨ m = .sfind) (r : Dat K fnm S H G v d) (h : rcv m d G = true) : tyU K "str" v H := .inl <| by
  cases d with
  | str s => obtain ⟨rfl, _⟩ := dat_str r; exact rfl
  | _ => rcases hm with rfl | rfl | rfl | rfl <;> (simp [rcv] at h)
theorem live_of {a : Addr} {P : List D → Prop} (h : match G a with | some (.lst ds) => P ds | _ => False) : ∃ ds, G a = some (.lst ds) ∧ P ds := by
  cases e : G a with
  | none => rw [e] at h; exact h.elim
  | some c =>
    rw [e] at h
    cases c with
    | lst ds => exact ⟨ds, rfl, h⟩
    | _ => exact h.elim
end
section
variable {fnm clm : Nat → Option Addr} {X : Cx}
def mtName : Mt → Str
  | .append => "append" | .extend => "extend" | .pop => "pop" | .index => "index" | .join => "join" | .count => "count" | .sindex => "index" | .scount => "count" | .sfind => "find" | .indexD => "index" | .tcount => "count"
def mtYes : Mt → Bool
  | .append | .extend | .pop | .index | .join | .sindex | .scount | .sfind | .indexD | .tcount => true
  | _ => false
theorem tyU_is {pins : List (Addr × Obj)} {σ : L2.St} {H : Hp} {s : Shared} {T : String} {x : V} {v : Value} (I : Inv X pins σ H s) (r : RelV x v) (ty : tyU X.K T x H) :
    s.TypeIs v T ∧ ∀ a, v = .ref a → ∃ ob, s.heap.get? a = some ob ∧ ob.dict = none := by
  rcases ty with ty | ⟨rfl, p, xs, rfl, hp⟩
  · exact tyV_is I r ty
  · cases r
    obtain ⟨its, _, pl, _⟩ := I.tuple hp.sq
    refine ⟨pl.typeIs, fun a e => ?_⟩
    cases e
    rcases hp with ⟨ob, e, hd⟩ | ⟨ob, _, _, e, _, hd, _⟩
    · exact ⟨ob, (I.hok _ _ e).1, hd⟩
    · exact ⟨ob, I.kIn _ ob e, hd⟩
def tBU0 (K : PySem.W.Frag) (T : String) (r : V → List V → Hp → VK → Prop) (to : TE) : TE := fun σ H Q => to σ H fun x H1 => tyU K T x H1 ∧ r x [] H1 Q
def tBU (K : PySem.W.Frag) (T : String) (r : V → List V → Hp → VK → Prop) (to : TE) (t : TA) : TE := fun σ H Q => to σ H fun x H1 => tyU K T x H1 ∧ t σ H1 fun xs H2 => r x xs H2 Q
section
variable {o e : Expr} {es : List Expr} {to : TE} {t : TA} {name : Str} {apos cpos : Pos} {T id : String} {r : V → List V → Hp → VK → Prop}
theorem pe_bU0 (pa : PlainAttrs T) (slot : Slot T name id) (hty : typeOf (.builtin id) = pure (.type "method_descriptor")) (hm : MtR X id r) (ho : PE X o to)
    (hbase : attributeBase o name X.env (eval o X.env) = eval o X.env := by rfl) (hline : (apos.endLine == cpos.line) = true := by rfl) : PE X (.Call (.Attribute o name apos) [] [] cpos) (tBU0 X.K T r to) := by
  refine ⟨fun pins s σ H Q I h => ?_⟩
  refine wpAny_Call_method0_late hbase hline (thn (ho.run pins s σ H _ I h) fun v s1 ⟨x, H1, I1, r1, ty, q1⟩ => ?_)
  obtain ⟨h1, h2⟩ := tyU_is I1 r1 ty
  exact ⟨T, id, pa, slot, hty, h1, h2, Calls.callWith_builtin rfl (PySem.evalArgs_none (hm pins s1 σ H1 x [] v [] Q I1 r1 .nil q1))⟩
theorem pe_bU (pa : PlainAttrs T) (slot : Slot T name id) (hty : typeOf (.builtin id) = pure (.type "method_descriptor")) (hm : MtR X id r) (ho : PE X o to) (ha : PA X (e :: es) t)
    (hbase : attributeBase o name X.env (eval o X.env) = eval o X.env := by rfl)
    (hfew : ((backTo cpos (starEach (e :: es) X.env)).all (fun x => !x.1) && (backToKw cpos (keywordEach [] X.env)).all (fun x => x.1.isSome)
      && decide ((e :: es).length + ([] : List Keyword).length + (if ([] : List Keyword).isEmpty then 0 else 1) < 30)) = true := by rfl)
    (hline : (apos.endLine == cpos.line) = true := by rfl) (hs : starEach (e :: es) X.env = (false, eval e X.env) :: starEach es X.env := by rfl) (hplain : (backTo cpos (starEach es X.env)).any (·.1) = false := by rfl) :
    PE X (.Call (.Attribute o name apos) (e :: es) [] cpos) (tBU X.K T r to t) := by
  refine ⟨fun pins s σ H Q I h => ?_⟩
  refine wpAny_Call_method_late hbase hfew hline rfl (thn (ho.run pins s σ H _ I h) fun v s1 ⟨x, H1, I1, r1, ty, q1⟩ => ?_)
  obtain ⟨h1, h2⟩ := tyU_is I1 r1 ty
  refine ⟨T, id, pa, slot, hty, h1, h2, ?_⟩
  have hA := ha.run cpos pins s1 σ H1 _ I1 q1
  rw [hs] at hA ⊢
  refine Calls.callWith_builtin (by show (false || (backTo cpos (starEach es X.env)).any (·.1)) = false; rw [hplain] <;> rfl) (Calls.evalArgs_plain ?_)
  exact thn hA fun us s2 ⟨vs, H2, I2, r2, q2⟩ => hm pins s2 σ H2 x vs v us Q I2 r1 r2 q2
end
structure MtOk (fnm clm : Nat → Option Addr) (X : Cx) (m : Mt) (T id : String) (r : V → List V → Hp → VK → Prop) : Prop where
  pa : PlainAttrs T
  slot : Slot T (mtName m) id
  ty : typeOf (.builtin id) = pure (.type "method_descriptor")
  mt : MtR X id r
  rc : ∀ v x S H G, Hel X.K fnm clm S H G → Dat X.K fnm S H G v x → rcv m x G = true → tyU X.K T v H
  to : ∀ v vs x ds S H G Q QD, Hel X.K fnm clm S H G → Dat X.K fnm S H G v x → DatAll X.K fnm S H G vs ds → mtD m x ds G QD → PostE X.K fnm clm S H G QD Q → r v vs H Q
theorem mt_appendD : ∃ T id r, MtOk fnm clm X .append T id r := by
  refine ⟨_, _, _, PySem.F.plainAttrs_list, PySem.F.slot_list_append, PySem.F.type_list_append, mt_append, fun v x S H G R r h => rcv_seq R r h, fun v vs x ds S H G Q QD R r rs h hQ => ?_⟩
  match x, ds, r, rs, h with
  | .ref a, [d], r, rs, h =>
    obtain ⟨u, rfl, ru⟩ := one_of rs
    cases dat_ref r
    obtain ⟨es, hg, h1, h2⟩ := live_of (P := fun es => es.length < lim ∧ QD .non (updD G a (.lst (es ++ [d])))) h
    obtain ⟨ws, k1, k2, k3⟩ := cell_l R hg
    exact ⟨a, ws, u, rfl, rfl, k1, by rw [k3.length, lim_eq]; exact h1, write_l R hg (by rw [List.length_append, k3.length, lim_eq]; exact h1) (k3.append (.cons ru .nil)) .non h2 hQ⟩
theorem mt_extendD : ∃ T id r, MtOk fnm clm X .extend T id r := by
  refine ⟨_, _, _, PySem.F.plainAttrs_list, PySem.F.slot_list_extend, PySem.F.type_list_extend, mt_extend, fun v x S H G R r h => rcv_seq R r h, fun v vs x ds S H G Q QD R r rs h hQ => ?_⟩
  match x, ds, r, rs, h with
  | .ref a, [d], r, rs, h =>
    obtain ⟨u, rfl, ru⟩ := one_of rs
    cases dat_ref r
    obtain ⟨es, hg, h1⟩ := live_of (P := fun es => ok (seqH d G) fun fs => es.length + fs.length ≤ lim ∧ QD .non (updD G a (.lst (es ++ fs)))) h
    obtain ⟨fs, e2, h2, h3⟩ := ok_of h1
    obtain ⟨ws, k1, k2, k3⟩ := cell_l R hg
    obtain ⟨b, zs, rfl, j1, j2, j3⟩ := seqH_ok R ru e2
    exact ⟨a, b, ws, zs, rfl, rfl, k1, j1, by rw [k3.length, j3.length, lim_eq]; exact h2, write_l R hg (by rw [List.length_append, k3.length, j3.length, lim_eq]; exact h2) (k3.append j3) .non h3 hQ⟩
theorem mt_popD : ∃ T id r, MtOk fnm clm X .pop T id r := by
  refine ⟨_, _, _, PySem.F.plainAttrs_list, PySem.F.slot_list_pop, PySem.F.type_list_pop, MtR.or mt_pop mt_popAt, fun v x S H G R r h => rcv_seq R r h, fun v vs x ds S H G Q QD R r rs h hQ => ?_⟩
  match x, ds, r, rs, h with
  | .ref a, [], r, rs, h =>
    cases rs
    cases dat_ref r
    obtain ⟨es, hg, h1⟩ := live_of (P := fun es => ok es.getLast? fun d => QD d (updD G a (.lst es.dropLast))) h
    obtain ⟨d, e2, h2⟩ := ok_of h1
    obtain ⟨ws, k1, k2, k3⟩ := cell_l R hg
    rw [List.getLast?_eq_getElem?] at e2
    obtain ⟨u, j1, j2⟩ := k3.get e2
    exact .inl ⟨a, ws, u, rfl, rfl, k1, by rw [k3.length]; exact j1, write_l R hg (by rw [List.length_dropLast]; omega) k3.dropLast j2 h2 hQ⟩
  | .ref a, [.int i], r, rs, h =>
    obtain ⟨u, rfl, ru⟩ := one_of rs
    cases dat_ref r
    cases dat_int ru
    obtain ⟨es, hg, h1, h2⟩ := live_of (P := fun es => (0 ≤ i ∧ i < es.length) ∧ ok (es[i.toNat]?) fun d => QD d (updD G a (.lst (es.eraseIdx i.toNat)))) h
    obtain ⟨d, e2, h3⟩ := ok_of h2
    obtain ⟨ws, k1, k2, k3⟩ := cell_l R hg
    obtain ⟨u, j1, j2⟩ := k3.get e2
    have hl : es.length ≤ lim := by rw [← k3.length, ← lim_eq]; exact k2
    unfold lim at hl
    refine .inr ⟨a, ws, i, i.toNat, u, rfl, rfl, k1, by omega, by omega, ?_, j1, write_l R hg (Nat.le_trans (len_erase _ _) k2) (k3.eraseIdx _) j2 h3 hQ⟩
    have q : ixN ws.length i = some i.toNat := by
      unfold ixN
      rw [if_pos h1.1, if_pos (by rw [k3.length]; exact h1.2)]
    exact (ixN_seq q).1
theorem mt_indexD' : ∃ T id r, MtOk fnm clm X .index T id r := by
  refine ⟨_, _, _, PySem.F.plainAttrs_list, PySem.F.slot_list_index, PySem.F.type_list_index, mt_index, fun v x S H G R r h => rcv_seq R r h, fun v vs x ds S H G Q QD R r rs h hQ => ?_⟩
  match ds, rs, h with
  | [d], rs, h =>
    obtain ⟨u, rfl, ru⟩ := one_of rs
    obtain ⟨es, e1, f, h2⟩ := ok_of (show ok (seqOf x G) fun es => (flatD d && es.all flatD) = true ∧ ok (es.findIdx? fun z => eqF z d) fun i => QD (.int (i : Nat)) G by cases x <;> exact h)
    obtain ⟨i, e2, h3⟩ := ok_of h2
    rw [Bool.and_eq_true] at f
    obtain ⟨a, ws, rfl, k1, k2, k3⟩ := seq_ok R r e1
    rw [List.findIdx?_eq_some_iff_getElem] at e2
    obtain ⟨hl, q1, q2⟩ := e2
    have hw : i < ws.length := by rw [k3.length]; exact hl
    obtain ⟨z, j1, j2⟩ := k3.get' (List.getElem?_eq_getElem hw)
    have ez : es[i] = z := by rw [List.getElem?_eq_getElem hl] at j1; exact Option.some.inj j1
    have fz : ∀ z ∈ es, flatD z = true := fun z hz => List.all_eq_true.mp f.2 z hz
    refine ⟨a, ws, u, i, ws[i], rfl, rfl, k1, flat_of ru f.1, flats_of k3 f.2, List.getElem?_eq_getElem hw, ?_, fun m z' hm hz' => ?_, hQ.here R (.int _) h3⟩
    · rw [eqF_of j2 ru (by rw [← ez]; exact fz _ (List.getElem_mem hl)) f.1, ← ez]; exact q1
    · obtain ⟨y, j3, j4⟩ := k3.get' hz'
      have hm2 : m < es.length := by omega
      have ey : es[m] = y := by rw [List.getElem?_eq_getElem hm2] at j3; exact Option.some.inj j3
      rw [eqF_of j4 ru (by rw [← ey]; exact fz _ (List.getElem_mem hm2)) f.1, ← ey]
      have := q2 m hm
      simpa using this
  | [], _, h => exact absurd h (by cases x <;> exact id)
  | _ :: _ :: _, _, h => exact absurd h (by cases x <;> exact id)
theorem mt_joinD : ∃ T id r, MtOk fnm clm X .join T id r := by
  refine ⟨_, _, _, PySem.F.plainAttrs_str, PySem.F.slot_str_join, PySem.F.type_str_join, mt_join, fun v x S H G R r h => rcv_str (.inl rfl) r h, fun v vs x ds S H G Q QD R r rs h hQ => ?_⟩
  match x, ds, r, rs, h with
  | .str s, [d], r, rs, h =>
    obtain ⟨u, rfl, ru⟩ := one_of rs
    obtain ⟨rfl, k, _⟩ := dat_str r
    obtain ⟨es, e1, h1⟩ := ok_of (show ok (itms d G) fun ds => ok (strsOf ds) fun ss => (ss.map List.length).sum + ss.length * s.length ≤ lim ∧ QD (.str (joinL s ss)) G from h)
    obtain ⟨ss, e2, h2, h3⟩ := ok_of h1
    obtain ⟨a, ws, rfl, k1, k2, k3⟩ := itm_ok R ru e1
    obtain ⟨e3, k4⟩ := strs_of k3 e2
    subst e3
    refine ⟨_, a, ss.map mkStr, rfl, rfl, k1, ?_, ?_⟩
    · rw [mkStr_length, List.length_map, List.map_map]
      have : ((fun (x : Str) => x.length) ∘ mkStr) = List.length := by funext x; exact mkStr_length x
      rw [this]; exact h2
    · rw [glue_of]
      refine hQ.here R (.str _ ?_ (by rw [lim_eq]; exact Nat.le_trans (joinL_len _ _) h2)) h3
      rw [strOk_iff] at k ⊢
      intro c hc
      rcases joinL_mem s hc with h | ⟨x, hx, h⟩
      · exact k c h
      · exact strOk_iff.mp (k4 x hx) c h
theorem mt_sidx : MtR X "str.index" (fun x xs H Q => ∃ (a b : Str) (k : Nat), x = .str a ∧ xs = [.str b] ∧ Txt.index0 a b = some k ∧ Q (.int (k : Int)) H) := by
  intro pins s σ H x xs v us Q I rx rs h
  obtain ⟨a, b, k, rfl, rfl, hy, w⟩ := h
  obtain ⟨t, rfl⟩ := rx
  cases rs with
  | cons r1 rs =>
    cases rs
    obtain ⟨u, rfl⟩ := r1
    cases q : Builtin.Str.occurrences a b 0 a.length 1 with
    | nil => unfold Txt.index0 at hy; rw [q] at hy; cases hy
    | cons k' rest =>
      have e : k' = k := by unfold Txt.index0 at hy; rw [q] at hy; exact Option.some.inj hy
      subst e
      exact PySem.SC.index q ⟨.int (k' : Nat), H, I.tok _, ⟨_, rfl⟩, w⟩
theorem mt_sindexD : ∃ T id r, MtOk fnm clm X .sindex T id r := by
  refine ⟨_, _, _, PySem.F.plainAttrs_str, PySem.F.slot_str_index, PySem.F.type_str_index, mt_sidx, fun v x S H G R r h => rcv_str (.inr (.inl rfl)) r h, fun v vs x ds S H G Q QD R r rs h hQ => ?_⟩
  match x, ds, r, rs, h with
  | .str s, [.str t], r, rs, h =>
    obtain ⟨u, rfl, ru⟩ := one_of rs
    obtain ⟨rfl, _⟩ := dat_str r
    obtain ⟨rfl, _⟩ := dat_str ru
    obtain ⟨i, e, h1⟩ := ok_of (show ok (Txt.index0 (mkStr s) (mkStr t)) fun i => QD (.int (i : Nat)) G from h)
    exact ⟨_, _, i, rfl, rfl, e, hQ.here R (.int _) h1⟩
theorem mt_scountD : ∃ T id r, MtOk fnm clm X .scount T id r := by
  refine ⟨_, _, _, PySem.F.plainAttrs_str, PySem.F.slot_str_count, PySem.F.type_str_count, mt_count, fun v x S H G R r h => rcv_str (.inr (.inr (.inl rfl))) r h, fun v vs x ds S H G Q QD R r rs h hQ => ?_⟩
  match x, ds, r, rs, h with
  | .str s, [.str t], r, rs, h =>
    obtain ⟨u, rfl, ru⟩ := one_of rs
    obtain ⟨rfl, _⟩ := dat_str r
    obtain ⟨rfl, _⟩ := dat_str ru
    exact ⟨_, _, rfl, rfl, hQ.here R (.int _) h⟩
theorem mt_sfindD : ∃ T id r, MtOk fnm clm X .sfind T id r := by
  refine ⟨_, _, _, PySem.F.plainAttrs_str, PySem.F.slot_str_find, PySem.F.type_str_find, mt_find, fun v x S H G R r h => rcv_str (.inr (.inr (.inr rfl))) r h, fun v vs x ds S H G Q QD R r rs h hQ => ?_⟩
  match x, ds, r, rs, h with
  | .str s, [.str t], r, rs, h =>
    obtain ⟨u, rfl, ru⟩ := one_of rs
    obtain ⟨rfl, _⟩ := dat_str r
    obtain ⟨rfl, _⟩ := dat_str ru
    exact ⟨_, _, rfl, rfl, hQ.here R (.int _) h⟩
theorem mt_indexPD (hu : X.A.units + 64 < cLine) : ∃ T id r, MtOk fnm clm X .indexD T id r := by
  refine ⟨_, _, _, PySem.F.plainAttrs_list, PySem.F.slot_list_index, PySem.F.type_list_index, mt_indexP hu, fun v x S H G R r h => rcv_seq R r h, fun v vs x ds S H G Q QD R r rs h hQ => ?_⟩
  match ds, rs, h with
  | [d], rs, h =>
    obtain ⟨u, rfl, ru⟩ := one_of rs
    obtain ⟨es, e1, h2⟩ := ok_of (show ok (seqOf x G) fun es => ok (pys es) fun xs => ok (py d) fun e => min (PyData.depthAll xs) e.depth ≤ 60 ∧ ok (xs.findIdx? fun z => PyData.eqv z e) fun i => QD (.int (i : Nat)) G by cases x <;> exact h)
    obtain ⟨xs, e2, h3⟩ := ok_of h2
    obtain ⟨e, e3, hm, h4⟩ := ok_of h3
    obtain ⟨j, e4, h5⟩ := ok_of h4
    obtain ⟨a, ws, rfl, k1, k2, k3⟩ := seq_ok R r e1
    obtain ⟨q1, q2⟩ := dps_of es k3 e2
    obtain ⟨q3, q4⟩ := dp_of d ru e3
    exact ⟨a, ws, u, xs, e, j, rfl, rfl, k1, q1, q3, q2, q4, hm, e4, hQ.here R (.int _) h5⟩
  | [], _, h => exact absurd h (by cases x <;> exact id)
  | _ :: _ :: _, _, h => exact absurd h (by cases x <;> exact id)
theorem mt_tcountD (hu : X.A.units + 64 < cLine) : ∃ T id r, MtOk fnm clm X .tcount T id r := by
  refine ⟨_, _, _, PySem.F.plainAttrs_tuple, PySem.F.slot_tuple_count, PySem.F.type_tuple_count, mt_countT hu, fun v x S H G R r h => ?_, fun v vs x ds S H G Q QD R r rs h hQ => ?_⟩
  · cases x with
    | tup es =>
      obtain ⟨a, ws, rfl, k1, _⟩ := dat_tupP r
      exact .inr ⟨rfl, a, ws, rfl, k1⟩
    | _ => cases h
  · match x, ds, r, rs, h with
    | .tup es, [d], r, rs, h =>
      obtain ⟨u, rfl, ru⟩ := one_of rs
      obtain ⟨xs, e2, h3⟩ := ok_of (show ok (pys es) fun xs => ok (py d) fun e => min (PyData.depthAll xs) e.depth ≤ 60 ∧ QD (.int ((xs.countP fun z => PyData.eqv z e : Nat) : Int)) G from h)
      obtain ⟨e, e3, hm, h4⟩ := ok_of h3
      obtain ⟨a, ws, rfl, k1, _, k3⟩ := dat_tupP r
      obtain ⟨q1, q2⟩ := dps_of es k3 e2
      obtain ⟨q3, q4⟩ := dp_of d ru e3
      exact ⟨a, ws, u, xs, e, rfl, rfl, k1.sq, q1, q3, q2, q4, hm, hQ.here R (.int _) h4⟩
theorem mt_okD (hu : X.A.units + 64 < cLine) {m : Mt} (h : mtYes m = true) : ∃ T id r, MtOk fnm clm X m T id r := by
  cases m <;> first | cases h | skip
  · exact mt_appendD
  · exact mt_extendD
  · exact mt_popD
  · exact mt_indexD'
  · exact mt_joinD
  · exact mt_sindexD
  · exact mt_scountD
  · exact mt_sfindD
  · exact mt_indexPD hu
  · exact mt_tcountD hu
end
end DL

namespace DL
open PySem PySem.Spec PyProof.Rows L2
section
variable {C : Cfg} {fnm clm : Nat → Option Addr} {Γ : Gam} {N : List Str} {sc : Scope} {X : Cx} {W : WX}
/-! ## 8. The rules of expressions -/
theorem COk.hu (k : COk C fnm clm Γ N sc X W) : X.A.units + 64 < cLine := by
  obtain ⟨n, hr, _⟩ := k.fnk; exact hr.r.units
theorem je_bin (k : COk C fnm clm Γ N sc X W) {z : Bool} {o : BOp} {op : Operator} {a b : Expr} {pos : Pos} {ea eb : E} (ho : bopB o op = true) (ha : JE fnm clm X W a (wE Γ ea)) (hb : JE fnm clm X W b (wE Γ eb)) :
    JE fnm clm X W (.BinOp a op b pos) (wE Γ (.bin z o ea eb)) := by
  obtain ⟨r, h1, h2⟩ := bin_ok (z := z) (fnm := fnm) (clm := clm) (X := X) ho
  exact je_op2 h1 ha hb h2
theorem je_neg {a : Expr} {pos : Pos} {ea : E} (ha : JE fnm clm X W a (wE Γ ea)) : JE fnm clm X W (.UnaryOp .USub a pos) (wE Γ (.neg ea)) := by
  obtain ⟨_, ta, pa, ra⟩ := ha
  refine ⟨rfl, _, pe_un un_neg pa, fun S σ σD H G Q QD XD R sl h hQ hX => ?_⟩
  refine ra S σ σD H G _ _ XD R sl h (fun v S1 H1 d G1 st1 R1 r1 h1 => ?_) hX
  cases d <;> try exact h1.elim
  cases dat_int r1
  exact ⟨_, rfl, (hQ.step st1).here R1 (.int _) h1⟩
theorem je_nt {a : Expr} {pos : Pos} {ea : E} (ha : JE fnm clm X W a (wE Γ ea)) : JE fnm clm X W (.UnaryOp .Not a pos) (wE Γ (.nt ea)) := by
  obtain ⟨_, ta, pa, ra⟩ := ha
  refine ⟨rfl, _, pe_notT pa, fun S σ σD H G Q QD XD R sl h hQ hX => ?_⟩
  refine ra S σ σD H G _ _ XD R sl h (fun v S1 H1 d G1 st1 R1 r1 h1 => ?_) hX
  obtain ⟨b, e, h2⟩ := ok_of h1
  exact ⟨b, tru_of R1 r1 e, (hQ.step st1).here R1 (.bl _) h2⟩
/-- and, or as values -/
def bopE : Bool → BoolOp
  | true => .And
  | false => .Or
theorem jb_one {b : Bool} {e : Expr} {pos : Pos} {ee : E} (he : JE fnm clm X W e (wE Γ ee)) : JE fnm clm X W (.BoolOp (bopE b) [e] pos) (wBo Γ b (.c ee .n)) := by
  obtain ⟨_, ta, pa, ra⟩ := he
  exact ⟨rfl, _, pe_one pa, ra⟩
theorem jb_cons {b : Bool} {e e' : Expr} {es : List Expr} {pos : Pos} {ee ee' : E} {ees : Es} (he : JE fnm clm X W e (wE Γ ee)) (hr : JE fnm clm X W (.BoolOp (bopE b) (e' :: es) pos) (wBo Γ b (.c ee' ees))) :
    JE fnm clm X W (.BoolOp (bopE b) (e :: e' :: es) pos) (wBo Γ b (.c ee (.c ee' ees))) := by
  obtain ⟨_, ta, pa, ra⟩ := he
  obtain ⟨_, tb, pb, rb⟩ := hr
  have main : ∀ (k0 : Bool) {S : Addr → Option Bool} {σ : St'} {σD : StD} {H : Hp} {G : HD} {Q : VK} {QD : KD} {XD : KX}, Hel X.K fnm clm S H G → SlotOk X.K fnm S H G σ σD → wBo Γ b (.c ee (.c ee' ees)) σD G QD XD → PostE X.K fnm clm S H G QD Q → PostX X.K fnm clm W σ S H G XD →
      ta σ H fun x H1 => ∃ k, TruV X.K x H1 k ∧ (k = b → tb σ H1 Q) ∧ (k ≠ b → Q x H1) := by
    intro k0 S σ σD H G Q QD XD R sl h hQ hX
    have h : wE Γ ee σD G (fun d H1 => ok (truth d H1) fun k => if k = b then wBo Γ b (.c ee' ees) σD H1 QD XD else QD d H1) XD := h
    refine ra S σ σD H G _ _ XD R sl h (fun v S1 H1 d G1 st1 R1 r1 h1 => ?_) hX
    obtain ⟨k, e, h2⟩ := ok_of h1
    refine ⟨k, tru_of R1 r1 e, fun q => ?_, fun q => ?_⟩
    · rw [if_pos q] at h2
      exact rb S1 σ σD H1 G1 _ _ XD R1 (sl.step R st1) h2 (hQ.step st1) (hX.step st1)
    · rw [if_neg q] at h2
      exact (hQ.step st1).here R1 r1 h2
  cases b with
  | true =>
    refine ⟨rfl, _, pe_andT pa pb, fun S σ σD H G Q QD XD R sl h hQ hX => ?_⟩
    refine ra S σ σD H G _ _ XD R sl h (fun v S1 H1 d G1 st1 R1 r1 h1 => ?_) hX
    obtain ⟨k, e, h2⟩ := ok_of h1
    refine ⟨k, tru_of R1 r1 e, ?_⟩
    cases k with
    | true => exact rb S1 σ σD H1 G1 _ _ XD R1 (sl.step R st1) h2 (hQ.step st1) (hX.step st1)
    | false => exact (hQ.step st1).here R1 r1 h2
  | false =>
    refine ⟨rfl, _, pe_orT pa pb, fun S σ σD H G Q QD XD R sl h hQ hX => ?_⟩
    refine ra S σ σD H G _ _ XD R sl h (fun v S1 H1 d G1 st1 R1 r1 h1 => ?_) hX
    obtain ⟨k, e, h2⟩ := ok_of h1
    refine ⟨k, tru_of R1 r1 e, ?_⟩
    cases k with
    | false => exact rb S1 σ σD H1 G1 _ _ XD R1 (sl.step R st1) h2 (hQ.step st1) (hX.step st1)
    | true => exact (hQ.step st1).here R1 r1 h2
theorem je_cmp (k : COk C fnm clm Γ N sc X W) {o : COp} {op : CmpOp} {a b : Expr} {pos : Pos} {ea eb : E} (ho : copB o op = true) (hm : behindInMarks op b = false) (ha : JE fnm clm X W a (wE Γ ea)) (hb : JE fnm clm X W b (wE Γ eb)) :
    JE fnm clm X W (.Compare a [op] [b] pos) (wE Γ (.cmp o ea eb)) := by
  obtain ⟨r, h1, h2⟩ := cmp_ok (fnm := fnm) (clm := clm) (X := X) k.hu ho
  obtain ⟨_, ta, pa, ra⟩ := ha
  obtain ⟨_, tb, pb, rb⟩ := hb
  refine ⟨rfl, _, pe_cmpR h1 pa pb hm, fun S σ σD H G Q QD XD R sl h hQ hX => ?_⟩
  exact ref2 ra rb R sl h (fun v v' S' H' d d' G' st R' r1 r2 h' => h2 v v' d d' S' H' G' Q QD R' r1 r2 h' (hQ.step st)) hX
theorem jt_cmp (k : COk C fnm clm Γ N sc X W) {o : COp} {op : CmpOp} {a b : Expr} {pos : Pos} {ea eb : E} (ho : copB o op = true) (hm : behindInMarks op b = false) (ha : JE fnm clm X W a (wE Γ ea)) (hb : JE fnm clm X W b (wE Γ eb)) :
    JT fnm clm X W (.Compare a [op] [b] pos) (wT Γ (.cmp o ea eb)) := by
  obtain ⟨r, h1, h2⟩ := cmp_ok (fnm := fnm) (clm := clm) (X := X) k.hu ho
  obtain ⟨_, ta, pa, ra⟩ := ha
  obtain ⟨_, tb, pb, rb⟩ := hb
  refine ⟨_, pt_cmpR h1 pa pb hm, fun S σ σD H G Q QD XD R sl h hQ hX => ?_⟩
  have h : wE Γ ea σD G (fun x H1 => wE Γ eb σD H1 (fun y H2 => ok (cmpD o x y H2) fun c => QD c H2) XD) XD := h
  refine ref2 ra rb R sl h (fun v v' S' H' d d' G' st R' r1 r2 h' => ?_) hX
  refine h2 v v' d d' S' H' G' _ (fun d G => ∃ c, d = .bl c ∧ QD c G) R' r1 r2 ?_ (fun u S2 H2 d2 G2 st2 R2 r3 h3 => ?_)
  · obtain ⟨c, e, h4⟩ := ok_of h'
    rw [e]
    exact ⟨c, rfl, h4⟩
  · obtain ⟨c, rfl, h4⟩ := h3
    cases dat_bl r3
    exact ⟨c, rfl, hQ c S2 H2 G2 (st.trans st2) R2 h4⟩
/-- the inner part of a chain -/
theorem chn_in {o p : COp} {op op' : CmpOp} {r r' : R2} {ta tb tc : TE} {ea eb ec : E} {Q : VK} {QD : KD} {σ : St'} {σD : StD} {S : Addr → Option Bool} {H : Hp} {G : HD} {XD : KX}
    (ra : RefE X.K fnm clm W ta (wE Γ ea)) (rb : RefE X.K fnm clm W tb (wE Γ eb)) (rc : RefE X.K fnm clm W tc (wE Γ ec))
    (h2 : ∀ v v' d d' S H G Q QD, Hel X.K fnm clm S H G → Dat X.K fnm S H G v d → Dat X.K fnm S H G v' d' → (ok (cmpD o d d' G) fun c => QD (.bl c) G) → PostE X.K fnm clm S H G QD Q → r v v' H Q)
    (h3 : ∀ v v' d d' S H G Q QD, Hel X.K fnm clm S H G → Dat X.K fnm S H G v d → Dat X.K fnm S H G v' d' → (ok (cmpD p d d' G) fun c => QD (.bl c) G) → PostE X.K fnm clm S H G QD Q → r' v v' H Q)
    (R : Hel X.K fnm clm S H G) (sl : SlotOk X.K fnm S H G σ σD) (h : wE Γ (.chn o p ea eb ec) σD G QD XD) (hQ : PostE X.K fnm clm S H G QD Q) (hX : PostX X.K fnm clm W σ S H G XD) : tChain r r' ta tb tc σ H Q := by
  refine ref2 ra rb R sl h (fun v v' S' H' d d' G' st R' r1 r2 h' => ?_) hX
  refine h2 v v' d d' S' H' G' _ (fun z G0 => G0 = G' ∧ ∃ k, z = .bl k ∧ match k with
      | true => wE Γ ec σD G' (fun z H3 => ok (cmpD p d' z H3) fun k' => QD (.bl k') H3) XD
      | false => QD (.bl false) G') R' r1 r2 ?_ (fun u S2 H2 d2 G2 st2 R2 r3 h4 => ?_)
  · obtain ⟨c, e, h4⟩ := ok_of h'
    rw [e]
    exact ⟨rfl, c, rfl, h4⟩
  · obtain ⟨rfl, c, rfl, h5⟩ := h4
    cases dat_bl r3
    refine ⟨c, rfl, ?_⟩
    cases c with
    | false => exact (hQ.step (st.trans st2)).here R2 (.bl _) h5
    | true =>
      refine rc S2 σ σD H2 G2 _ _ XD R2 (sl.step R (st.trans st2)) h5 (fun w S3 H3 d3 G3 st3 R3 r4 h6 => ?_) (hX.step (st.trans st2))
      exact h3 v' w d' d3 S3 H3 G3 Q QD R3 ((r2.step R' st2).step R2 st3) r4 h6 (hQ.step ((st.trans st2).trans st3))
theorem je_chn (k : COk C fnm clm Γ N sc X W) {o p : COp} {op op' : CmpOp} {a b c : Expr} {pos : Pos} {ea eb ec : E} (ho : copB o op = true) (hp : copB p op' = true) (hm : lastMarks [op, op'] [b, c] = false) (ha : JE fnm clm X W a (wE Γ ea)) (hb : JE fnm clm X W b (wE Γ eb)) (hc : JE fnm clm X W c (wE Γ ec)) :
    JE fnm clm X W (.Compare a [op, op'] [b, c] pos) (wE Γ (.chn o p ea eb ec)) := by
  obtain ⟨r, h1, h2⟩ := cmp_ok (fnm := fnm) (clm := clm) (X := X) k.hu ho
  obtain ⟨r', h1', h3⟩ := cmp_ok (fnm := fnm) (clm := clm) (X := X) k.hu hp
  obtain ⟨_, ta, pa, ra⟩ := ha
  obtain ⟨_, tb, pb, rb⟩ := hb
  obtain ⟨_, tc, pc, rc⟩ := hc
  refine ⟨rfl, _, pe_chain h1 h1' pa pb pc hm, fun S σ σD H G Q QD XD R sl h hQ hX => ?_⟩
  exact chn_in (op := op) (op' := op') ra rb rc h2 h3 R sl h hQ hX
theorem jt_chn (k : COk C fnm clm Γ N sc X W) {o p : COp} {op op' : CmpOp} {a b c : Expr} {pos : Pos} {ea eb ec : E} (ho : copB o op = true) (hp : copB p op' = true) (hm : lastMarks [op, op'] [b, c] = false) (ha : JE fnm clm X W a (wE Γ ea)) (hb : JE fnm clm X W b (wE Γ eb)) (hc : JE fnm clm X W c (wE Γ ec)) :
    JT fnm clm X W (.Compare a [op, op'] [b, c] pos) (wT Γ (.chn o p ea eb ec)) := by
  obtain ⟨r, h1, h2⟩ := cmp_ok (fnm := fnm) (clm := clm) (X := X) k.hu ho
  obtain ⟨r', h1', h3⟩ := cmp_ok (fnm := fnm) (clm := clm) (X := X) k.hu hp
  obtain ⟨_, ta, pa, ra⟩ := ha
  obtain ⟨_, tb, pb, rb⟩ := hb
  obtain ⟨_, tc, pc, rc⟩ := hc
  refine ⟨_, pt_chain h1 h1' pa pb pc hm, fun S σ σD H G Q QD XD R sl h hQ hX => ?_⟩
  refine chn_in (op := op) (op' := op') (QD := fun d G => match d with | .bl c => QD c G | _ => False) ra rb rc h2 h3 R sl h (fun u S2 H2 d2 G2 st2 R2 r3 h4 => ?_) hX
  cases d2 <;> try exact h4.elim
  cases dat_bl r3
  exact ⟨_, rfl, hQ _ S2 H2 G2 st2 R2 h4⟩
theorem je_ife {t a b : Expr} {pos : Pos} {et : T} {ea eb : E} (ht : JT fnm clm X W t (wT Γ et)) (ha : JE fnm clm X W a (wE Γ ea)) (hb : JE fnm clm X W b (wE Γ eb)) : JE fnm clm X W (.IfExp t a b pos) (wE Γ (.ife et ea eb)) := by
  obtain ⟨tt, pt, rt⟩ := ht
  obtain ⟨_, ta, pa, ra⟩ := ha
  obtain ⟨_, tb, pb, rb⟩ := hb
  refine ⟨rfl, _, pe_ifExp pt pa pb, fun S σ σD H G Q QD XD R sl h hQ hX => ?_⟩
  refine rt S σ σD H G _ _ XD R sl h (fun c S1 H1 G1 st1 R1 h1 => ?_) hX
  cases c with
  | true => exact ra S1 σ σD H1 G1 _ _ XD R1 (sl.step R st1) h1 (hQ.step st1) (hX.step st1)
  | false => exact rb S1 σ σD H1 G1 _ _ XD R1 (sl.step R st1) h1 (hQ.step st1) (hX.step st1)
theorem ja_nil : JA fnm clm X W [] (wEs Γ .n) := ⟨fun _ z => (nomatch z), _, pa_nil, fun S σ σD H G Q QD XD R sl h hQ hX => hQ [] S H [] G rfl .refl R .nil h⟩
theorem ja_cons {e : Expr} {es : List Expr} {ee : E} {ees : Es} (he : JE fnm clm X W e (wE Γ ee)) (hr : JA fnm clm X W es (wEs Γ ees)) : JA fnm clm X W (e :: es) (wEs Γ (.c ee ees)) := by
  obtain ⟨s, ta, pa, ra⟩ := he
  obtain ⟨ss, tb, pb, rb⟩ := hr
  refine ⟨fun x hx => ?_, _, pa_cons pa pb (star_no s _ _), fun S σ σD H G Q QD XD R sl h hQ hX => ?_⟩
  · rcases List.mem_cons.mp hx with rfl | hx
    · exact s
    · exact ss x hx
  · refine ra S σ σD H G _ _ XD R sl h (fun v S1 H1 d G1 st1 R1 r1 h1 => ?_) hX
    refine rb S1 σ σD H1 G1 _ _ XD R1 (sl.step R st1) h1 (fun vs S2 H2 ds G2 hl st2 R2 r2 h2 => ?_) (hX.step st1)
    exact hQ (v :: vs) S2 H2 (d :: ds) G2 (by rw [List.length_cons, hl, List.length_cons]) (st1.trans st2) R2 (.cons (r1.step R1 st2) r2) h2
theorem star_all {es : List Expr} (h : ∀ e ∈ es, isStar e = false) (pos : Pos) (env : Env) : (backTo pos (starEach es env)).any (·.1) = false := by
  induction es with
  | nil => rfl
  | cons e es ih =>
    rw [star_no (h e List.mem_cons_self)]
    have := ih fun x hx => h x (List.mem_cons_of_mem _ hx)
    simp only [backTo, List.map_cons, List.any_cons, Bool.false_or] at this ⊢
    exact this
theorem je_tup {es : List Expr} {k : Nat} {pos : Pos} {ees : Es} (hl : es.length ≤ 1000) (h : JA fnm clm X W es (wEs Γ ees)) : JE fnm clm X W (.Tuple es k pos) (wE Γ (.tup ees)) := by
  obtain ⟨_, ta, pa, ra⟩ := h
  refine ⟨rfl, _, pe_tupP pa, fun S σ σD H G Q QD XD R sl h hQ hX => ?_⟩
  refine ra S σ σD H G _ _ XD R sl h (fun vs S1 H1 ds G1 hn st1 R1 r1 h1 => ?_) hX
  have hz : vs.length ≤ sizeLine := by rw [hn, lim_eq]; unfold lim; omega
  exact ⟨hz, new_tup R1 hz r1 h1 (hQ.step st1)⟩
theorem je_lst {z : Bool} {es : List Expr} {pos : Pos} {ees : Es} (hl : es.length ≤ 1000) (h : JA fnm clm X W es (wEs Γ ees)) : JE fnm clm X W (.List es pos) (wE Γ (.lst z ees)) := by
  obtain ⟨_, ta, pa, ra⟩ := h
  refine ⟨rfl, _, pe_lst pa, fun S σ σD H G Q QD XD R sl h hQ hX => ?_⟩
  refine ra S σ σD H G _ _ XD R sl h (fun vs S1 H1 ds G1 hn st1 R1 r1 h1 => ?_) hX
  have hz : vs.length ≤ sizeLine := by rw [hn, lim_eq]; unfold lim; omega
  exact ⟨hz, new_list R1 hz r1 h1 (hQ.step st1)⟩
def isSlice : Expr → Bool
  | .Slice .. => true
  | _ => false
theorem plain_ix {b : Expr} (h : isSlice b = false) : PlainIx b := by
  intro o i
  cases b <;> first | rfl | cases h
theorem je_idx {a b : Expr} {pos : Pos} {ea eb : E} (hs : isSlice b = false) (ha : JE fnm clm X W a (wE Γ ea)) (hb : JE fnm clm X W b (wE Γ eb)) : JE fnm clm X W (.Subscript a b pos) (wE Γ (.idx ea eb)) := by
  obtain ⟨_, ta, pa, ra⟩ := ha
  obtain ⟨_, tb, pb, rb⟩ := hb
  refine ⟨rfl, _, pe_ix ix_seq pa pb (plain_ix hs), fun S σ σD H G Q QD XD R sl h hQ hX => ?_⟩
  exact ref2 ra rb R sl h (fun v v' S' H' d d' G' st R' r1 r2 h' => idx_ok R' r1 r2 h' (hQ.step st)) hX
/-- a part of a slice -/
theorem jo_none {w : StD → HD → KD → KX → Prop} : ∃ te, PO X none te ∧ RefO X.K fnm clm W te (wPart true w) :=
  ⟨_, po_none, fun S σ σD H G Q QD XD R sl h hQ hX => hQ none S H G .refl R h⟩
theorem jo_some {e : Expr} {ee : E} (he : JE fnm clm X W e (wE Γ ee)) : ∃ te, PO X (some e) te ∧ RefO X.K fnm clm W te (wPart false (wE Γ ee)) := by
  obtain ⟨_, ta, pa, ra⟩ := he
  refine ⟨_, po_some pa, fun S σ σD H G Q QD XD R sl h hQ hX => ?_⟩
  refine ra S σ σD H G _ _ XD R sl h (fun v S1 H1 d G1 st1 R1 r1 h1 => ?_) hX
  cases d <;> try exact h1.elim
  cases dat_int r1
  exact ⟨_, rfl, hQ _ S1 H1 G1 st1 R1 h1⟩
theorem je_sl {z : Bool} {a : Expr} {lo hi : Option Expr} {pos p2 : Pos} {ea el eh : E} (ha : JE fnm clm X W a (wE Γ ea)) (hl : ∃ te, PO X lo te ∧ RefO X.K fnm clm W te (wPart (isNo el) (wE Γ el))) (hh : ∃ te, PO X hi te ∧ RefO X.K fnm clm W te (wPart (isNo eh) (wE Γ eh))) :
    JE fnm clm X W (.Subscript a (.Slice lo hi none p2) pos) (wE Γ (.sl z ea el eh)) := by
  obtain ⟨_, ta, pa, ra⟩ := ha
  obtain ⟨tl, pl, rl⟩ := hl
  obtain ⟨th, ph, rh⟩ := hh
  refine ⟨rfl, _, pe_slice (sl_str.or (sl_tupP.or sl_list)) pa pl ph, fun S σ σD H G Q QD XD R sl h hQ hX => ?_⟩
  refine ra S σ σD H G _ _ XD R sl h (fun v S1 H1 d G1 st1 R1 r1 h1 => ?_) hX
  refine rl S1 σ σD H1 G1 _ _ XD R1 (sl.step R st1) h1 (fun o1 S2 H2 G2 st2 R2 h2 => ?_) (hX.step st1)
  refine rh S2 σ σD H2 G2 _ _ XD R2 (sl.step R (st1.trans st2)) h2 (fun o2 S3 H3 G3 st3 R3 h3 => ?_) (hX.step (st1.trans st2))
  exact sl_okD R3 ((r1.step R1 st2).step R2 st3) h3 (hQ.step ((st1.trans st2).trans st3))
theorem je_call (k : COk C fnm clm Γ N sc X W) {f n : Nat} {x : Str} {e : Expr} {es : List Expr} {p pos : Pos} {ees : Es} (hf : C.fns[f]? = some (x, n)) (hn : (e :: es).length = n) (hx : nameOk x = true) (hg : Gl X x) (h : JA fnm clm X W (e :: es) (wEs Γ ees)) :
    JE fnm clm X W (.Call (.Name x p) (e :: es) [] pos) (wE Γ (.call f ees)) := by
  obtain ⟨m, hr, hk⟩ := k.fnk
  obtain ⟨ss, ta, pa, ra⟩ := h
  have n1 := (name_debug hx).1
  obtain ⟨a, fd, ps, h0, h1, h2, h3, h4, h5⟩ := (hk f (x, n) hf).ex
  refine ⟨rfl, _, pe_callG' h5 hr.r k.grd hg (h2 (name_dot hx)) h3 h4 (fun σ => passAt k.tk σ) pa n1 (star_no (ss e List.mem_cons_self) _ _) (star_all (fun y hy => ss y (List.mem_cons_of_mem _ hy)) _ _), fun S σ σD H G Q QD XD R sl h hQ hX => ?_⟩
  refine ra S σ σD H G _ _ XD R sl h (fun vs S1 H1 ds G1 hl st1 R1 r1 h1 => ?_) hX
  exact ⟨hl.trans hn, S1, G1, ds, QD, XD, R1, r1, h1, hQ.step st1, hX.step st1⟩
theorem je_frz {e : Expr} {ee : E} (he : JE fnm clm X W e (wE Γ ee)) : JE fnm clm X W e (wE Γ (.frz ee)) := by
  obtain ⟨s, ta, pa, ra⟩ := he
  refine ⟨s, ta, pa, fun S σ σD H G Q QD XD R sl h hQ hX => ?_⟩
  refine ra S σ σD H G Q (fun d H1 => frzD d H1 QD) XD R sl h (fun v S1 H1 d G1 st1 R1 r1 h1 => ?_) hX
  exact frz_ok R1 r1 h1 (hQ.step st1)
theorem blt_of (k : COk C fnm clm Γ N sc X W) {x : Str} (h : bltNames.contains x = true) : X.mg x = none := k.blt x (by simpa using h)
theorem bf_names (f : Bf) : bltNames.contains (bfName f) = true ∧ nameOk (bfName f) = true ∧ bootBuiltins (bfName f) = some (bfVal f) := by
  cases f <;> exact ⟨by decide +kernel, by decide +kernel, by decide +kernel⟩
theorem je_bf (k : COk C fnm clm Γ N sc X W) {z : Bool} {f : Bf} {x : Str} {e : Expr} {es : List Expr} {p pos : Pos} {ees : Es} (hf : bfName f = x) (hg : Gl X x) (h : JA fnm clm X W (e :: es) (wEs Γ ees)) :
    JE fnm clm X W (.Call (.Name x p) (e :: es) [] pos) (wE Γ (.bf z f ees)) := by
  subst hf
  obtain ⟨ss, ta, pa, ra⟩ := h
  obtain ⟨r, h1, h2⟩ := bf_ok (fnm := fnm) (clm := clm) k.calm f
  obtain ⟨b1, b2, b3⟩ := bf_names f
  obtain ⟨n1, n2, n3⟩ := name_debug b2
  have ref : RefE X.K fnm clm W (tCB r ta) (wE Γ (.bf z f ees)) := fun S σ σD H G Q QD XD R sl h hQ hX =>
    ra S σ σD H G _ _ XD R sl h (fun vs S1 H1 ds G1 hl st1 R1 r1 h1 => h2 z vs ds S1 H1 G1 Q QD R1 r1 h1 (hQ.step st1)) hX
  refine ⟨rfl, _, ?_, ref⟩
  have s1 := star_no (ss e List.mem_cons_self) es X.env
  have s2 := star_all (fun y hy => ss y (List.mem_cons_of_mem _ hy)) pos X.env
  cases f <;> first
    | exact pe_callB h1 hg (blt_of k b1) b3 pa n3 n1 s1 s2
    | exact pe_callTy h1 hg (blt_of k b1) b3 pa n3 n1 s1 s2
def tyName : Ty → String
  | .non => "NoneType" | .bool => "bool" | .int => "int" | .str => "str" | .tuple => "tuple" | .list => "list" | .dict => "dict"
def tyStr : Ty → Str
  | .non => "NoneType" | .bool => "bool" | .int => "int" | .str => "str" | .tuple => "tuple" | .list => "list" | .dict => "dict"
theorem kit_is (a b : Ty) (h : b ≠ .non) : PySem.W.kitOne X.K (.type (tyName a)) (.type (tyName b)) = some (isTy a b) := by
  refine kit_ty ?_
  cases b <;> first | exact absurd rfl h | skip
  all_goals (cases a <;> decide +kernel)
theorem ty_of {K : PySem.W.Frag} {S : Addr → Option Bool} {H : Hp} {G : HD} {v : V} {d : D} (R : Hel K fnm clm S H G) (r : Dat K fnm S H G v d) {t : Ty} (e : tyD d G = some t) : TyX K H v (.type (tyName t)) := by
  cases d with
  | non => cases dat_non r; cases e; exact .base .non
  | bl _ => cases dat_bl r; cases e; exact .base (.bl _)
  | int _ => cases dat_int r; cases e; exact .base (.int _)
  | str _ => obtain ⟨rfl, _⟩ := dat_str r; cases e; exact .base (.str _)
  | tup ds =>
    obtain ⟨a, vs, rfl, h1, h2, h3⟩ := dat_tup r
    cases e
    rcases h1 with (h1 | ⟨o, h1⟩) | ⟨o, its, n, h1, h2, _⟩
    · exact .base (.tup h1)
    · exact .fTuple h1
    · exact .kTuple h1 h2
  | tpl ds =>
    obtain ⟨a, vs, rfl, h1, h2, h3⟩ := dat_tpl r
    cases e
    rcases h1 with (h1 | ⟨o, h1⟩) | ⟨o, its, n, h1, h2, _⟩
    · exact .base (.tup h1)
    · exact .fTuple h1
    · exact .kTuple h1 h2
  | lst ds =>
    obtain ⟨a, vs, rfl, h1, _⟩ := dat_lst r
    cases e
    rcases h1 with ⟨h1, _, _⟩ | ⟨o, h1⟩ | ⟨o, its, n, h1, h2, _⟩
    · exact .base (.lst h1)
    · exact .base (.frz h1)
    · exact .kList h1 h2
  | scr ds =>
    obtain ⟨a, vs, rfl, h1, _⟩ := dat_scr r
    cases e
    rcases h1 with ⟨h1, _, _⟩ | ⟨o, h1⟩ | ⟨o, its, n, h1, h2, _⟩
    · exact .base (.lst h1)
    · exact .base (.frz h1)
    · exact .kList h1 h2
  | ref a =>
    cases dat_ref r
    cases q : G a with
    | none => simp [tyD, q] at e
    | some c =>
      cases c with
      | lst ds => simp [tyD, q] at e; subst e; obtain ⟨vs, h1, _⟩ := R.cell a _ q; exact .base (.lst h1)
      | dct ds => simp [tyD, q] at e; subst e; obtain ⟨vs, h1, _⟩ := R.cell a _ q; exact .base (.dK h1)
      | ins _ _ => simp [tyD, q] at e
  | _ => exact nomatch (show (none : Option Ty) = some t from e)
theorem ty_names (t : Ty) (h : t ≠ .non) : bltNames.contains (tyStr t) = true ∧ nameOk (tyStr t) = true ∧ bootBuiltins (tyStr t) = some (.type (tyName t)) := by
  cases t <;> first | exact absurd rfl h | exact ⟨by decide +kernel, by decide +kernel, by decide +kernel⟩
theorem je_isi (k : COk C fnm clm Γ N sc X W) {t : Ty} {a : Expr} {x : Str} {p p2 pos : Pos} {ea : E} (ht : t ≠ .non) (hx : tyStr t = x) (hg : Gl X "isinstance") (hg2 : Gl X x) (ha : JE fnm clm X W a (wE Γ ea)) :
    JE fnm clm X W (.Call (.Name "isinstance" p) [a, .Name x p2] [] pos) (wE Γ (.isi ea [t])) := by
  subst hx
  obtain ⟨s, ta, pa, ra⟩ := ha
  obtain ⟨b1, b2, b3⟩ := ty_names t ht
  obtain ⟨n1, n2, n3⟩ := name_debug b2
  have pt : PE X (.Name (tyStr t) p2) (tC (.ty (tyName t))) := pe_bltn hg2 (blt_of k b1) b3 rfl n3 n1
  refine ⟨rfl, _, pe_callB call_isi hg (blt_of k (by decide +kernel)) (by decide +kernel) (pa_cons pa (pa_cons pt pa_nil) (star_no s _ _)) (by decide) (by decide) (star_no s _ _) rfl, fun S σ σD H G Q QD XD R sl h hQ hX => ?_⟩
  refine ra S σ σD H G _ _ XD R sl h (fun v S1 H1 d G1 st1 R1 r1 h1 => ?_) hX
  obtain ⟨u, e, h2⟩ := ok_of h1
  refine ⟨v, .ty (tyName t), _, _, isTy u t, rfl, .ty _, ty_of R1 r1 e, kit_is u t ht, (hQ.step st1).here R1 (.bl _) ?_⟩
  simpa using h2
def okBase : Expr → Bool
  | .Call (.Name _ _) [] [] _ => false
  | _ => true
theorem base_of {o : Expr} (h : okBase o = true) (m : Str) (env : Env) : attributeBase o m env (eval o env) = eval o env := by
  unfold attributeBase
  split
  · rename_i id p pos
    cases h
  · rfl
end
end DL

namespace DL
open PySem PySem.Spec PyProof.Rows L2
section
variable {C : Cfg} {fnm clm : Nat → Option Addr} {Γ : Gam} {N : List Str} {sc : Scope} {X : Cx} {W : WX}
/-! ## 9. Methods, targets, what is walked, comprehensions -/
theorem je_mt (hu : X.A.units + 64 < cLine) {m : Mt} (hm : mtYes m = true) {o e : Expr} {x : Str} {apos cpos : Pos} {eo : E} {ees : Es} (hx : mtName m = x) (hb : okBase o = true) (hl : (apos.endLine == cpos.line) = true)
    (ho : JE fnm clm X W o (wE Γ eo)) (h : JA fnm clm X W [e] (wEs Γ ees)) : JE fnm clm X W (.Call (.Attribute o x apos) [e] [] cpos) (wE Γ (.mt m eo ees)) := by
  subst hx
  obtain ⟨T, id, r, M⟩ := mt_okD (fnm := fnm) (clm := clm) (X := X) hu hm
  obtain ⟨s, to, po, ro⟩ := ho
  obtain ⟨ss, ta, pa, ra⟩ := h
  have s1 := star_no (ss e List.mem_cons_self) [] X.env
  refine ⟨rfl, _, pe_bU M.pa M.slot M.ty M.mt po pa (base_of hb _ _) (by rw [s1] <;> rfl) hl s1 rfl, fun S σ σD H G Q QD XD R sl h hQ hX => ?_⟩
  refine ro S σ σD H G _ _ XD R sl h (fun v S1 H1 d G1 st1 R1 r1 h1 => ?_) hX
  obtain ⟨h1, h2⟩ := h1
  refine ⟨M.rc v d S1 H1 G1 R1 r1 h1, ?_⟩
  refine ra S1 σ σD H1 G1 _ _ XD R1 (sl.step R st1) h2 (fun vs S2 H2 ds G2 hl st2 R2 r2 h3 => ?_) (hX.step st1)
  exact M.to v vs d ds S2 H2 G2 Q QD R2 (r1.step R1 st2) r2 h3 (hQ.step (st1.trans st2))
theorem je_mt0 (hu : X.A.units + 64 < cLine) {m : Mt} (hm : mtYes m = true) {o : Expr} {x : Str} {apos cpos : Pos} {eo : E} (hx : mtName m = x) (hb : okBase o = true) (hl : (apos.endLine == cpos.line) = true)
    (ho : JE fnm clm X W o (wE Γ eo)) : JE fnm clm X W (.Call (.Attribute o x apos) [] [] cpos) (wE Γ (.mt m eo .n)) := by
  subst hx
  obtain ⟨T, id, r, M⟩ := mt_okD (fnm := fnm) (clm := clm) (X := X) hu hm
  obtain ⟨s, to, po, ro⟩ := ho
  refine ⟨rfl, _, pe_bU0 M.pa M.slot M.ty M.mt po (base_of hb _ _) hl, fun S σ σD H G Q QD XD R sl h hQ hX => ?_⟩
  refine ro S σ σD H G _ _ XD R sl h (fun v S1 H1 d G1 st1 R1 r1 h1 => ?_) hX
  exact ⟨M.rc v d S1 H1 G1 R1 r1 h1.1, M.to v [] d [] S1 H1 G1 Q QD R1 r1 .nil h1.2 (hQ.step st1)⟩
/-! ### tests -/
def plainT : Expr → Bool
  | .UnaryOp .Not _ _ => false
  | .BoolOp .. => false
  | .IfExp .. => false
  | .Compare .. => false
  | _ => true
theorem true_of {e : Expr} (h : plainT e = true) (env : Env) (whole : Sem Value) : isTrue e env whole = (do let v ← whole; standAt e.pos; holding [v] (truthy v)) := by
  cases e <;> first | rfl | cases h | skip
  rename_i op x pos
  cases op <;> first | rfl | cases h
theorem jt_of {e : Expr} {ee : E} (hp : plainT e = true) (he : JE fnm clm X W e (wE Γ ee)) : JT fnm clm X W e (wT Γ (.of ee)) := by
  obtain ⟨s, ta, pa, ra⟩ := he
  refine ⟨_, pt_truth pa (true_of hp X.env), fun S σ σD H G Q QD XD R sl h hQ hX => ?_⟩
  refine ra S σ σD H G _ _ XD R sl h (fun v S1 H1 d G1 st1 R1 r1 h1 => ?_) hX
  obtain ⟨b, e, h2⟩ := ok_of h1
  exact ⟨b, tru_of R1 r1 e, hQ b S1 H1 G1 st1 R1 h2⟩
theorem jt_nt {e : Expr} {pos : Pos} {et : T} (he : JT fnm clm X W e (wT Γ et)) : JT fnm clm X W (.UnaryOp .Not e pos) (wT Γ (.nt et)) := by
  obtain ⟨ta, pa, ra⟩ := he
  refine ⟨_, pt_not pa, fun S σ σD H G Q QD XD R sl h hQ hX => ?_⟩
  exact ra S σ σD H G _ _ XD R sl h (fun b S1 H1 G1 st1 R1 h1 => hQ (!b) S1 H1 G1 st1 R1 h1) hX
/-- and, or of tests -/
def JTs (fnm clm : Nat → Option Addr) (X : Cx) (W : WX) (b : Bool) (es : List Expr) (t : StD → HD → (Bool → HD → Prop) → KX → Prop) : Prop := ∀ pos, ∃ te, PW X (.BoolOp (bopE b) es pos) te ∧ RefT X.K fnm clm W te t
theorem jts_one {b : Bool} {e : Expr} {et : T} (he : JT fnm clm X W e (wT Γ et)) : JTs fnm clm X W b [e] (wTs Γ b (.c et .n)) := fun pos => by
  obtain ⟨ta, pa, ra⟩ := he
  cases b with
  | true => exact ⟨_, pw_and1 pa, ra⟩
  | false => exact ⟨_, pw_or1 pa, ra⟩
theorem jts_cons {b : Bool} {e e' : Expr} {es : List Expr} {et et' : T} {ets : Ts} (he : JT fnm clm X W e (wT Γ et)) (hr : JTs fnm clm X W b (e' :: es) (wTs Γ b (.c et' ets))) : JTs fnm clm X W b (e :: e' :: es) (wTs Γ b (.c et (.c et' ets))) := fun pos => by
  obtain ⟨ta, pa, ra⟩ := he
  obtain ⟨tb, pb, rb⟩ := hr pos
  cases b with
  | true =>
    refine ⟨_, pw_and pa pb, fun S σ σD H G Q QD XD R sl h hQ hX => ?_⟩
    refine ra S σ σD H G _ _ XD R sl h (fun c S1 H1 G1 st1 R1 h1 => ?_) hX
    cases c with
    | true => exact rb S1 σ σD H1 G1 _ _ XD R1 (sl.step R st1) h1 (hQ.step st1) (hX.step st1)
    | false => exact hQ false S1 H1 G1 st1 R1 h1
  | false =>
    refine ⟨_, pw_or pa pb, fun S σ σD H G Q QD XD R sl h hQ hX => ?_⟩
    refine ra S σ σD H G _ _ XD R sl h (fun c S1 H1 G1 st1 R1 h1 => ?_) hX
    cases c with
    | false => exact rb S1 σ σD H1 G1 _ _ XD R1 (sl.step R st1) h1 (hQ.step st1) (hX.step st1)
    | true => exact hQ true S1 H1 G1 st1 R1 h1
theorem jt_bo {b : Bool} {es : List Expr} {pos : Pos} {ets : Ts} (h : JTs fnm clm X W b es (wTs Γ b ets)) : JT fnm clm X W (.BoolOp (bopE b) es pos) (wT Γ (.bo b ets)) := by
  obtain ⟨te, p, r⟩ := h pos
  exact ⟨te, p.pt, r⟩
/-! ### targets -/
mutual
def tIn : Tgt → List Nat → Bool
  | .n i, vs => vs.contains i
  | .t ts, vs => tIns ts vs
def tIns : List Tgt → List Nat → Bool
  | [], _ => true
  | t :: ts, vs => tIn t vs && tIns ts vs
end
theorem wipe_set {i : Nat} {o : Option V} : ∀ {vs : List Nat} {σ : St'}, vs.contains i = true → wipe (σ.set i o) vs = wipe σ vs
  | [], _, h => by cases h
  | v :: vs, σ, h => by
    by_cases e : vs.contains i = true
    · show (wipe (σ.set i o) vs).set v none = (wipe σ vs).set v none
      rw [wipe_set e]
    · have q : v = i := by
        simp only [List.contains_cons, Bool.or_eq_true, beq_iff_eq] at h
        rcases h with h | h
        · exact h.symm
        · exact absurd h e
      subst q
      have out : ∀ {ws : List Nat} {τ : St'}, ¬ ws.contains v = true → wipe (τ.set v o) ws = (wipe τ ws).set v o := by
        intro ws
        induction ws with
        | nil => intro τ _; rfl
        | cons w ws ih =>
          intro τ hw
          simp only [List.contains_cons, Bool.or_eq_true, beq_iff_eq, not_or] at hw
          show (wipe (τ.set v o) ws).set w none = ((wipe τ ws).set w none).set v o
          rw [ih hw.2, List.set_comm _ _ hw.1]
      show (wipe (σ.set v o) vs).set v none = (wipe σ vs).set v none
      rw [out e, List.set_set]
def RefG (K : PySem.W.Frag) (fnm clm : Nat → Option Addr) (g : TG) (t : Tgt) : Prop := ∀ S (σ : St') σD H G v d (Q : St' → Hp → Prop) σD', Hel K fnm clm S H G → SlotOk K fnm S H G σ σD → Dat K fnm S H G v d → asg t d σD = some σD' →
  (∀ σ', SlotOk K fnm S H G σ' σD' → (∀ vs, tIn t vs = true → wipe σ' vs = wipe σ vs) → Q σ' H) → g v σ H Q
def RefGs (K : PySem.W.Frag) (fnm clm : Nat → Option Addr) (g : TGs) (t : List Tgt) : Prop := ∀ S (σ : St') σD H G vs ds (Q : St' → Hp → Prop) σD', Hel K fnm clm S H G → SlotOk K fnm S H G σ σD → DatAll K fnm S H G vs ds → asgs t ds σD = some σD' →
  (∀ σ', SlotOk K fnm S H G σ' σD' → (∀ ws, tIns t ws = true → wipe σ' ws = wipe σ ws) → Q σ' H) → g vs σ H Q
def JG (fnm clm : Nat → Option Addr) (X : Cx) (tg : Expr) (t : Tgt) : Prop := ∃ g, PG X tg g ∧ RefG X.K fnm clm g t
structure JGs (fnm clm : Nat → Option Addr) (X : Cx) (tgs : List Expr) (t : List Tgt) : Prop where
  star : ∀ e ∈ tgs, isStar e = false
  len : tgs.length = t.length
  ex : ∃ g, PGs X tgs g ∧ RefGs X.K fnm clm g t
theorem jg_name {i : Nat} {x : Str} {pos : Pos} (nd : X.N.Nodup) (hi : X.N[i]? = some x) (hx : L2.Loc X.env.scope x) (hf : X.fn x = true ∨ X.env.scope.names.lookup x = some .local) : JG fnm clm X (.Name x pos) (.n i) := by
  refine ⟨_, pg_name nd hi hx hf, fun S σ σD H G v d Q σD' R sl r e h => ?_⟩
  cases e
  exact h _ (sl.set r i) fun vs hv => wipe_set hv
theorem asg_star {e : Expr} (h : isStar e = false) (es : List Expr) (env : Env) : assignEach (e :: es) env = (false, assign e env) :: assignEach es env := by
  cases e <;> first | rfl | cases h
theorem jgs_nil : JGs fnm clm X [] [] := ⟨fun _ z => (nomatch z), rfl, _, pgs_nil, fun S σ σD H G vs ds Q σD' R sl r e h => by
  cases r with
  | nil => cases e; exact ⟨rfl, h σ sl fun _ _ => rfl⟩
  | cons _ _ => cases e⟩
theorem jgs_cons {e : Expr} {es : List Expr} {t : Tgt} {ts : List Tgt} (hs : isStar e = false) (he : JG fnm clm X e t) (hr : JGs fnm clm X es ts) : JGs fnm clm X (e :: es) (t :: ts) := by
  obtain ⟨g, pg, rg⟩ := he
  obtain ⟨ss, hl, gs, pgs, rgs⟩ := hr
  refine ⟨fun x hx => ?_, by rw [List.length_cons, hl, List.length_cons], _, pgs_cons pg pgs (by rw [asg_star hs] <;> rfl), fun S σ σD H G vs ds Q σD' R sl r e h => ?_⟩
  · rcases List.mem_cons.mp hx with rfl | hx
    · exact hs
    · exact ss x hx
  · cases r with
    | nil => cases e
    | cons r rr =>
      rename_i v d vs ds
      have e' : (match asg t d σD with | some σ' => asgs ts ds σ' | none => none) = some σD' := e
      cases q : asg t d σD with
      | none => rw [q] at e'; cases e'
      | some σ1 =>
        rw [q] at e'
        refine ⟨v, vs, rfl, rg S σ σD H G v d _ σ1 R sl r q fun σ' sl' w => ?_⟩
        refine rgs S σ' σ1 H G vs ds _ σD' R sl' rr e' fun σ'' sl'' w' => h σ'' sl'' fun ws hw => ?_
        have hw2 : tIn t ws = true ∧ tIns ts ws = true := by simpa only [tIns, Bool.and_eq_true] using hw
        rw [w' ws hw2.2, w ws hw2.1]
theorem jg_tup {es : List Expr} {k : Nat} {pos : Pos} {ts : List Tgt} (hc : X.calm = true) (h : JGs fnm clm X es ts) : JG fnm clm X (.Tuple es k pos) (.t ts) := by
  obtain ⟨ss, hl, g, pg, rg⟩ := h
  have len : ∀ {es : List Expr}, (∀ e ∈ es, isStar e = false) → (assignEach es X.env).length = es.length ∧ (assignEach es X.env).findIdx? (·.1) = none := by
    intro es
    induction es with
    | nil => intro _; exact ⟨rfl, rfl⟩
    | cons e es ih =>
      intro hs
      obtain ⟨h1, h2⟩ := ih fun x hx => hs x (List.mem_cons_of_mem _ hx)
      rw [asg_star (hs e List.mem_cons_self)]
      refine ⟨by rw [List.length_cons, h1, List.length_cons], ?_⟩
      rw [List.findIdx?_cons, h2]; rfl
  obtain ⟨l1, l2⟩ := len ss
  refine ⟨_, pg_tup (n := es.length) hc pg l1 l2, fun S σ σD H G v d Q σD' R sl r e h => ?_⟩
  obtain ⟨ds, a, vs, rfl, h1, h2, h3, e⟩ : ∃ ds a vs, v = .ref a ∧ SqT X.K H a vs ∧ vs.length ≤ sizeLine ∧ DatAll X.K fnm S H G vs ds ∧ asgs ts ds σD = some σD' := by
    cases d <;> try exact nomatch (show (none : Option StD) = some σD' from e)
    · obtain ⟨a, vs, h0, h1, h2, h3⟩ := dat_tup r
      exact ⟨_, a, vs, h0, h1, h2, h3, e⟩
    · obtain ⟨a, vs, h0, h1, h2, h3⟩ := dat_tpl r
      exact ⟨_, a, vs, h0, h1, h2, h3, e⟩
  have tl : ∀ {ts : List Tgt} {ds : List D} {σ σ' : StD}, asgs ts ds σ = some σ' → ts.length = ds.length := by
    intro ts
    induction ts with
    | nil => intro ds σ σ' e; cases ds with
      | nil => rfl
      | cons _ _ => cases e
    | cons t ts ih =>
      intro ds σ σ' e
      cases ds with
      | nil => cases e
      | cons d ds =>
        have e' : (match asg t d σ with | some σ' => asgs ts ds σ' | none => none) = some σ' := e
        split at e'
        · rw [List.length_cons, List.length_cons, ih e']
        · cases e'
  refine ⟨a, vs, rfl, h1, by rw [h3.length, hl, tl e], ?_⟩
  exact rg S σ σD H G vs ds Q σD' R sl h3 e fun σ' sl' w => h σ' sl' w
end
end DL

/-! ### enumerate over a tuple -/
namespace DL.En
open PySem PySem.Spec PyProof.Rows L2
open Sem (wp)
open AutoSeq1 (wpAny_loadPart')
abbrev tIt (t : Addr) : Obj := { cls := .type "tuple_iterator", data := .fields #[.ref t, .int 0 0] }
abbrev eOb (i : Addr) : Obj := { cls := .type "enumerate", data := .fields #[.none, .bool false, .ref i, rawInt 0, .none, .none] }
theorem new_tup (t : Addr) (items : Array Value) (n : Nat) (dct : Option Addr) (sl : Array (Option Value)) :
    Meets (Builtin.«enumerate.__new__» ⟨[.type "enumerate", .ref t], []⟩) (fun _ R s => s.heap.get? t = some { cls := .type "tuple", dict := dct, data := .seq items n, slots := sl } ∧
      R (.ok (.ret (.ref (s.heap.push (tIt t)).objs.size))) { s with heap := (s.heap.push (tIt t)).push (eOb s.heap.objs.size) }) :=
  .of_wp fun prog w A R s h => by
    obtain ⟨hp, g, d, tk, os⟩ := s; obtain ⟨ht, h⟩ := h
    have sub := sub_enumerate; have T : Heap.IsTuple (Shared.heap ⟨hp, g, d, tk, os⟩) t items := ⟨_, ht, rfl, n, rfl⟩
    wp_walk using wpAny_loadPart' ht
    refine wpAny_stack_any fun _ => wpAny_pure ?_; split
    · rename_i c _ _ _ _ _; cases (c == Value.type "enumerate")
      · wp_walk using wpAny_loadPart' ht, wpAny_pyIter_tuple T; exact ⟨_, rfl, h⟩
      · wp_walk using wpAny_loadPart' ht, wpAny_pyIter_tuple T; exact ⟨_, rfl, h⟩
    · wp_walk using wpAny_loadPart' ht, wpAny_pyIter_tuple T; exact ⟨_, rfl, h⟩
theorem call_tup {prog : Program} {w : World} {A : Around} {E : Value → Shared → Prop} {s : Shared} {t : Addr} {items : Array Value} {Q : Value → Shared → Prop} (hT : s.heap.IsTuple t items)
    (k : ∀ h', IsEnum h' (s.heap.objs.size + 1) s.heap.objs.size 0 .none → h'.IsTupleIter s.heap.objs.size t 0 → h'.objs.size = s.heap.objs.size + 2 → (∀ b o, s.heap.get? b = some o → h'.get? b = some o) → Q (.ref (s.heap.objs.size + 1)) { s with heap := h' }) :
    wpAny (model prog w) A (call (.type "enumerate") [.ref t]) Q E s := by
  obtain ⟨⟨c, dct, dt, sl⟩, ht, hc, n, hd⟩ := hT
  cases (hc : c = .type "tuple"); cases (hd : dt = .seq items n)
  have sz : (s.heap.push (tIt t)).objs.size = s.heap.objs.size + 1 := Heap.size_push ..
  refine callType_new F.called_enumerate (by decide) (F.typeCall_enumerate_1 _) (F.newCall_enumerate_1 _) (fun o => F.args_object_init_2 o _) F.entry_enumerate_new (new_tup t items n dct sl) ⟨ht, ?_⟩
  have en : IsEnum ((s.heap.push (tIt t)).push (eOb s.heap.objs.size)) (s.heap.objs.size + 1) s.heap.objs.size 0 .none := by
    have q := Heap.get?_push_size (s.heap.push (tIt t)) (o := eOb s.heap.objs.size) rfl; rw [sz] at q; exact q
  show _ ∧ _; rw [sz]
  exact ⟨⟨_, en, rfl⟩, k _ en ⟨_, Heap.get?_push_of_some _ (Heap.get?_push_size _ rfl), rfl, rfl⟩ (by rw [Heap.size_push, sz]) fun b o y => Heap.get?_push_of_some _ (Heap.get?_push_of_some _ y)⟩
/-- the tuple at a, each item in a new pair -/
def ItE (K : PySem.W.Frag) (a : Addr) : It :=
  ⟨fun i H => ∃ (xs : List V) (x : V), SqT K H a xs ∧ xs[i]? = some x, fun i H v H' => ∃ T x, v = .ref T ∧ H T = none ∧ H' = upd H T (.tup [.int (i : Nat), x]) ∧ ∀ xs, SqT K H a xs → xs[i]? = some x, fun i H => ∃ xs : List V, SqT K H a xs ∧ xs.length ≤ i⟩
theorem turn {P : Program} {w : World} {K : PySem.W.Frag} {elts : List Expr} {kk : Nat} {tpos : Pos} (a e it : Addr) :
    Turn P w K (.Tuple elts kk tpos) (ItE K a) [e, it] e (fun i h => (∃ old, IsEnum h e it ((i : Nat) : Int) old) ∧ h.IsTupleIter it a i ∧ e ≠ it) where
  mem := by simp
  obj := fun i h st b hb => by
    obtain ⟨⟨old, he⟩, ⟨o, ho, hc, hd⟩, _⟩ := st
    rcases (show b = e ∨ b = it by simpa using hb) with z | z
    · rw [z]; exact ⟨_, he, fun v q => nomatch q⟩
    · rw [z]; exact ⟨o, ho, fun v q => by rw [hd] at q; cases q⟩
  keep := fun i h h' ⟨⟨old, he⟩, hi, hne⟩ k => ⟨⟨old, k e (by simp) _ he⟩, hi.at fun o q => k it (by simp) o q, hne⟩
  item := by
    intro X hP hw hK hc i pins s σ H E I hf st hg; subst hP hw hK
    obtain ⟨⟨⟨old, he⟩, hit, hne⟩, ⟨xs, x, hq, hx⟩⟩ := And.intro st hg
    obtain ⟨its, rv, p, _⟩ := I.tuple hq
    obtain ⟨u, hu, ru⟩ := rv.get hx
    have hel : e < s.heap.objs.size := Heap.lt_size he
    have hil : it < s.heap.objs.size := by obtain ⟨_, q, _⟩ := hit; exact Heap.lt_size q
    have pt : s.heap.IsTuple a its.toArray := p
    have hlt : i < its.toArray.size := by rw [List.size_toArray]; exact (List.getElem?_eq_some_iff.mp hu).1
    have dif : ∀ b : Addr, (∃ o, s.heap.get? b = some o ∧ o.cls ≠ .type "tuple") → a ≠ b := fun b ⟨o, h1, h2⟩ z => by
      obtain ⟨o', h3, h4, _⟩ := pt; rw [z, h1] at h3; cases h3; exact h2 h4
    have hae : a ≠ e := dif e ⟨_, he, by simp⟩
    have hai : a ≠ it := dif it (by obtain ⟨o, h1, h2, _⟩ := hit; exact ⟨o, h1, by rw [h2]; simp⟩)
    refine wpAny_pyNext_enum_itemD (Draws.tuple (show X.A.in1.handled = none from I.ok.hd hc) it a hai its.toArray) he ⟨hit, pt⟩ hlt hne (by simp [hne, Ne.symm hae]) fun y h' tk py ho ⟨hit', _⟩ hT hsz hk => ?_
    have ey : y = u := by
      have : its[i]? = some y := by simpa using py
      rw [hu] at this; exact (Option.some.inj this).symm
    subst ey
    refine ⟨_, rfl, wpAny_letOwnedTupleGo_enum (s := { s with heap := h', toks := tk + 1 }) ho fun h'' he' sb => ?_⟩
    have hT2 : h''.get? s.heap.objs.size = some { cls := .type "tuple", data := .seq #[.int i tk, y] } := (sb.2 _ (Nat.ne_of_gt hel)).trans hT
    have new : ObjOk X.prog X.w (upd H s.heap.objs.size (.tup [.int (i : Nat), x])) h'' s.heap.objs.size (.tup [.int (i : Nat), x]) := ⟨by show 2 ≤ sizeLine; decide, [.int i tk, y], .cons ⟨_, rfl⟩ (.cons ru .nil), ⟨_, hT2, rfl, _, rfl⟩⟩
    have I1 : Inv X pins σ (upd H s.heap.objs.size (.tup [.int (i : Nat), x])) { s with heap := h'', toks := tk + 1 } :=
      I.turnedNew (ch := [e, it]) (fun b ob hb q => (sb.2 b (fun z => hb (by simp [z]))).trans (hk b ob (fun z => hb (by simp [z])) (fun z => hb (by simp [z])) q)) hf (Nat.le_refl _) new
    refine ⟨.ref s.heap.objs.size, _, I1, rfl, ⟨_, x, rfl, I.hok.fresh (Nat.le_refl _), rfl, fun ys hy => by rw [I.tuple_inj hy hq]; exact hx⟩, ⟨⟨y, by rw [show ((i + 1 : Nat) : Int) = (i : Int) + 1 by omega]; exact he'⟩, hit'.at fun o q => (sb.2 it (Ne.symm hne)).trans q, hne⟩, fun b hb => ?_⟩
    have hb' : b < s.heap.objs.size := by
      rcases (show b = e ∨ b = it by simpa using hb) with z | z <;> (rw [z]; assumption)
    rw [upd_ne (Nat.ne_of_lt hb')]; exact (hf b hb).1
  done := by
    intro X hP hw hK hc i pins s σ H E I hf st hg; subst hP hw hK
    obtain ⟨⟨⟨old, he⟩, hit, hne⟩, ⟨xs, hq, hx⟩⟩ := And.intro st hg
    obtain ⟨its, rv, p, _⟩ := I.tuple hq
    obtain ⟨f0, f1, f2, f3, f4, f5⟩ := hf it (by simp)
    have pt : s.heap.IsTuple a its.toArray := p
    have hai : a ≠ it := fun z => by
      obtain ⟨o, h1, h2, _⟩ := hit; obtain ⟨o', h3, h4, _⟩ := pt
      rw [z, h1] at h3; cases h3; rw [h2] at h4; simp at h4
    have none' : its.toArray[i]? = none := Array.getElem?_eq_none (by rw [List.size_toArray, ← rv.length]; exact hx)
    have D : Draws X.prog X.w X.A.in1 it [it, a] i (fun _ _ => False) (fun k h => k = i ∧ h.IsTupleIter it a i ∧ h.IsTuple a its.toArray) := {
      live := fun _ _ st => let ⟨o, ho, _⟩ := st.2.1; ⟨o, ho⟩
      frame := fun _ _ _ st hk => ⟨st.1, st.2.1.at fun o q => hk it (by simp) o q, st.2.2.at fun o q => hk a (by simp) o q⟩
      item := fun k s Q E hk st _ => absurd st.1 (by omega)
      done := fun s Q E st hE => wpAny_nextOf_tuple_end (show X.A.in1.handled = none from I.ok.hd hc) st.2.1 st.2.2 none' hE }
    exact wpAny_pyNext_enum_endD D he ⟨rfl, hit, pt⟩ fun h' eb => ⟨rfl, I.turned (t' := s.toks) (fun b o hb q => eb b o hb q) f0 f1 f3 f4 f5⟩
  self := fun A i s Q E ⟨⟨_, he⟩, _⟩ h => wpAny_pyIter_enum he h
def iAny (K : PySem.W.Frag) (ta : TA) : TI := fun σ H R => ta σ H fun vs H1 => ∃ a xs, vs = [.ref a] ∧ ((SqL K H1 a xs ∧ R (Ite K a) H1) ∨ (SqT K H1 a xs ∧ R (ItE K a) H1))
theorem pi_any {X : Cx} {e : Expr} {ta : TA} {p pos tpos : Pos} {elts : List Expr} {kk : Nat} (hg : Gl X "enumerate") (hm : X.mg "enumerate" = none) (ha : PA X [e] ta) (hs : starEach [e] X.env = [(false, eval e X.env)]) :
    PI X (.Tuple elts kk tpos) (.Call (.Name "enumerate" p) [e] [] pos) (iAny X.K ta) := by
  refine ⟨fun pins s σ H R I h => ?_⟩
  refine Call_ (ld_blt I hg hm boot_enumerate (PyProof.Rows.callWith_type1 (thn (ha.run pos pins s σ H _ I h) fun us s1 ⟨vs, H1, I1, r1, ⟨a, xs, ex, q⟩⟩ => ?_) hs rfl))
  subst ex
  cases r1 with
  | cons r rr =>
    cases rr; cases r
    have fp : ∀ b, b ∈ [s1.heap.objs.size + 1, s1.heap.objs.size] → FpOk X pins H1 b := fun b hb => by
      have hle : s1.heap.objs.size ≤ b := by
        rcases (show b = s1.heap.objs.size + 1 ∨ b = s1.heap.objs.size by simpa using hb) with z | z <;> omega
      exact I1.fpOk hle (I1.hok.fresh hle)
    rcases q with ⟨hq, q⟩ | ⟨hq, q⟩
    · obtain ⟨its, rv, p', hz⟩ := I1.list hq
      refine call_enumerate_list p'.isList fun h' he hit hsz hk => wpAny_pyIter_enum he ?_
      exact ⟨s1.heap.objs.size + 1, [s1.heap.objs.size + 1, s1.heap.objs.size], _, _, H1, rfl, I1.kept (t' := s1.toks) hk, turn_enum a (s1.heap.objs.size + 1) s1.heap.objs.size, ⟨⟨.none, he⟩, hit, Nat.succ_ne_self _⟩, fp, q⟩
    · obtain ⟨its, rv, p', hz⟩ := I1.tuple hq
      refine call_tup (show s1.heap.IsTuple a its.toArray from p') fun h' he hit hsz hk => wpAny_pyIter_enum he ?_
      exact ⟨s1.heap.objs.size + 1, [s1.heap.objs.size + 1, s1.heap.objs.size], _, _, H1, rfl, I1.kept (t' := s1.toks) hk, turn a (s1.heap.objs.size + 1) s1.heap.objs.size, ⟨⟨.none, he⟩, hit, Nat.succ_ne_self _⟩, fp, q⟩
end DL.En

namespace RZ
open PySem
open PySem.Sem (wp)
section
variable {prog : Program} {w : World} {A : Around} {E : Value → Shared → Prop} {s : Shared}
abbrev IsZipB (h : Heap) (z TI TO : Addr) (f0 : Value) (b : Bool) : Prop :=
  h.get? z = some { cls := .type "zip", dict := none, data := .fields #[f0, .bool b, .bool false, .ref TI, .ref TO], slots := #[] }
theorem wpAny_alive {a : Addr} {Q : Option Obj → Shared → Prop} (h : Q (s.heap.get? a) s) : wpAny (model prog w) A (loadIfAlive a) Q E s := fun Γ p _ => by
  unfold loadIfAlive
  rw [Sem.wp_loadIfAlive]
  exact h
theorem same_refl {z : Addr} {h : Heap} : Heap.SameBut z h h := ⟨rfl, fun _ _ => rfl⟩
theorem notFree {z TI TO T : Addr} {b0 : Bool} {oT : Obj} {Q : Bool → Shared → Prop} (hz : IsZipB s.heap z TI TO (rawInt T) b0) (hT : s.heap.get? T = some oT)
    (h : ∀ h', IsZipB h' z TI TO (rawInt T) true → Heap.SameBut z s.heap h' → Q false { s with heap := h' }) : wpAny (model prog w) A (Builtin.SmallTypes.ownedTupleIsFree (.ref z)) Q E s := by
  unfold Builtin.SmallTypes.ownedTupleIsFree
  refine wpAny_bind (wpAny_field hz rfl (x := rawInt T) rfl ?_)
  show wpAny _ _ (loadIfAlive ((T : Int).toNat) >>= _) _ _ _
  refine wpAny_bind (wpAny_alive ?_)
  have e : s.heap.get? ((T : Int).toNat) = some oT := by rw [Int.toNat_natCast]; exact hT
  rw [e]
  show wpAny _ _ (field (.ref z) 1 >>= _) _ _ _
  refine wpAny_bind (wpAny_field hz rfl (x := .bool b0) rfl ?_)
  cases b0 with
  | true => exact wpAny_pure (h _ hz same_refl)
  | false =>
    show wpAny _ _ (setField (.ref z) 1 (.bool true) >>= _) _ _ _
    exact wpAny_bind (wpAny_setField_rec hz (by simp) fun h' hz' hs' => wpAny_pure (h h' hz' hs'))
theorem zipT_next_itemB {z TI TO i1 i2 l1 l2 T : Addr} {b0 : Bool} {k1 k2 : Nat} {xs ys : Array Value} {x y : Value} {oT : Obj} {Q : Value → Shared → Prop} (D : ZipApart z TI TO i1 i2 l1 l2)
    (hz : IsZipB s.heap z TI TO (rawInt T) b0) (hT : s.heap.get? T = some oT) (hTI : IsPair s.heap TI (.ref i1) (.ref i2))
    (h1 : s.heap.IsTupleIter i1 l1 k1) (h2 : s.heap.IsTupleIter i2 l2 k2) (hl1 : s.heap.IsTuple l1 xs) (hl2 : s.heap.IsTuple l2 ys) (hx : xs[k1]? = some x) (hy : ys[k2]? = some y)
    (hQ : ∀ h', IsZipB h' z TI TO (rawInt T) true → h'.IsTupleIter i1 l1 (k1 + 1) → h'.IsTupleIter i2 l2 (k2 + 1) → IsPair h' s.heap.objs.size x y → h'.objs.size = s.heap.objs.size + 1 →
      (∀ c o, c ≠ z → c ≠ i1 → c ≠ i2 → s.heap.get? c = some o → h'.get? c = some o) → Q (.ref s.heap.objs.size) { s with heap := h' }) :
    wpAny (model prog w) A (Builtin.«zip.__next__» ⟨[.ref z], []⟩) (fun fin s' => ∃ v, fin = .done (.ret v) ∧ Q v s') E s := by
  show wpAny _ _ (field (.ref z) 2 >>= _) _ _ _
  refine wpAny_bind (wpAny_field hz rfl (x := .bool false) rfl ?_)
  show wpAny _ _ (field (.ref z) 3 >>= _) _ _ _
  refine wpAny_bind (wpAny_field hz rfl (x := .ref TI) rfl ?_)
  refine wpAny_bind (wpAny_seqItems hTI rfl ?_)
  show wpAny _ _ (Builtin.SmallTypes.ownedTupleIsFree (.ref z) >>= _) _ _ _
  refine wpAny_bind (notFree hz hT fun h₁ hz₁ hs₁ => ?_)
  simp only [Bool.false_eq_true, if_false]
  refine wpAny_bind ?_
  simp only [List.forIn_toArray, List.forIn_cons, List.forIn_nil]
  refine wpAny_bind (wpAny_bind (wpAny_holding ?_))
  show wpAny _ _ (Builtin.SmallTypes.nextOf (.ref i1) >>= _) _ _ _
  refine wpAny_bind (nextOf_tuple_item (h1.extBut hs₁.extBut D.i1z) (hl1.extBut hs₁.extBut D.l1z) hx fun h₂ h1₂ hs₂ => wpAny_pure (wpAny_pure ?_))
  refine wpAny_bind (wpAny_bind (wpAny_holding ?_))
  show wpAny _ _ (Builtin.SmallTypes.nextOf (.ref i2) >>= _) _ _ _
  refine wpAny_bind (nextOf_tuple_item ((h2.extBut hs₁.extBut D.i2z).extBut hs₂.extBut D.i12.symm) ((hl2.extBut hs₁.extBut D.l2z).extBut hs₂.extBut D.l2i1) hy fun h₄ h2₄ hs₄ => wpAny_pure (wpAny_pure (wpAny_pure ?_)))
  show wpAny _ _ (newTuple [x, y] >>= _) _ _ _
  refine wpAny_bind (wpAny_newTuple ?_)
  have hsz : h₄.objs.size = s.heap.objs.size := by rw [hs₄.1, hs₂.1, hs₁.1]
  have hk : ∀ c o, c ≠ z → c ≠ i1 → c ≠ i2 → s.heap.get? c = some o → h₄.get? c = some o := fun c o c1 c3 c4 e => hs₄.extBut _ _ c4 (hs₂.extBut _ _ c3 (hs₁.extBut _ _ c1 e))
  have hz₄ : IsZipB h₄ z TI TO (rawInt T) true := hs₄.extBut _ _ D.i2z.symm (hs₂.extBut _ _ D.i1z.symm hz₁)
  have h1₄ : h₄.IsTupleIter i1 l1 (k1 + 1) := h1₂.extBut hs₄.extBut D.i12
  have q := hQ (h₄.push { cls := .type "tuple", data := .seq #[x, y] }) (Heap.get?_push_of_some _ hz₄) (h1₄.at fun o e => Heap.get?_push_of_some _ e) (h2₄.at fun o e => Heap.get?_push_of_some _ e)
    (by rw [← hsz]; exact Heap.get?_push_size _ rfl) (by rw [Heap.size_push, hsz]) fun c o c1 c2 c3 e => Heap.get?_push_of_some _ (hk c o c1 c2 c3 e)
  rw [← hsz] at q
  exact wpAny_pure ⟨_, rfl, q⟩
theorem zipT_next_endB {z TI TO i1 i2 l1 l2 T : Addr} {b0 : Bool} {k1 k2 : Nat} {xs ys : Array Value} {oT : Obj} {Q : Fin → Shared → Prop} (hh : A.handled = none) (D : ZipApart z TI TO i1 i2 l1 l2)
    (hz : IsZipB s.heap z TI TO (rawInt T) b0) (hT : s.heap.get? T = some oT) (hTI : IsPair s.heap TI (.ref i1) (.ref i2))
    (h1 : s.heap.IsTupleIter i1 l1 k1) (h2 : s.heap.IsTupleIter i2 l2 k2) (hl1 : s.heap.IsTuple l1 xs) (hl2 : s.heap.IsTuple l2 ys) (hend : xs[k1]? = none ∨ ys[k2]? = none)
    (hE : ∀ h' e, (∀ c o, c ≠ z → c ≠ i1 → c ≠ i2 → s.heap.get? c = some o → h'.get? c = some o) → (∃ o, h'.get? e = some o ∧ o.cls = .type "StopIteration") → E (.ref e) { s with heap := h' }) :
    wpAny (model prog w) A (Builtin.«zip.__next__» ⟨[.ref z], []⟩) Q E s := by
  show wpAny _ _ (field (.ref z) 2 >>= _) _ _ _
  refine wpAny_bind (wpAny_field hz rfl (x := .bool false) rfl ?_)
  show wpAny _ _ (field (.ref z) 3 >>= _) _ _ _
  refine wpAny_bind (wpAny_field hz rfl (x := .ref TI) rfl ?_)
  refine wpAny_bind (wpAny_seqItems hTI rfl ?_)
  show wpAny _ _ (Builtin.SmallTypes.ownedTupleIsFree (.ref z) >>= _) _ _ _
  refine wpAny_bind (notFree hz hT fun h₁ hz₁ hs₁ => ?_)
  simp only [Bool.false_eq_true, if_false]
  refine wpAny_bind ?_
  simp only [List.forIn_toArray, List.forIn_cons, List.forIn_nil]
  refine wpAny_bind (wpAny_bind (wpAny_holding ?_))
  show wpAny _ _ (Builtin.SmallTypes.nextOf (.ref i1) >>= _) _ _ _
  cases hx : xs[k1]? with
  | none =>
    exact wpAny_bind (nextOf_tuple_end hh (h1.extBut hs₁.extBut D.i1z) (hl1.extBut hs₁.extBut D.l1z) hx fun h₂ e hs₂ he => hE h₂ e (fun c o c1 c3 _ x => hs₂ _ _ c3 (hs₁.extBut _ _ c1 x)) he)
  | some x =>
    have hy : ys[k2]? = none := by rcases hend with h | h; rw [hx] at h; cases h; exact h
    refine wpAny_bind (nextOf_tuple_item (h1.extBut hs₁.extBut D.i1z) (hl1.extBut hs₁.extBut D.l1z) hx fun h₂ h1₂ hs₂ => wpAny_pure (wpAny_pure ?_))
    refine wpAny_bind (wpAny_bind (wpAny_holding ?_))
    show wpAny _ _ (Builtin.SmallTypes.nextOf (.ref i2) >>= _) _ _ _
    exact wpAny_bind (nextOf_tuple_end hh ((h2.extBut hs₁.extBut D.i2z).extBut hs₂.extBut D.i12.symm) ((hl2.extBut hs₁.extBut D.l2z).extBut hs₂.extBut D.l2i1) hy fun h₄ e hs₄ he =>
      hE h₄ e (fun c o c1 c3 c4 x => hs₄ _ _ c4 (hs₂.extBut _ _ c3 (hs₁.extBut _ _ c1 x))) he)
/-- a zip of two tuples on its way: fresh, or its last pair is held -/
def ZAt (h : Heap) (z TI TO i1 i2 l1 l2 : Addr) (k : Nat) : Prop :=
  ((IsZip h z TI TO .none ∧ ∃ a b, IsPair h TO a b) ∨ ∃ (T : Addr) (b0 : Bool) (oT : Obj), IsZipB h z TI TO (rawInt T) b0 ∧ h.get? T = some oT ∧ T ≠ z ∧ T ≠ i1 ∧ T ≠ i2) ∧ IsPair h TI (.ref i1) (.ref i2) ∧ h.IsTupleIter i1 l1 k ∧ h.IsTupleIter i2 l2 k
theorem zat_zip {h : Heap} {z TI TO i1 i2 l1 l2 : Addr} {k : Nat} (q : ZAt h z TI TO i1 i2 l1 l2 k) : ∃ o, h.get? z = some o ∧ o.cls = .type "zip" := by
  rcases q.1 with ⟨h1, _⟩ | ⟨T, b, oT, h1, _⟩ <;> exact ⟨_, h1, rfl⟩
theorem pyNext_zat_item {z TI TO i1 i2 l1 l2 : Addr} {k : Nat} {xs ys : Array Value} {x y : Value} {Q : Option Value → Shared → Prop} (D : ZipApart z TI TO i1 i2 l1 l2)
    (q : ZAt s.heap z TI TO i1 i2 l1 l2 k) (hl1 : s.heap.IsTuple l1 xs) (hl2 : s.heap.IsTuple l2 ys) (hx : xs[k]? = some x) (hy : ys[k]? = some y)
    (hQ : ∀ h', ZAt h' z TI TO i1 i2 l1 l2 (k + 1) → IsPair h' s.heap.objs.size x y → h'.objs.size = s.heap.objs.size + 1 →
      (∀ c o, c ≠ z → c ≠ TO → c ≠ i1 → c ≠ i2 → s.heap.get? c = some o → h'.get? c = some o) → Q (some (.ref s.heap.objs.size)) { s with heap := h' }) :
    wpAny (model prog w) A (pyNext (.ref z)) Q E s := by
  obtain ⟨o, ho, hc⟩ := zat_zip q
  have hT : s.TypeIs (.ref z) "zip" := ⟨_, ho, hc⟩
  obtain ⟨q1, hTI, h1, h2⟩ := q
  have hi1lt : i1 < s.heap.objs.size := by obtain ⟨_, e, _⟩ := h1; exact Heap.lt_size e
  have hi2lt : i2 < s.heap.objs.size := by obtain ⟨_, e, _⟩ := h2; exact Heap.lt_size e
  have hzlt : z < s.heap.objs.size := Heap.lt_size ho
  unfold pyNext
  refine wpAny_bind (wpAny_attempt (wpAny_callSpecial?_slot (name := Str.ofString "__next__") hT F.slot_zip_next (wpAny_call_entry F.slot_zip_next hT F.entry_zip_next ?_ (F.args_zip_next_1 _))))
  rcases q1 with ⟨hz, a, b, hTO⟩ | ⟨T, b0, oT, hz, hoT, n1, n2, n3⟩
  · refine zipT_next_item D hz hTI hTO h1 h2 hl1 hl2 hx hy fun h' a1 a2 a3 a4 a5 a6 a7 => wpAny_pure (hQ h' ⟨.inr ⟨_, false, _, a1, a5, ?_, ?_, ?_⟩, a7 _ _ D.TIz D.TITO D.TIi1 D.TIi2 hTI, a3, a4⟩ a5 a6 a7)
    · exact Nat.ne_of_gt hzlt
    · exact Nat.ne_of_gt hi1lt
    · exact Nat.ne_of_gt hi2lt
  · exact zipT_next_itemB D hz hoT hTI h1 h2 hl1 hl2 hx hy fun h' a1 a3 a4 a5 a6 a7 => wpAny_pure (hQ h' ⟨.inr ⟨T, true, oT, a1, a7 _ _ n1 n2 n3 hoT, n1, n2, n3⟩, a7 _ _ D.TIz D.TIi1 D.TIi2 hTI, a3, a4⟩ a5 a6 fun c o c1 _ c3 c4 e => a7 c o c1 c3 c4 e)
theorem pyNext_zat_end {z TI TO i1 i2 l1 l2 : Addr} {k : Nat} {xs ys : Array Value} {Q : Option Value → Shared → Prop} (hh : A.handled = none) (D : ZipApart z TI TO i1 i2 l1 l2)
    (q : ZAt s.heap z TI TO i1 i2 l1 l2 k) (hl1 : s.heap.IsTuple l1 xs) (hl2 : s.heap.IsTuple l2 ys) (hend : xs[k]? = none ∨ ys[k]? = none)
    (hQ : ∀ h', (∀ c o, c ≠ z → c ≠ TO → c ≠ i1 → c ≠ i2 → s.heap.get? c = some o → h'.get? c = some o) → Q none { s with heap := h' }) : wpAny (model prog w) A (pyNext (.ref z)) Q E s := by
  obtain ⟨o, ho, hc⟩ := zat_zip q
  have hT : s.TypeIs (.ref z) "zip" := ⟨_, ho, hc⟩
  obtain ⟨q1, hTI, h1, h2⟩ := q
  rcases q1 with ⟨hz, a, b, hTO⟩ | ⟨T, b0, oT, hz, hoT, n1, n2, n3⟩
  · exact pyNext_zipT_end hh D hz hTI hTO h1 h2 hl1 hl2 hend hQ
  · unfold pyNext
    refine wpAny_bind (wpAny_attempt (wpAny_callSpecial?_slot (name := Str.ofString "__next__") hT F.slot_zip_next
      (wpAny_call_entry F.slot_zip_next hT F.entry_zip_next (zipT_next_endB hh D hz hoT hTI h1 h2 hl1 hl2 hend fun h' e hk he => ?_) (F.args_zip_next_1 _))))
    obtain ⟨o, ho, hc⟩ := he
    refine wpAny_bind (wpAny_isInstance (T := "StopIteration") (b := true) ⟨o, ho, hc⟩ isSubtype_stop ?_)
    exact wpAny_pure (hQ _ fun c o c1 _ c3 c4 e => hk c o c1 c3 c4 e)
theorem ZAt.keep {h h' : Heap} {z TI TO i1 i2 l1 l2 : Addr} {k : Nat} (q : ZAt h z TI TO i1 i2 l1 l2 k) (kp : ∀ c, c = z ∨ c = TI ∨ c = TO ∨ c = i1 ∨ c = i2 → ∀ o, h.get? c = some o → h'.get? c = some o)
    (al : ∀ c o, h.get? c = some o → ∃ o', h'.get? c = some o') : ZAt h' z TI TO i1 i2 l1 l2 k := by
  obtain ⟨q1, hTI, h1, h2⟩ := q
  refine ⟨?_, kp _ (by simp) _ hTI, h1.at fun o e => kp _ (by simp) o e, h2.at fun o e => kp _ (by simp) o e⟩
  rcases q1 with ⟨hz, a, b, hTO⟩ | ⟨T, b0, oT, hz, hoT, n1, n2, n3⟩
  · exact .inl ⟨kp _ (by simp) _ hz, a, b, kp _ (by simp) _ hTO⟩
  · obtain ⟨o', e⟩ := al _ _ hoT
    exact .inr ⟨T, b0, o', kp _ (by simp) _ hz, e, n1, n2, n3⟩
structure ZAc (h : Heap) (B : Nat) (xs ys acc : Array Value) (as : List Addr) : Prop where
  acc_ : acc.toList = as.map Value.ref
  inc : as.Pairwise (· < ·)
  rng : ∀ a ∈ as, B ≤ a ∧ a < h.objs.size
  at_ : ∀ (j : Nat) (a : Addr), as[j]? = some a → ∃ x y, xs[j]? = some x ∧ ys[j]? = some y ∧ IsPair h a x y
theorem ZAc.sz {h : Heap} {B : Nat} {xs ys acc : Array Value} {as : List Addr} (a : ZAc h B xs ys acc as) : acc.size = as.length := by
  have := congrArg List.length a.acc_
  simpa using this
theorem ZAc.keep {h h' : Heap} {B : Nat} {xs ys acc : Array Value} {as : List Addr} (a : ZAc h B xs ys acc as) (k : ∀ c o, B ≤ c → h.get? c = some o → h'.get? c = some o) : ZAc h' B xs ys acc as :=
  have at' : ∀ (j : Nat) (c : Addr), as[j]? = some c → ∃ x y, xs[j]? = some x ∧ ys[j]? = some y ∧ IsPair h' c x y := fun j c e => by
    obtain ⟨x, y, h1, h2, h3⟩ := a.at_ j c e
    exact ⟨x, y, h1, h2, k _ _ (a.rng c (List.mem_of_getElem? e)).1 h3⟩
  ⟨a.acc_, a.inc, fun c hc => ⟨(a.rng c hc).1, by
    obtain ⟨j, hj, e⟩ := List.mem_iff_getElem.mp hc
    obtain ⟨x, y, _, _, h3⟩ := at' j c (by rw [← e]; exact List.getElem?_eq_getElem hj)
    exact Heap.lt_size h3⟩, at'⟩
theorem nge {B : Nat} {a b : Addr} (h : a < B) (h2 : B ≤ b) : b ≠ a := Nat.ne_of_gt (Nat.lt_of_lt_of_le h h2)
theorem zat_loop {S z TI TO i1 i2 l1 l2 : Addr} {B n : Nat} {xs ys : Array Value} {R : Result → Shared → Prop} {res : Value} (hh : A.handled = none) (D : ZipApart z TI TO i1 i2 l1 l2) (hn : n = min xs.size ys.size) (hn2 : n ≤ sizeLine)
    (hB : z < B ∧ TI < B ∧ TO < B ∧ i1 < B ∧ i2 < B ∧ S < B ∧ l1 < B ∧ l2 < B) (hS : S ≠ z ∧ S ≠ TI ∧ S ≠ TO ∧ S ≠ i1 ∧ S ≠ i2 ∧ S ≠ l1 ∧ S ≠ l2) :
    ∀ (k : Nat) (s : Shared) (acc : Array Value) (c : Nat) (as : List Addr), n - as.length = k → as.length ≤ n → B ≤ s.heap.objs.size → ZAt s.heap z TI TO i1 i2 l1 l2 as.length → s.heap.IsTuple l1 xs → s.heap.IsTuple l2 ys →
      s.heap.get? S = some { cls := .type "list", dict := none, data := .seq acc c, slots := #[] } → ZAc s.heap B xs ys acc as →
      (∀ h' acc' c' as', (∀ c o, c < B → c ≠ z → c ≠ TO → c ≠ i1 → c ≠ i2 → c ≠ S → s.heap.get? c = some o → h'.get? c = some o) → h'.get? S = some { cls := .type "list", dict := none, data := .seq acc' c', slots := #[] } → ZAc h' B xs ys acc' as' → as'.length = n → R (.ok (.ret res)) { s with heap := h' }) →
      codeAny (model prog w) A (.builtin "list.extend.loop" ⟨[.ref S, .ref z, res], []⟩) R s := by
  obtain ⟨b1, b2, b3, b4, b5, b6, b7, b8⟩ := hB
  obtain ⟨n1, n2, n3, n4, n5, n6, n7⟩ := hS
  have far : ∀ c, B ≤ c → c ≠ z ∧ c ≠ TO ∧ c ≠ i1 ∧ c ≠ i2 ∧ c ≠ S := fun c h => ⟨nge b1 h, nge b3 h, nge b4 h, nge b5 h, nge b6 h⟩
  intro k
  induction k with
  | zero =>
    intro s acc c as hk hi hB1 hst t1 t2 hS1 ha hR
    have hin : as.length = n := by omega
    refine codeAny_builtin F.entry_extend_loop ?_
    rw [Around.under_plainId F.plain_extend_loop _]
    show wpAny _ A.in1 (pyNext (.ref z) >>= _) _ _ s
    refine wpAny_bind (pyNext_zat_end hh D hst t1 t2 ?_ fun h' hk => ?_)
    · rcases Nat.le_total xs.size ys.size with q | q
      · exact .inl (Array.getElem?_eq_none (by omega))
      · exact .inr (Array.getElem?_eq_none (by omega))
    · refine wpAny_pure (hR h' acc c as (fun c o b c1 c2 c3 c4 _ e => hk c o c1 c2 c3 c4 e) (hk S _ n1 n3 n4 n5 hS1) (ha.keep fun c o hc e => ?_) hin)
      obtain ⟨f1, f2, f3, f4, _⟩ := far c hc
      exact hk c o f1 f2 f3 f4 e
  | succ k ih =>
    intro s acc c as hk hi hB1 hst t1 t2 hS1 ha hR
    have hlt : as.length < n := by omega
    obtain ⟨x, hx⟩ : ∃ x, xs[as.length]? = some x := ⟨xs[as.length]'(by omega), Array.getElem?_eq_getElem (by omega)⟩
    obtain ⟨y, hy⟩ : ∃ y, ys[as.length]? = some y := ⟨ys[as.length]'(by omega), Array.getElem?_eq_getElem (by omega)⟩
    refine codeAny_builtin F.entry_extend_loop ?_
    rw [Around.under_plainId F.plain_extend_loop _]
    show wpAny _ A.in1 (pyNext (.ref z) >>= _) _ _ s
    refine wpAny_bind (pyNext_zat_item D hst t1 t2 hx hy fun h' z' pr sz kp => ?_)
    have hS' := kp S _ n1 n3 n4 n5 hS1
    show wpAny _ A.in1 (updateSeq S (·.push (.ref s.heap.objs.size)) >>= _) _ _ _
    have oth : ∀ b o, b ≠ S → h'.get? b = some o → (h'.update S (Obj.mapSeq (·.push (Value.ref s.heap.objs.size)))).get? b = some o := fun b o hb e => (Heap.get?_update_other _ _ (Ne.symm hb)).trans e
    have all : ∀ b o, h'.get? b = some o → ∃ o', (h'.update S (Obj.mapSeq (·.push (Value.ref s.heap.objs.size)))).get? b = some o' := fun b o e => by
      by_cases q : b = S
      · subst q; exact ⟨_, Heap.get?_update_self _ hS' rfl⟩
      · exact ⟨o, oth b o q e⟩
    have hsz : (h'.update S (Obj.mapSeq (·.push (Value.ref s.heap.objs.size)))).objs.size = h'.objs.size := Heap.size_after_update ..
    have zA : ZAt (h'.update S (Obj.mapSeq (·.push (Value.ref s.heap.objs.size)))) z TI TO i1 i2 l1 l2 (as ++ [s.heap.objs.size]).length := by
      have := z'.keep (h' := h'.update S (Obj.mapSeq (·.push (Value.ref s.heap.objs.size)))) (fun c hc o e => oth c o (by rcases hc with q | q | q | q | q <;> (rw [q]; apply Ne.symm; assumption)) e) all
      simpa using this
    have t1' : (h'.update S (Obj.mapSeq (·.push (Value.ref s.heap.objs.size)))).IsTuple l1 xs := t1.at fun o e => oth _ o (Ne.symm n6) (kp _ o D.l1z D.l1TO D.l1i1 D.l1i2 e)
    have t2' : (h'.update S (Obj.mapSeq (·.push (Value.ref s.heap.objs.size)))).IsTuple l2 ys := t2.at fun o e => oth _ o (Ne.symm n7) (kp _ o D.l2z D.l2TO D.l2i1 D.l2i2 e)
    have aA : ZAc (h'.update S (Obj.mapSeq (·.push (Value.ref s.heap.objs.size)))) B xs ys (acc.push (.ref s.heap.objs.size)) (as ++ [s.heap.objs.size]) := by
      refine ⟨by rw [Array.toList_push, ha.acc_]; simp, List.pairwise_append.mpr ⟨ha.inc, by simp, fun a ha1 b hb => ?_⟩, fun a h => ?_, fun j a e => ?_⟩
      · rw [List.mem_singleton] at hb; rw [hb]; exact (ha.rng a ha1).2
      · rw [hsz, sz]
        rcases List.mem_append.mp h with h | h
        · have := ha.rng a h; exact ⟨this.1, Nat.lt_succ_of_lt this.2⟩
        · rw [List.mem_singleton] at h; rw [h]; exact ⟨hB1, Nat.lt_succ_self _⟩
      · by_cases hj : j < as.length
        · rw [List.getElem?_append_left hj] at e
          obtain ⟨x, y, q1, q2, q3⟩ := ha.at_ j a e
          obtain ⟨f1, f2, f3, f4, f5⟩ := far a (ha.rng a (List.mem_of_getElem? e)).1
          exact ⟨x, y, q1, q2, oth _ _ f5 (kp _ _ f1 f2 f3 f4 q3)⟩
        · rw [List.getElem?_append_right (by omega)] at e
          have hj2 : j = as.length := by
            have := (List.getElem?_eq_some_iff.mp e).1
            simp at this; omega
          subst hj2
          simp at e
          subst e
          exact ⟨x, y, hx, hy, oth _ _ (nge b6 hB1) pr⟩
    have asz := ha.sz
    refine wpAny_bind ?_
    refine wpAny_updateSeq hS' rfl (wpAny_pure ⟨plainId_quiet F.plain_extend_loop _, ih _ (acc.push (.ref s.heap.objs.size)) _ (as ++ [s.heap.objs.size]) (by simp; omega) (by simp; omega) (by rw [hsz, sz]; omega) zA t1' t2' (Heap.get?_update_self _ hS' rfl) aA fun h'' acc' c' as' kk hS'' ha' hl => ?_⟩) (by omega) (by show (acc.push _).size ≤ sizeLine + 1; rw [Array.size_push]; omega)
    exact hR h'' acc' c' as' (fun c o hc c1 c2 c3 c4 c5 e => kk c o hc c1 c2 c3 c4 c5 (oth c o c5 (kp c o c1 c2 c3 c4 e))) hS'' ha' hl
end
namespace F
theorem nolen_zp : typeLookup (.type "zip") "__len__" = pure none := by rw [typeLookup_type, builtinLookup_eq_fast]; kernel_rfl
theorem nohint_zp : typeLookup (.type "zip") "__length_hint__" = pure none := by rw [typeLookup_type, builtinLookup_eq_fast]; kernel_rfl
end F
section
variable {prog : Program} {w : World} {A : Around} {E : Value → Shared → Prop} {s : Shared}
theorem call_list_zip {z TI TO i1 i2 l1 l2 : Addr} {xs ys : Array Value} {Q : Value → Shared → Prop} (hh : A.handled = none) (D : ZipApart z TI TO i1 i2 l1 l2) (hz : IsZip s.heap z TI TO .none) (hTO : IsPair s.heap TO .none .none) (hTI : IsPair s.heap TI (.ref i1) (.ref i2))
    (h1 : s.heap.IsTupleIter i1 l1 0) (h2 : s.heap.IsTupleIter i2 l2 0) (t1 : s.heap.IsTuple l1 xs) (t2 : s.heap.IsTuple l2 ys) (hn2 : min xs.size ys.size ≤ sizeLine)
    (hQ : ∀ h' acc c as, (∀ c o, c ≠ z → c ≠ TO → c ≠ i1 → c ≠ i2 → s.heap.get? c = some o → h'.get? c = some o) → h'.get? s.heap.objs.size = some { cls := .type "list", dict := none, data := .seq acc c, slots := #[] } → ZAc h' (s.heap.objs.size + 1) xs ys acc as →
      as.length = min xs.size ys.size → Q (.ref s.heap.objs.size) { s with heap := h' }) :
    wpAny (model prog w) A (call (.type "list") [.ref z]) Q E s := by
  have zl : z < s.heap.objs.size := Heap.lt_size hz
  have TIl : TI < s.heap.objs.size := Heap.lt_size hTI
  have TOl : TO < s.heap.objs.size := Heap.lt_size hTO
  have i1l : i1 < s.heap.objs.size := by obtain ⟨_, e, _⟩ := h1; exact Heap.lt_size e
  have i2l : i2 < s.heap.objs.size := by obtain ⟨_, e, _⟩ := h2; exact Heap.lt_size e
  have l1l : l1 < s.heap.objs.size := by obtain ⟨_, e, _⟩ := id t1; exact Heap.lt_size e
  have l2l : l2 < s.heap.objs.size := by obtain ⟨_, e, _⟩ := id t2; exact Heap.lt_size e
  have hSz : s.heap.objs.size ≠ z := Nat.ne_of_gt zl
  refine callType_codes (Q₁ := fun obj s₁ => obj = .ref s.heap.objs.size ∧ s₁ = { s with heap := s.heap.push { cls := .type "list", data := .seq #[] } }) F.called_list (F.typeCall_list_1 _) F.entry_list_init
    (code_list_new _ ⟨rfl, rfl⟩) fun obj s₁ h₁ => ?_
  obtain ⟨rfl, rfl⟩ := h₁
  generalize hSd : s.heap.objs.size = S at *
  have hS : (s.heap.push { cls := .type "list", data := .seq #[] }).get? S = some { cls := .type "list", data := .seq #[] } := by rw [← hSd]; exact Heap.get?_push_size _ rfl
  refine ⟨⟨_, hS, rfl⟩, F.args_list_init_2 _ _, ?_⟩
  show wpAny _ A.in1.in1 (do let old ← Builtin.List.listItems (.ref S); Builtin.List.listUpdate (.ref S) (fun _ => #[]); letGo old.toList.reverse; Builtin.List.listExtendWith (.ref S) (.ref z) .none) _ _ _
  refine wpAny_bind ?_
  unfold Builtin.List.listItems
  refine wpAny_bind (wpAny_seqItems hS rfl (wpAny_pure ?_))
  show wpAny _ A.in1.in1 (updateSeq S (fun _ => #[]) >>= fun _ => letGo (#[] : Array Value).toList.reverse >>= fun _ => Builtin.List.listExtendWith (.ref S) (.ref z) .none) _ _ _
  refine wpAny_bind (wpAny_updateSeq hS rfl ?_)
  have hS₂ := Heap.get?_update_self (Obj.mapSeq (fun _ => (#[] : Array Value))) hS rfl
  refine wpAny_bind (wpAny_letGo ?_)
  have up : ∀ b o, b ≠ S → s.heap.get? b = some o → ((s.heap.push { cls := .type "list", data := .seq #[] }).update S (Obj.mapSeq (fun _ => (#[] : Array Value)))).get? b = some o :=
    fun b o hb e => (Heap.get?_update_other _ _ (Ne.symm hb)).trans (Heap.get?_push_of_some _ e)
  have zs : ((s.heap.push { cls := .type "list", data := .seq #[] }).update S (Obj.mapSeq (fun _ => (#[] : Array Value)))).objs.size = S + 1 := by rw [Heap.size_after_update, Heap.size_push, hSd]
  generalize ((s.heap.push { cls := .type "list", data := .seq #[] }).update S (Obj.mapSeq (fun _ => (#[] : Array Value)))) = g at *
  have gz := up z _ (Nat.ne_of_lt zl) hz
  have hT : ({ s with heap := g } : Shared).TypeIs (.ref z) "zip" := ⟨_, gz, rfl⟩
  unfold Builtin.List.listExtendWith
  refine wpAny_bind (wpAny_typeOf hT ?_)
  have e1 : Builtin.List.listSameRef (.ref S) (.ref z) = false := by simp [Builtin.List.listSameRef, hSz]
  have e2 : (Value.type "zip" == Value.type "list") = false := by decide
  have e3 : (Value.type "zip" == Value.type "tuple") = false := by decide
  simp only [e1, e2, e3, Bool.or_false, Bool.false_eq_true, if_false]
  refine wpAny_bind (wpAny_pyIter_zip gz ?_)
  refine wpAny_bind (wpAny_holding ?_)
  unfold Builtin.List.listLengthHint
  refine wpAny_bind (wpAny_specialOf hT F.nolen_zp ?_)
  show wpAny _ A.in1.in1 (specialOf (Value.ref z) (Str.ofString "__length_hint__") >>= _) _ _ _
  refine wpAny_bind (wpAny_specialOf hT F.nohint_zp ?_)
  refine wpAny_pure ?_
  show wpAny _ A.in1.in1 (rule "list.extend.makes-room" >>= fun _ => Builtin.List.listTouch (.ref S) >>= fun _ => again (.builtin "list.extend.loop" ⟨[.ref S, .ref z, .none], []⟩)) _ _ _
  refine wpAny_bind (wpAny_rule ?_)
  refine wpAny_bind ?_
  show wpAny _ A.in1.in1 (updateSeq S (·.push .none) >>= fun _ => updateSeq S (·.pop)) _ _ _
  refine wpAny_bind (wpAny_updateSeq hS₂ rfl ?_)
  have hS₃ := Heap.get?_update_self (Obj.mapSeq (·.push Value.none)) hS₂ rfl
  refine wpAny_updateSeq (hz := by seq_fits) hS₃ rfl ?_
  have hS₄ := Heap.get?_update_self (Obj.mapSeq (·.pop)) hS₃ rfl
  have up2 : ∀ b o, b ≠ S → s.heap.get? b = some o → ((g.update S (Obj.mapSeq (·.push Value.none))).update S (Obj.mapSeq (·.pop))).get? b = some o :=
    fun b o hb e => (Heap.get?_update_other _ _ (Ne.symm hb)).trans ((Heap.get?_update_other _ _ (Ne.symm hb)).trans (up b o hb e))
  have zs2 : ((g.update S (Obj.mapSeq (·.push Value.none))).update S (Obj.mapSeq (·.pop))).objs.size = S + 1 := by rw [Heap.size_after_update, Heap.size_after_update, zs]
  generalize ((g.update S (Obj.mapSeq (·.push Value.none))).update S (Obj.mapSeq (·.pop))) = g2 at *
  refine wpAny_pure ⟨plainId_quiet F.plain_extend_loop _, zat_loop (A := A.in1) (xs := xs) (ys := ys) (S := S) (B := S + 1) (show A.in1.handled = none from hh) D rfl hn2 ⟨Nat.lt_succ_of_lt zl, Nat.lt_succ_of_lt TIl, Nat.lt_succ_of_lt TOl, Nat.lt_succ_of_lt i1l, Nat.lt_succ_of_lt i2l, Nat.lt_succ_self _, Nat.lt_succ_of_lt l1l, Nat.lt_succ_of_lt l2l⟩
    ⟨nge zl (Nat.le_refl _), nge TIl (Nat.le_refl _), nge TOl (Nat.le_refl _), nge i1l (Nat.le_refl _), nge i2l (Nat.le_refl _), nge l1l (Nat.le_refl _), nge l2l (Nat.le_refl _)⟩ _ { s with heap := g2 } #[] _ [] rfl (Nat.zero_le _) (by show S + 1 ≤ g2.objs.size; omega) ⟨.inl ⟨up2 _ _ (Nat.ne_of_lt zl) hz, _, _, up2 _ _ (Nat.ne_of_lt TOl) hTO⟩, up2 _ _ (Nat.ne_of_lt TIl) hTI, h1.at fun o e => up2 _ o (Nat.ne_of_lt i1l) e, h2.at fun o e => up2 _ o (Nat.ne_of_lt i2l) e⟩
    (t1.at fun o e => up2 _ o (Nat.ne_of_lt l1l) e) (t2.at fun o e => up2 _ o (Nat.ne_of_lt l2l) e) hS₄ ⟨rfl, .nil, fun a h => (nomatch h), fun j a e => by simp at e⟩ fun h' acc' c' as' kk hS' ha hl => ?_⟩
  refine ⟨rfl, hQ h' acc' c' as' (fun c o c1 c2 c3 c4 e => ?_) hS' ha hl⟩
  have hlt : c < S := by have := Heap.lt_size e; rw [hSd] at this; exact this
  exact kk c o (Nat.lt_succ_of_lt hlt) c1 c2 c3 c4 (Nat.ne_of_lt hlt) (up2 c o (Nat.ne_of_lt hlt) e)
end
end RZ

/-! zip of a list and a tuple -/
namespace RZ
open PySem PySem.Spec PyProof.Rows L2
open PySem.Sem (wp)
/-- what is drawn from: at i, the items xs -/
structure Dr (prog : Program) (w : World) (it l : Addr) (xs : Array Value) (P : Heap → Nat → Prop) : Prop where
  item : ∀ (A : Around) (E Q : Value → Shared → Prop) (s : Shared) (i : Nat) (x : Value), P s.heap i → xs[i]? = some x → (∀ h', P h' (i + 1) → Heap.SameBut it s.heap h' → Q x { s with heap := h' }) → wpAny (model prog w) A (Builtin.SmallTypes.nextOf (.ref it)) Q E s
  done : ∀ (A : Around) (E Q : Value → Shared → Prop) (s : Shared) (i : Nat), A.handled = none → P s.heap i → xs[i]? = none → (∀ h' e, Heap.ExtBut it s.heap h' → (∃ o, h'.get? e = some o ∧ o.cls = .type "StopIteration") → E (.ref e) { s with heap := h' }) → wpAny (model prog w) A (Builtin.SmallTypes.nextOf (.ref it)) Q E s
  keep : ∀ (h h' : Heap) (i : Nat), P h i → (∀ c, c = it ∨ c = l → ∀ o, h.get? c = some o → h'.get? c = some o) → P h' i
  lt : ∀ (h : Heap) (i : Nat), P h i → it < h.objs.size ∧ ∃ o, h.get? it = some o ∧ ∀ v, o.data ≠ .cell v
def PT (it l : Addr) (xs : Array Value) (h : Heap) (i : Nat) : Prop := h.IsTupleIter it l i ∧ h.IsTuple l xs
def PL (it l : Addr) (xs : Array Value) (h : Heap) (i : Nat) : Prop := h.IsListIter it l i ∧ h.IsList l xs
section
variable {prog : Program} {w : World}
theorem dr_T {it l : Addr} {xs : Array Value} (n : l ≠ it) : Dr prog w it l xs (PT it l xs) where
  item := fun A E Q s i x p hx k => nextOf_tuple_item p.1 p.2 hx fun h' a b => k h' ⟨a, p.2.extBut b.extBut n⟩ b
  done := fun A E Q s i hh p hx k => nextOf_tuple_end hh p.1 p.2 hx k
  keep := fun h h' i p k => ⟨p.1.at fun o e => k _ (.inl rfl) o e, p.2.at fun o e => k _ (.inr rfl) o e⟩
  lt := fun h i p => by obtain ⟨o, e, _, d⟩ := p.1; exact ⟨Heap.lt_size e, o, e, fun v q => by rw [d] at q; cases q⟩
theorem dr_L {it l : Addr} {xs : Array Value} (n : l ≠ it) : Dr prog w it l xs (PL it l xs) where
  item := fun A E Q s i x p hx k => wpAny_nextOf_list_item p.1 p.2 hx fun h' a b => k h' ⟨a, p.2.extBut b.extBut n⟩ b
  done := fun A E Q s i hh p hx k => wpAny_nextOf_list_end hh p.1 p.2 hx k
  keep := fun h h' i p k => ⟨p.1.at fun o e => k _ (.inl rfl) o e, p.2.at fun o e => k _ (.inr rfl) o e⟩
  lt := fun h i p => by obtain ⟨o, e, _, d⟩ := p.1; exact ⟨Heap.lt_size e, o, e, fun v q => by rw [d] at q; cases q⟩
end
section
variable {prog : Program} {w : World} {A : Around} {E : Value → Shared → Prop} {s : Shared} {z TI TO i1 i2 l1 l2 : Addr} {k1 k2 : Nat} {xs ys : Array Value} {P1 P2 : Heap → Nat → Prop}
theorem Dr.sb {it l c : Addr} {xs : Array Value} {P : Heap → Nat → Prop} {h h' : Heap} {i : Nat} (d : Dr prog w it l xs P) (p : P h i) (b : Heap.SameBut c h h') (n1 : it ≠ c) (n2 : l ≠ c) : P h' i :=
  d.keep h h' i p fun a ha o e => b.extBut a o (by rcases ha with q | q <;> rw [q] <;> assumption) e
theorem zipM_item {x y a b : Value} {Q : Value → Shared → Prop} (d1 : Dr prog w i1 l1 xs P1) (d2 : Dr prog w i2 l2 ys P2) (D : ZipApart z TI TO i1 i2 l1 l2)
    (hz : IsZip s.heap z TI TO .none) (hTI : IsPair s.heap TI (.ref i1) (.ref i2)) (hTO : IsPair s.heap TO a b) (p1 : P1 s.heap k1) (p2 : P2 s.heap k2) (hx : xs[k1]? = some x) (hy : ys[k2]? = some y)
    (hQ : ∀ h', IsZip h' z TI TO (rawInt s.heap.objs.size) → IsPair h' TO x y → P1 h' (k1 + 1) → P2 h' (k2 + 1) → IsPair h' s.heap.objs.size x y →
      (∀ c o, c ≠ z → c ≠ TO → c ≠ i1 → c ≠ i2 → s.heap.get? c = some o → h'.get? c = some o) → Q (.ref s.heap.objs.size) { s with heap := h' }) :
    wpAny (model prog w) A (Builtin.«zip.__next__» ⟨[.ref z], []⟩) (fun fin s' => ∃ v, fin = .done (.ret v) ∧ Q v s') E s := by
  show wpAny _ _ (field (.ref z) 2 >>= _) _ _ _
  refine wpAny_bind (wpAny_field hz rfl (x := .bool false) rfl ?_)
  show wpAny _ _ (field (.ref z) 3 >>= _) _ _ _
  refine wpAny_bind (wpAny_field hz rfl (x := .ref TI) rfl (wpAny_bind (wpAny_seqItems hTI rfl ?_)))
  show wpAny _ _ (Builtin.SmallTypes.ownedTupleIsFree (.ref z) >>= _) _ _ _
  refine wpAny_bind ?_
  unfold Builtin.SmallTypes.ownedTupleIsFree
  refine wpAny_bind (wpAny_field hz rfl (x := .none) rfl (wpAny_pure ?_))
  simp only [if_true]
  refine wpAny_bind (wpAny_rule (wpAny_bind (wpAny_field hz rfl (x := .ref TO) rfl (wpAny_bind (wpAny_setField_rec hz (by simp) fun g1 z1 s1 => ?_)))))
  have z1 : IsZip g1 z TI TO .ellipsis := z1
  refine wpAny_bind ?_
  simp only [List.zipIdx_cons, List.zipIdx_nil, List.forIn_cons, List.forIn_nil]
  refine wpAny_bind (wpAny_bind (wpAny_onRaise ?_))
  show wpAny _ _ (Builtin.SmallTypes.nextOf (.ref i1) >>= _) _ _ _
  refine wpAny_bind (d1.item _ _ _ _ _ _ (d1.sb p1 s1 D.i1z D.l1z) hx fun g2 q2 s2 => wpAny_pure ?_)
  have t2 : IsPair g2 TO a b := s2.extBut _ _ D.TOi1 (s1.extBut _ _ D.TOz hTO)
  refine wpAny_bind (wpAny_seqItems t2 rfl (wpAny_bind (wpAny_updateSeq_pair t2 fun g3 t3 s3 => ?_)))
  have t3 : IsPair g3 TO x b := t3
  refine wpAny_bind (wpAny_letGo (wpAny_pure (wpAny_bind (wpAny_bind (wpAny_onRaise ?_)))))
  show wpAny _ _ (Builtin.SmallTypes.nextOf (.ref i2) >>= _) _ _ _
  refine wpAny_bind (d2.item _ _ _ _ _ _ (d2.sb (d2.sb (d2.sb p2 s1 D.i2z D.l2z) s2 D.i12.symm D.l2i1) s3 D.TOi2.symm D.l2TO) hy fun g4 q4 s4 => wpAny_pure ?_)
  have t4 : IsPair g4 TO x b := s4.extBut _ _ D.TOi2 t3
  refine wpAny_bind (wpAny_seqItems t4 rfl (wpAny_bind (wpAny_updateSeq_pair t4 fun g5 t5 s5 => ?_)))
  have t5 : IsPair g5 TO x y := t5
  refine wpAny_bind (wpAny_letGo (wpAny_pure (wpAny_pure ?_)))
  refine wpAny_bind (wpAny_seqItems t5 rfl (wpAny_bind (wpAny_newTuple ?_)))
  have sz : g5.objs.size = s.heap.objs.size := by rw [s5.1, s4.1, s3.1, s2.1, s1.1]
  have z5 : IsZip g5 z TI TO .ellipsis := s5.extBut _ _ D.TOz.symm (s4.extBut _ _ D.i2z.symm (s3.extBut _ _ D.TOz.symm (s2.extBut _ _ D.i1z.symm z1)))
  have k5 : ∀ c o, c ≠ z → c ≠ TO → c ≠ i1 → c ≠ i2 → s.heap.get? c = some o → g5.get? c = some o := fun c o c1 c2 c3 c4 e =>
    s5.extBut _ _ c2 (s4.extBut _ _ c4 (s3.extBut _ _ c2 (s2.extBut _ _ c3 (s1.extBut _ _ c1 e))))
  have r1 : P1 g5 (k1 + 1) := d1.sb (d1.sb (d1.sb q2 s3 D.TOi1.symm D.l1TO) s4 D.i12 D.l1i2) s5 D.TOi1.symm D.l1TO
  have r2 : P2 g5 (k2 + 1) := d2.sb q4 s5 D.TOi2.symm D.l2TO
  have zl : z < g5.objs.size := Heap.lt_size z5
  show wpAny _ _ (Builtin.SmallTypes.ownedTupleHandOut (.ref z) (.ref g5.objs.size) >>= _) _ _ _
  refine wpAny_bind ?_
  unfold Builtin.SmallTypes.ownedTupleHandOut
  have z6 : IsZip (g5.push { cls := .type "tuple", data := .seq #[x, y] }) z TI TO .ellipsis := Heap.get?_push_of_some _ z5
  refine wpAny_bind (wpAny_setField_rec z6 (by simp) fun g7 z7 s7 => ?_)
  have z7 : IsZip g7 z TI TO (rawInt g5.objs.size) := z7
  refine wpAny_setField_rec z7 (by simp) fun g8 z8 s8 => ?_
  have z8 : IsZip g8 z TI TO (rawInt g5.objs.size) := z8
  have up : ∀ c o, c ≠ z → g5.get? c = some o → g8.get? c = some o := fun c o c1 e => s8.extBut _ _ c1 (s7.extBut _ _ c1 (Heap.get?_push_of_some _ e))
  have T8 : IsPair g8 g5.objs.size x y := s8.extBut _ _ (Nat.ne_of_gt zl) (s7.extBut _ _ (Nat.ne_of_gt zl) (Heap.get?_push_size _ rfl))
  rw [sz] at z8 T8
  refine wpAny_pure ⟨_, rfl, ?_⟩
  show Q (.ref g5.objs.size) _
  rw [sz]
  exact hQ g8 z8 (up _ _ D.TOz t5) (d1.keep _ _ _ r1 fun c hc o e => up c o (by rcases hc with q | q <;> rw [q]; exact D.i1z; exact D.l1z) e) (d2.keep _ _ _ r2 fun c hc o e => up c o (by rcases hc with q | q <;> rw [q]; exact D.i2z; exact D.l2z) e) T8
    fun c o c1 c2 c3 c4 e => up c o c1 (k5 c o c1 c2 c3 c4 e)
theorem zipM_end {a b : Value} {Q : Fin → Shared → Prop} (d1 : Dr prog w i1 l1 xs P1) (d2 : Dr prog w i2 l2 ys P2) (hh : A.handled = none) (D : ZipApart z TI TO i1 i2 l1 l2)
    (hz : IsZip s.heap z TI TO .none) (hTI : IsPair s.heap TI (.ref i1) (.ref i2)) (hTO : IsPair s.heap TO a b) (p1 : P1 s.heap k1) (p2 : P2 s.heap k2) (hend : xs[k1]? = none ∨ ys[k2]? = none)
    (hE : ∀ h' e, (∀ c o, c ≠ z → c ≠ TO → c ≠ i1 → c ≠ i2 → s.heap.get? c = some o → h'.get? c = some o) → (∃ o, h'.get? e = some o ∧ o.cls = .type "StopIteration") → E (.ref e) { s with heap := h' }) :
    wpAny (model prog w) A (Builtin.«zip.__next__» ⟨[.ref z], []⟩) Q E s := by
  show wpAny _ _ (field (.ref z) 2 >>= _) _ _ _
  refine wpAny_bind (wpAny_field hz rfl (x := .bool false) rfl ?_)
  show wpAny _ _ (field (.ref z) 3 >>= _) _ _ _
  refine wpAny_bind (wpAny_field hz rfl (x := .ref TI) rfl (wpAny_bind (wpAny_seqItems hTI rfl ?_)))
  show wpAny _ _ (Builtin.SmallTypes.ownedTupleIsFree (.ref z) >>= _) _ _ _
  refine wpAny_bind ?_
  unfold Builtin.SmallTypes.ownedTupleIsFree
  refine wpAny_bind (wpAny_field hz rfl (x := .none) rfl (wpAny_pure ?_))
  simp only [if_true]
  refine wpAny_bind (wpAny_rule (wpAny_bind (wpAny_field hz rfl (x := .ref TO) rfl (wpAny_bind (wpAny_setField_rec hz (by simp) fun g1 z1 s1 => ?_)))))
  have z1 : IsZip g1 z TI TO .ellipsis := z1
  refine wpAny_bind ?_
  simp only [List.zipIdx_cons, List.zipIdx_nil, List.forIn_cons, List.forIn_nil]
  refine wpAny_bind (wpAny_bind (wpAny_onRaise ?_))
  show wpAny _ _ (Builtin.SmallTypes.nextOf (.ref i1) >>= _) _ _ _
  have fin : ∀ (g : Heap) (e : Addr), IsZip g z TI TO .ellipsis → (∃ o, g.get? e = some o ∧ o.cls = .type "StopIteration") → (∀ c o, c ≠ z → c ≠ TO → c ≠ i1 → c ≠ i2 → s.heap.get? c = some o → g.get? c = some o) →
      wpAny (model prog w) A (setField (.ref z) 0 .none) (fun _ s' => E (.ref e) s') E { s with heap := g } := fun g e hg he hk => by
    obtain ⟨oe, hoe, hce⟩ := he
    have ne : e ≠ z := fun q => by subst q; rw [hg] at hoe; cases hoe; simp at hce
    exact wpAny_setField_rec hg (by simp) fun g' _ sb => hE g' e (fun c o c1 c2 c3 c4 x => sb.extBut _ _ c1 (hk c o c1 c2 c3 c4 x)) ⟨oe, sb.extBut _ _ ne hoe, hce⟩
  cases hx : xs[k1]? with
  | none => exact wpAny_bind (d1.done _ _ _ _ _ hh (d1.sb p1 s1 D.i1z D.l1z) hx fun g2 e s2 he => fin g2 e (s2 _ _ D.i1z.symm z1) he fun c o c1 _ c3 _ x => s2 _ _ c3 (s1.extBut _ _ c1 x))
  | some x =>
    have hy : ys[k2]? = none := by rcases hend with h | h; rw [hx] at h; cases h; exact h
    refine wpAny_bind (d1.item _ _ _ _ _ _ (d1.sb p1 s1 D.i1z D.l1z) hx fun g2 q2 s2 => wpAny_pure ?_)
    have t2 : IsPair g2 TO a b := s2.extBut _ _ D.TOi1 (s1.extBut _ _ D.TOz hTO)
    refine wpAny_bind (wpAny_seqItems t2 rfl (wpAny_bind (wpAny_updateSeq_pair t2 fun g3 t3 s3 => ?_)))
    refine wpAny_bind (wpAny_letGo (wpAny_pure (wpAny_bind (wpAny_bind (wpAny_onRaise ?_)))))
    show wpAny _ _ (Builtin.SmallTypes.nextOf (.ref i2) >>= _) _ _ _
    exact wpAny_bind (d2.done _ _ _ _ _ hh (d2.sb (d2.sb (d2.sb p2 s1 D.i2z D.l2z) s2 D.i12.symm D.l2i1) s3 D.TOi2.symm D.l2TO) hy fun g4 e s4 he =>
      fin g4 e (s4 _ _ D.i2z.symm (s3.extBut _ _ D.TOz.symm (s2.extBut _ _ D.i1z.symm z1))) he fun c o c1 c2 c3 c4 x => s4 _ _ c4 (s3.extBut _ _ c2 (s2.extBut _ _ c3 (s1.extBut _ _ c1 x))))
theorem pyNext_zipM_item {x y a b : Value} {Q : Option Value → Shared → Prop} (d1 : Dr prog w i1 l1 xs P1) (d2 : Dr prog w i2 l2 ys P2) (D : ZipApart z TI TO i1 i2 l1 l2)
    (hz : IsZip s.heap z TI TO .none) (hTI : IsPair s.heap TI (.ref i1) (.ref i2)) (hTO : IsPair s.heap TO a b) (p1 : P1 s.heap k1) (p2 : P2 s.heap k2) (hx : xs[k1]? = some x) (hy : ys[k2]? = some y)
    (hQ : ∀ h', IsZip h' z TI TO (rawInt s.heap.objs.size) → IsPair h' TO x y → P1 h' (k1 + 1) → P2 h' (k2 + 1) → IsPair h' s.heap.objs.size x y →
      (∀ c o, c ≠ z → c ≠ TO → c ≠ i1 → c ≠ i2 → s.heap.get? c = some o → h'.get? c = some o) → Q (some (.ref s.heap.objs.size)) { s with heap := h' }) :
    wpAny (model prog w) A (pyNext (.ref z)) Q E s := by
  have hT : s.TypeIs (.ref z) "zip" := ⟨_, hz, rfl⟩
  unfold pyNext
  exact wpAny_bind (wpAny_attempt (wpAny_callSpecial?_slot (name := Str.ofString "__next__") hT F.slot_zip_next (wpAny_call_entry F.slot_zip_next hT F.entry_zip_next (zipM_item d1 d2 D hz hTI hTO p1 p2 hx hy fun h' a1 a2 a3 a4 a5 a6 => wpAny_pure (hQ h' a1 a2 a3 a4 a5 a6)) (F.args_zip_next_1 _))))
theorem pyNext_zipM_end {a b : Value} {Q : Option Value → Shared → Prop} (d1 : Dr prog w i1 l1 xs P1) (d2 : Dr prog w i2 l2 ys P2) (hh : A.handled = none) (D : ZipApart z TI TO i1 i2 l1 l2)
    (hz : IsZip s.heap z TI TO .none) (hTI : IsPair s.heap TI (.ref i1) (.ref i2)) (hTO : IsPair s.heap TO a b) (p1 : P1 s.heap k1) (p2 : P2 s.heap k2) (hend : xs[k1]? = none ∨ ys[k2]? = none)
    (hQ : ∀ h', (∀ c o, c ≠ z → c ≠ TO → c ≠ i1 → c ≠ i2 → s.heap.get? c = some o → h'.get? c = some o) → Q none { s with heap := h' }) : wpAny (model prog w) A (pyNext (.ref z)) Q E s := by
  have hT : s.TypeIs (.ref z) "zip" := ⟨_, hz, rfl⟩
  unfold pyNext
  refine wpAny_bind (wpAny_attempt (wpAny_callSpecial?_slot (name := Str.ofString "__next__") hT F.slot_zip_next (wpAny_call_entry F.slot_zip_next hT F.entry_zip_next (zipM_end d1 d2 hh D hz hTI hTO p1 p2 hend fun h' e hk he => ?_) (F.args_zip_next_1 _))))
  obtain ⟨o, ho, hc⟩ := he
  exact wpAny_bind (wpAny_isInstance (T := "StopIteration") (b := true) ⟨o, ho, hc⟩ isSubtype_stop (wpAny_pure (hQ _ hk)))
end
abbrev iob (T : String) (l : Addr) : Obj := { cls := .type T, data := .fields #[.ref l, .int 0 0] }
abbrev mH2 (T U : String) (h : Heap) (l1 l2 : Addr) : Heap := (h.push (iob T l1)).push (iob U l2)
abbrev mH3 (T U : String) (h : Heap) (l1 l2 : Addr) : Heap := (mH2 T U h l1 l2).push { cls := .type "tuple", data := .seq #[.ref h.objs.size, .ref (h.push (iob T l1)).objs.size] }
abbrev mH4 (T U : String) (h : Heap) (l1 l2 : Addr) : Heap := (mH3 T U h l1 l2).push { cls := .type "tuple", data := .seq #[.none, .none] }
abbrev mH5 (T U : String) (h : Heap) (l1 l2 : Addr) : Heap := (mH4 T U h l1 l2).push { cls := .type "zip", data := .fields #[.none, .bool false, .bool false, .ref (mH2 T U h l1 l2).objs.size, .ref (mH3 T U h l1 l2).objs.size] }
theorem new_LT (l1 l2 : Addr) (xs ys : Array Value) :
    Meets (Builtin.«zip.__new__» ⟨[.type "zip", .ref l1, .ref l2], []⟩) (fun _ R s => s.heap.IsList l1 xs ∧ s.heap.IsTuple l2 ys ∧ R (.ok (.ret (.ref (mH4 "list_iterator" "tuple_iterator" s.heap l1 l2).objs.size))) { s with heap := mH5 "list_iterator" "tuple_iterator" s.heap l1 l2 }) :=
  .of_wp fun prog w A R s h => by
    obtain ⟨hp, g, d, tk, os⟩ := s; obtain ⟨a1, a2, h⟩ := h
    have sub := sub_zip
    have b1 : Heap.IsList (Shared.heap ⟨hp, g, d, tk, os⟩) l1 xs := a1
    have b2 : Heap.IsTuple (Shared.heap ⟨hp.push (iob "list_iterator" l1), g, d, tk, os⟩) l2 ys := Heap.IsTuple.push a2 _
    wp_walk using wpAny_pyIter_list b1, wpAny_pyIter_tuple b2
    exact ⟨_, rfl, h⟩
theorem new_TL (l1 l2 : Addr) (xs ys : Array Value) :
    Meets (Builtin.«zip.__new__» ⟨[.type "zip", .ref l1, .ref l2], []⟩) (fun _ R s => s.heap.IsTuple l1 xs ∧ s.heap.IsList l2 ys ∧ R (.ok (.ret (.ref (mH4 "tuple_iterator" "list_iterator" s.heap l1 l2).objs.size))) { s with heap := mH5 "tuple_iterator" "list_iterator" s.heap l1 l2 }) :=
  .of_wp fun prog w A R s h => by
    obtain ⟨hp, g, d, tk, os⟩ := s; obtain ⟨a1, a2, h⟩ := h
    have sub := sub_zip
    have b1 : Heap.IsTuple (Shared.heap ⟨hp, g, d, tk, os⟩) l1 xs := a1
    have b2 : Heap.IsList (Shared.heap ⟨hp.push (iob "tuple_iterator" l1), g, d, tk, os⟩) l2 ys := Heap.IsList.push a2 _
    wp_walk using wpAny_pyIter_tuple b1, wpAny_pyIter_list b2
    exact ⟨_, rfl, h⟩
theorem m_sizes (T U : String) (h : Heap) (l1 l2 : Addr) : IsZip (mH5 T U h l1 l2) (h.objs.size + 4) (h.objs.size + 2) (h.objs.size + 3) .none ∧ IsPair (mH5 T U h l1 l2) (h.objs.size + 2) (.ref h.objs.size) (.ref (h.objs.size + 1)) ∧ IsPair (mH5 T U h l1 l2) (h.objs.size + 3) .none .none ∧
    (mH5 T U h l1 l2).get? h.objs.size = some (iob T l1) ∧ (mH5 T U h l1 l2).get? (h.objs.size + 1) = some (iob U l2) ∧ (∀ c o, h.get? c = some o → (mH5 T U h l1 l2).get? c = some o) ∧ (mH4 T U h l1 l2).objs.size = h.objs.size + 4 := by
  have z1 : (h.push (iob T l1)).objs.size = h.objs.size + 1 := Heap.size_push ..
  have z2 : (mH2 T U h l1 l2).objs.size = h.objs.size + 2 := by rw [Heap.size_push, z1]
  have z3 : (mH3 T U h l1 l2).objs.size = h.objs.size + 3 := by rw [Heap.size_push, z2]
  have z4 : (mH4 T U h l1 l2).objs.size = h.objs.size + 4 := by rw [Heap.size_push, z3]
  have g5 : (mH5 T U h l1 l2).get? (mH4 T U h l1 l2).objs.size = some _ := Heap.get?_push_size _ rfl
  have g4 : (mH5 T U h l1 l2).get? (mH3 T U h l1 l2).objs.size = some _ := Heap.get?_push_of_some _ (Heap.get?_push_size _ rfl)
  have g3 : (mH5 T U h l1 l2).get? (mH2 T U h l1 l2).objs.size = some _ := Heap.get?_push_of_some _ (Heap.get?_push_of_some _ (Heap.get?_push_size _ rfl))
  have g2 : (mH5 T U h l1 l2).get? (h.push (iob T l1)).objs.size = some _ := Heap.get?_push_of_some _ (Heap.get?_push_of_some _ (Heap.get?_push_of_some _ (Heap.get?_push_size _ rfl)))
  have g1 : (mH5 T U h l1 l2).get? h.objs.size = some _ := Heap.get?_push_of_some _ (Heap.get?_push_of_some _ (Heap.get?_push_of_some _ (Heap.get?_push_of_some _ (Heap.get?_push_size _ rfl))))
  rw [z2, z3, z4] at g5
  rw [z1, z2] at g3
  rw [z3] at g4
  rw [z1] at g2
  exact ⟨g5, g3, g4, g1, g2, fun c o x => Heap.get?_push_of_some _ (Heap.get?_push_of_some _ (Heap.get?_push_of_some _ (Heap.get?_push_of_some _ (Heap.get?_push_of_some _ x)))), z4⟩
section
variable {prog : Program} {w : World} {A : Around} {E : Value → Shared → Prop} {s : Shared}
theorem call_LT {l1 l2 : Addr} {xs ys : Array Value} {Q : Value → Shared → Prop} (a1 : s.heap.IsList l1 xs) (a2 : s.heap.IsTuple l2 ys)
    (h : ∀ h', IsZip h' (s.heap.objs.size + 4) (s.heap.objs.size + 2) (s.heap.objs.size + 3) .none → IsPair h' (s.heap.objs.size + 2) (.ref s.heap.objs.size) (.ref (s.heap.objs.size + 1)) → IsPair h' (s.heap.objs.size + 3) .none .none →
      h'.IsListIter s.heap.objs.size l1 0 → h'.IsTupleIter (s.heap.objs.size + 1) l2 0 → (∀ c o, s.heap.get? c = some o → h'.get? c = some o) → Q (.ref (s.heap.objs.size + 4)) { s with heap := h' }) :
    wpAny (model prog w) A (call (.type "zip") [.ref l1, .ref l2]) Q E s := by
  refine callType_new F.called_zip (by decide) (F.typeCall_zip_2 _ _) (F.newCall_zip_2 _ _) (fun obj => F.args_object_init_3 obj _ _) F.entry_zip_new (new_LT l1 l2 xs ys) ⟨a1, a2, ?_⟩
  obtain ⟨q1, q2, q3, q4, q5, q6, q7⟩ := m_sizes "list_iterator" "tuple_iterator" s.heap l1 l2
  show _ ∧ _
  rw [q7]
  exact ⟨⟨_, q1, rfl⟩, h _ q1 q2 q3 ⟨_, q4, rfl, rfl⟩ ⟨_, q5, rfl, rfl⟩ q6⟩
theorem call_TL {l1 l2 : Addr} {xs ys : Array Value} {Q : Value → Shared → Prop} (a1 : s.heap.IsTuple l1 xs) (a2 : s.heap.IsList l2 ys)
    (h : ∀ h', IsZip h' (s.heap.objs.size + 4) (s.heap.objs.size + 2) (s.heap.objs.size + 3) .none → IsPair h' (s.heap.objs.size + 2) (.ref s.heap.objs.size) (.ref (s.heap.objs.size + 1)) → IsPair h' (s.heap.objs.size + 3) .none .none →
      h'.IsTupleIter s.heap.objs.size l1 0 → h'.IsListIter (s.heap.objs.size + 1) l2 0 → (∀ c o, s.heap.get? c = some o → h'.get? c = some o) → Q (.ref (s.heap.objs.size + 4)) { s with heap := h' }) :
    wpAny (model prog w) A (call (.type "zip") [.ref l1, .ref l2]) Q E s := by
  refine callType_new F.called_zip (by decide) (F.typeCall_zip_2 _ _) (F.newCall_zip_2 _ _) (fun obj => F.args_object_init_3 obj _ _) F.entry_zip_new (new_TL l1 l2 xs ys) ⟨a1, a2, ?_⟩
  obtain ⟨q1, q2, q3, q4, q5, q6, q7⟩ := m_sizes "tuple_iterator" "list_iterator" s.heap l1 l2
  show _ ∧ _
  rw [q7]
  exact ⟨⟨_, q1, rfl⟩, h _ q1 q2 q3 ⟨_, q4, rfl, rfl⟩ ⟨_, q5, rfl, rfl⟩ q6⟩
end
/-! the loop's side -/
/-- a sequence: a list (true) or a tuple -/
def SqV (K : PySem.W.Frag) (H : Hp) (b : Bool) (a : Addr) (xs : List V) : Prop := match b with | true => SqL K H a xs | false => SqT K H a xs
def PV (b : Bool) (it l : Addr) (xs : Array Value) : Heap → Nat → Prop := match b with | true => PL it l xs | false => PT it l xs
def ItV (b : Bool) (it l : Addr) (h : Heap) (i : Nat) : Prop := match b with | true => h.IsListIter it l i | false => h.IsTupleIter it l i
theorem dr_V {prog : Program} {w : World} {b : Bool} {it l : Addr} {xs : Array Value} (n : l ≠ it) : Dr prog w it l xs (PV b it l xs) := by
  cases b
  · exact dr_T n
  · exact dr_L n
def IsV (b : Bool) (h : Heap) (l : Addr) (xs : Array Value) : Prop := match b with | true => h.IsList l xs | false => h.IsTuple l xs
theorem pv_of {b : Bool} {it l : Addr} {xs : Array Value} {h : Heap} {i : Nat} (a : ItV b it l h i) (c : IsV b h l xs) : PV b it l xs h i := by cases b <;> exact ⟨a, c⟩
theorem pv_it {b : Bool} {it l : Addr} {xs : Array Value} {h : Heap} {i : Nat} (p : PV b it l xs h i) : ItV b it l h i := by cases b <;> exact p.1
theorem ItV.at {b : Bool} {it l : Addr} {h h' : Heap} {i : Nat} (a : ItV b it l h i) (k : ∀ o, h.get? it = some o → h'.get? it = some o) : ItV b it l h' i := by
  cases b
  · exact Heap.IsTupleIter.at (show h.IsTupleIter it l i from a) k
  · exact Heap.IsListIter.at (show h.IsListIter it l i from a) k
theorem ItV.ob {b : Bool} {it l : Addr} {h : Heap} {i : Nat} (a : ItV b it l h i) : ∃ o, h.get? it = some o ∧ ∀ v, o.data ≠ .cell v := by
  cases b
  · obtain ⟨o, e, _, d⟩ := (show h.IsTupleIter it l i from a); exact ⟨o, e, fun v q => by rw [d] at q; cases q⟩
  · obtain ⟨o, e, _, d⟩ := (show h.IsListIter it l i from a); exact ⟨o, e, fun v q => by rw [d] at q; cases q⟩
theorem sqV_at {X : Cx} {pins : List (Addr × Obj)} {σ : L2.St} {H : Hp} {s : Shared} (I : Inv X pins σ H s) {b : Bool} {a : Addr} {xs : List V} (h : SqV X.K H b a xs) : ∃ its : List Value, Vals xs its ∧ IsV b s.heap a its.toArray := by
  cases b
  · obtain ⟨its, rv, p, _⟩ := I.tuple (show SqT X.K H a xs from h); exact ⟨its, rv, p⟩
  · obtain ⟨its, rv, p, _⟩ := I.list (show SqL X.K H a xs from h); exact ⟨its, rv, p.isList⟩
theorem sqV_inj {X : Cx} {pins : List (Addr × Obj)} {σ : L2.St} {H : Hp} {s : Shared} (I : Inv X pins σ H s) {b : Bool} {a : Addr} {xs ys : List V} (h : SqV X.K H b a xs) (h' : SqV X.K H b a ys) : xs = ys := by
  cases b
  · exact I.tuple_inj (show SqT X.K H a xs from h) h'
  · exact I.list_inj (show SqL X.K H a xs from h) h'
/-- the sequences at a and b as they stand at each turn, the items in new pairs -/
def ItzM (K : PySem.W.Frag) (b c : Bool) (a a' : Addr) : It :=
  ⟨fun i H => ∃ (xs ys : List V) (x y : V), SqV K H b a xs ∧ SqV K H c a' ys ∧ xs[i]? = some x ∧ ys[i]? = some y,
    fun i H v H' => ∃ T x y, v = .ref T ∧ H T = none ∧ H' = upd H T (.tup [x, y]) ∧ (∀ xs, SqV K H b a xs → xs[i]? = some x) ∧ ∀ ys, SqV K H c a' ys → ys[i]? = some y,
    fun i H => ∃ xs ys : List V, SqV K H b a xs ∧ SqV K H c a' ys ∧ (xs.length ≤ i ∨ ys.length ≤ i)⟩
theorem five {c z TI TO i1 i2 : Addr} : c ∈ [z, TI, TO, i1, i2] ↔ c = z ∨ c = TI ∨ c = TO ∨ c = i1 ∨ c = i2 := by simp
theorem turn_zipM {P : Program} {w : World} {K : PySem.W.Frag} {elts : List Expr} {kk : Nat} {tpos : Pos} {b c : Bool} {l1 l2 z TI TO i1 i2 : Addr} (D : ZipApart z TI TO i1 i2 l1 l2) :
    Turn P w K (.Tuple elts kk tpos) (ItzM K b c l1 l2) [z, TI, TO, i1, i2] z (fun i h => IsZip h z TI TO .none ∧ IsPair h TI (.ref i1) (.ref i2) ∧ (∃ x y, IsPair h TO x y) ∧ ItV b i1 l1 h i ∧ ItV c i2 l2 h i) where
  mem := by simp
  obj := fun i h st d hd => by
    obtain ⟨hz, hTI, ⟨x, y, hTO⟩, t1, t2⟩ := st
    rcases five.mp hd with q | q | q | q | q
    · rw [q]; exact ⟨_, hz, fun v q => nomatch q⟩
    · rw [q]; exact ⟨_, hTI, fun v q => nomatch q⟩
    · rw [q]; exact ⟨_, hTO, fun v q => nomatch q⟩
    · rw [q]; exact t1.ob
    · rw [q]; exact t2.ob
  keep := fun i h h' st k => by
    obtain ⟨hz, hTI, ⟨x, y, hTO⟩, t1, t2⟩ := st
    exact ⟨k z (by simp) _ hz, k TI (by simp) _ hTI, ⟨x, y, k TO (by simp) _ hTO⟩, t1.at fun o q => k i1 (by simp) o q, t2.at fun o q => k i2 (by simp) o q⟩
  item := by
    intro X hP hw hK hc i pins s σ H E I hf st hg
    subst hP hw hK
    obtain ⟨hz, hTI, ⟨x0, y0, hTO⟩, t1, t2⟩ := st
    obtain ⟨xs, ys, x, y, hqx, hqy, hx, hy⟩ := hg
    obtain ⟨its, rv, p⟩ := sqV_at I hqx
    obtain ⟨its2, rv2, p2⟩ := sqV_at I hqy
    obtain ⟨u, hu, ru⟩ := rv.get hx
    obtain ⟨u2, hu2, ru2⟩ := rv2.get hy
    have zl : z < s.heap.objs.size := Heap.lt_size hz
    have small : ∀ d, d ∈ [z, TI, TO, i1, i2] → d < s.heap.objs.size := fun d hd => by
      rcases five.mp hd with q | q | q | q | q
      · rw [q]; exact zl
      · rw [q]; exact Heap.lt_size hTI
      · rw [q]; exact Heap.lt_size hTO
      · rw [q]; obtain ⟨_, e, _⟩ := t1.ob; exact Heap.lt_size e
      · rw [q]; obtain ⟨_, e, _⟩ := t2.ob; exact Heap.lt_size e
    refine pyNext_zipM_item (dr_V D.l1i1) (dr_V D.l2i2) D hz hTI hTO (pv_of t1 p) (pv_of t2 p2) (x := u) (y := u2) (by simpa using hu) (by simpa using hu2) fun h' z' TO' r1 r2 hT hk => ?_
    refine ⟨_, rfl, wpAny_letOwnedTupleGo_zip (s := { s with heap := h' }) z' fun h'' z'' sb => ?_⟩
    have hT2 : h''.get? s.heap.objs.size = some { cls := .type "tuple", data := .seq #[u, u2] } := (sb.2 _ (Nat.ne_of_gt zl)).trans hT
    have new : ObjOk X.prog X.w (upd H s.heap.objs.size (.tup [x, y])) h'' s.heap.objs.size (.tup [x, y]) := ⟨by show 2 ≤ sizeLine; decide, [u, u2], .cons ru (.cons ru2 .nil), ⟨_, hT2, rfl, _, rfl⟩⟩
    have I1 : Inv X pins σ (upd H s.heap.objs.size (.tup [x, y])) { s with heap := h'' } :=
      I.turnedNew (t' := s.toks) (ch := [z, TI, TO, i1, i2]) (fun d o hb q => (sb.2 d fun q' => hb (five.mpr (.inl q'))).trans (hk d o (fun q' => hb (five.mpr (.inl q'))) (fun q' => hb (by simp [q'])) (fun q' => hb (by simp [q'])) (fun q' => hb (by simp [q'])) q)) hf (Nat.le_refl _) new
    refine ⟨.ref s.heap.objs.size, _, I1, rfl, ⟨_, x, y, rfl, I.hok.fresh (Nat.le_refl _), rfl, fun l hl => by rw [sqV_inj I hl hqx]; exact hx, fun l hl => by rw [sqV_inj I hl hqy]; exact hy⟩, ⟨z'', ?_, ⟨u, u2, ?_⟩, ?_, ?_⟩, fun d hd => ?_⟩
    · exact (sb.2 _ D.TIz).trans (hk _ _ D.TIz D.TITO D.TIi1 D.TIi2 hTI)
    · exact (sb.2 _ D.TOz).trans TO'
    · exact (pv_it r1).at fun o q => (sb.2 _ D.i1z).trans q
    · exact (pv_it r2).at fun o q => (sb.2 _ D.i2z).trans q
    · rw [upd_ne (Nat.ne_of_lt (small d hd))]
      exact (hf d hd).1
  done := by
    intro X hP hw hK hc i pins s σ H E I hf st hg
    subst hP hw hK
    obtain ⟨hz, hTI, ⟨x0, y0, hTO⟩, t1, t2⟩ := st
    obtain ⟨xs, ys, hqx, hqy, hend⟩ := hg
    obtain ⟨its, rv, p⟩ := sqV_at I hqx
    obtain ⟨its2, rv2, p2⟩ := sqV_at I hqy
    have e1 := rv.length
    have e2 := rv2.length
    have he : its.toArray[i]? = none ∨ its2.toArray[i]? = none := by
      rcases hend with q | q
      · exact .inl (by simp; omega)
      · exact .inr (by simp; omega)
    exact pyNext_zipM_end (dr_V D.l1i1) (dr_V D.l2i2) (I.ok.hd hc) D hz hTI hTO (pv_of t1 p) (pv_of t2 p2) he fun h' hk => ⟨rfl, I.turnedL (t' := s.toks) (ch := [z, TI, TO, i1, i2]) (fun d o hb q =>
      hk d o (fun q' => hb (five.mpr (.inl q'))) (fun q' => hb (by simp [q'])) (fun q' => hb (by simp [q'])) (fun q' => hb (by simp [q'])) q) hf⟩
  self := fun A i s Q E st h => wpAny_pyIter_zip st.1 h
def iZip4 (K : PySem.W.Frag) (ta : TA) : TI := fun σ H R => ta σ H fun vs H1 => ∃ a b xs ys, vs = [.ref a, .ref b] ∧ ((SqL K H1 a xs ∧ SqL K H1 b ys ∧ R (Itz K a b) H1) ∨ (SqT K H1 a xs ∧ SqT K H1 b ys ∧ R (ItzT K a b) H1) ∨
  (SqL K H1 a xs ∧ SqT K H1 b ys ∧ R (ItzM K true false a b) H1) ∨ (SqT K H1 a xs ∧ SqL K H1 b ys ∧ R (ItzM K false true a b) H1))
theorem pi_zip4 {X : Cx} {e e2 : Expr} {ta : TA} {p pos tpos : Pos} {elts : List Expr} {kk : Nat} (hg : Gl X "zip") (hm : X.mg "zip" = none) (ha : PA X [e, e2] ta)
    (hs : starEach [e, e2] X.env = (false, eval e X.env) :: starEach [e2] X.env := by rfl) (hpl : (backTo pos (starEach [e2] X.env)).any (·.1) = false := by rfl) :
    PI X (.Tuple elts kk tpos) (.Call (.Name "zip" p) [e, e2] [] pos) (iZip4 X.K ta) := by
  refine ⟨fun pins s σ H R I h => ?_⟩
  refine Call_ (ld_blt I hg hm PyProof.Rows.boot_zip (PyProof.Rows.callWith_type1 (thn (ha.run pos pins s σ H _ I h) fun us s1 ⟨vs, H1, I1, r1, q1⟩ => ?_) hs hpl))
  obtain ⟨a, b, xs, ys, ex, q1⟩ := q1
  subst ex
  cases r1 with
  | cons r rr =>
    cases rr with
    | cons r' rr =>
      cases rr
      cases r
      cases r'
      have fr : ∀ d, d ∈ [s1.heap.objs.size + 4, s1.heap.objs.size + 2, s1.heap.objs.size + 3, s1.heap.objs.size, s1.heap.objs.size + 1] → FpOk X pins H1 d := fun d hd => by
        have hle : s1.heap.objs.size ≤ d := by
          rcases five.mp hd with q | q | q | q | q <;> rw [q]
          · exact Nat.le_add_right _ _
          · exact Nat.le_add_right _ _
          · exact Nat.le_add_right _ _
          · exact Nat.le_refl _
          · exact Nat.le_add_right _ _
        exact I1.fpOk hle (I1.hok.fresh hle)
      rcases q1 with ⟨hqx, hqy, q⟩ | ⟨hqx, hqy, q⟩ | ⟨hqx, hqy, q⟩ | ⟨hqx, hqy, q⟩
      · obtain ⟨its, rv, p1, _⟩ := I1.list hqx
        obtain ⟨its2, rv2, p2, _⟩ := I1.list hqy
        refine call_zip_2 p1.isList p2.isList fun h' hz hTI hTO h1 h2 _ hk => wpAny_pyIter_zip hz ?_
        exact ⟨s1.heap.objs.size + 4, [s1.heap.objs.size + 4, s1.heap.objs.size + 2, s1.heap.objs.size + 3, s1.heap.objs.size, s1.heap.objs.size + 1], _, _, H1, rfl, I1.kept (t' := s1.toks) hk, turn_zip (PySem.W.ktu_apart s1.heap.objs.size a b p1.lt p2.lt), ⟨hz, hTI, ⟨_, _, hTO⟩, h1, h2⟩, fr, q⟩
      · obtain ⟨its, rv, p1, _⟩ := I1.tuple hqx
        obtain ⟨its2, rv2, p2, _⟩ := I1.tuple hqy
        obtain ⟨o1, ho1, _⟩ := id p1
        obtain ⟨o2, ho2, _⟩ := id p2
        refine call_zipT (show s1.heap.IsTuple a its.toArray from p1) (show s1.heap.IsTuple b its2.toArray from p2) fun h' hz hTI hTO h1 h2 _ hk => wpAny_pyIter_zip hz ?_
        exact ⟨s1.heap.objs.size + 4, [s1.heap.objs.size + 4, s1.heap.objs.size + 2, s1.heap.objs.size + 3, s1.heap.objs.size, s1.heap.objs.size + 1], _, _, H1, rfl, I1.kept (t' := s1.toks) hk, turn_zipT (PySem.W.ktu_apart s1.heap.objs.size a b (Heap.lt_size ho1) (Heap.lt_size ho2)), ⟨hz, hTI, ⟨_, _, hTO⟩, h1, h2⟩, fr, q⟩
      · obtain ⟨its, rv, p1, _⟩ := I1.list hqx
        obtain ⟨its2, rv2, p2, _⟩ := I1.tuple hqy
        obtain ⟨o2, ho2, _⟩ := id p2
        refine call_LT p1.isList (show s1.heap.IsTuple b its2.toArray from p2) fun h' hz hTI hTO h1 h2 hk => wpAny_pyIter_zip hz ?_
        have I2 : Inv X pins σ H1 { s1 with heap := h' } := I1.kept (t' := s1.toks) hk
        exact ⟨s1.heap.objs.size + 4, [s1.heap.objs.size + 4, s1.heap.objs.size + 2, s1.heap.objs.size + 3, s1.heap.objs.size, s1.heap.objs.size + 1], _, _, H1, rfl, I2, turn_zipM (b := true) (c := false) (PySem.W.ktu_apart s1.heap.objs.size a b p1.lt (Heap.lt_size ho2)), ⟨hz, hTI, ⟨_, _, hTO⟩, h1, h2⟩, fr, q⟩
      · obtain ⟨its, rv, p1, _⟩ := I1.tuple hqx
        obtain ⟨its2, rv2, p2, _⟩ := I1.list hqy
        obtain ⟨o1, ho1, _⟩ := id p1
        refine call_TL (show s1.heap.IsTuple a its.toArray from p1) p2.isList fun h' hz hTI hTO h1 h2 hk => wpAny_pyIter_zip hz ?_
        have I2 : Inv X pins σ H1 { s1 with heap := h' } := I1.kept (t' := s1.toks) hk
        exact ⟨s1.heap.objs.size + 4, [s1.heap.objs.size + 4, s1.heap.objs.size + 2, s1.heap.objs.size + 3, s1.heap.objs.size, s1.heap.objs.size + 1], _, _, H1, rfl, I2, turn_zipM (b := false) (c := true) (PySem.W.ktu_apart s1.heap.objs.size a b (Heap.lt_size ho1) p2.lt), ⟨hz, hTI, ⟨_, _, hTO⟩, h1, h2⟩, fr, q⟩
end RZ

namespace DL
open PySem PySem.Spec PyProof.Rows L2
/-! ### what is walked -/
section
variable {K : PySem.W.Frag} {fnm clm : Nat → Option Addr} {S : Addr → Option Bool} {H : Hp} {G : HD}
theorem it_list {a : Addr} {vs : List V} {ds : List D} (R : Hel K fnm clm S H G) (h : LAt K S H G a vs) (z : vs.length ≤ sizeLine) (r : DatAll K fnm S H G vs ds) : ItOk K fnm clm (Itl K a) S H G ds := by
  refine ⟨by rw [← r.length]; exact z, fun S' H' G' st R' i d e => ?_, fun S' H' G' st R' => ?_⟩
  · have h' := (h.keep (Keep.of R st)).sq
    obtain ⟨v, e1, e2⟩ := (r.step R st).get e
    refine ⟨⟨vs, v, h', e1⟩, fun x H'' y => ?_⟩
    obtain ⟨rfl, y⟩ := y
    have := y vs h'
    rw [e1] at this; cases this
    exact ⟨.refl, R', e2⟩
  · have h' := (h.keep (Keep.of R st)).sq
    exact ⟨vs, h', by rw [r.length]; exact Nat.le_refl _⟩
theorem it_tup {a : Addr} {vs : List V} {ds : List D} (R : Hel K fnm clm S H G) (h : SqT K H a vs) (z : vs.length ≤ sizeLine) (r : DatAll K fnm S H G vs ds) : ItOk K fnm clm (Itt K a) S H G ds := by
  refine ⟨by rw [← r.length]; exact z, fun S' H' G' st R' i d e => ?_, fun S' H' G' st R' => ?_⟩
  · have h' := (Keep.of R st).sqT h
    obtain ⟨v, e1, e2⟩ := (r.step R st).get e
    refine ⟨⟨vs, v, h', e1⟩, fun x H'' y => ?_⟩
    obtain ⟨rfl, y⟩ := y
    have := y vs h'
    rw [e1] at this; cases this
    exact ⟨.refl, R', e2⟩
  · exact ⟨vs, (Keep.of R st).sqT h, by rw [r.length]; exact Nat.le_refl _⟩
theorem it_str {s : List Nat} (hs : PyData.strOk (mkStr s) = true) (z : s.length ≤ sizeLine) : ItOk K fnm clm (Its (mkStr s)) S H G (s.map fun c => .str [c]) := by
  refine ⟨by rw [List.length_map]; exact z, fun S' H' G' st R' i d e => ?_, fun S' H' G' st R' => ?_⟩
  · rw [List.getElem?_map] at e
    cases q : s[i]? with
    | none => rw [q] at e; cases e
    | some c =>
      rw [q] at e; cases e
      have hi : i < s.length := (List.getElem?_eq_some_iff.mp q).1
      refine ⟨by show i < (mkStr s).cps.size; simpa [mkStr] using hi, fun x H'' y => ?_⟩
      obtain ⟨rfl, c', e1, rfl⟩ := y
      have : c = c' := by simp [mkStr] at e1; rw [q] at e1; exact Option.some.inj e1
      subst this
      refine ⟨.refl, R', .str [c] ?_ (by rw [lim_eq]; show 1 ≤ lim; decide)⟩
      rw [strOk_iff] at hs ⊢
      intro w hw
      rw [List.mem_singleton] at hw
      subst hw
      exact hs w (List.mem_of_getElem? q)
  · show (mkStr s).cps.size ≤ _
    simp [mkStr]
theorem rngF_len (c : Int) : ∀ (n : Nat) (lo : Int), (rngF c n lo).length = n
  | 0, _ => rfl
  | n + 1, lo => by show (rngF c n (lo + c)).length + 1 = _; rw [rngF_len c n]
theorem rngF_get (c : Int) : ∀ {n : Nat} {lo : Int} {i : Nat} {d : D}, (rngF c n lo)[i]? = some d → i < n ∧ d = .int (lo + i * c)
  | 0, _, _, _, e => by cases e
  | n + 1, lo, 0, d, e => by
    have e : some (D.int lo) = some d := e
    cases e
    exact ⟨Nat.succ_pos _, by simp⟩
  | n + 1, lo, i + 1, d, e => by
    obtain ⟨h1, h2⟩ := rngF_get c (n := n) (lo := lo + c) (i := i) (d := d) (by simpa [rngF] using e)
    refine ⟨by omega, ?_⟩
    rw [h2]
    have : lo + c + (i : Int) * c = lo + ((i + 1 : Nat) : Int) * c := by rw [Int.natCast_add, Int.add_mul]; omega
    rw [this]
theorem it_rng {lo : Int} {n : Nat} (z : n ≤ lim) : ItOk K fnm clm (Itr lo n) S H G (rngL (lo, n, 1)) := by
  refine ⟨by unfold rngL; rw [rngF_len, lim_eq]; exact z, fun S' H' G' st R' i d e => ?_, fun S' H' G' st R' => ?_⟩
  · obtain ⟨h1, rfl⟩ := rngF_get _ e
    refine ⟨h1, fun x H'' y => ?_⟩
    obtain ⟨rfl, rfl⟩ := y
    refine ⟨.refl, R', ?_⟩
    show Dat K fnm S' _ G' _ (.int (lo + i * 1))
    rw [Int.mul_one]; exact .int _
  · show n ≤ _
    unfold rngL; rw [rngF_len]; exact Nat.le_refl _
theorem it_rngC {lo : Int} {n : Nat} (z : n ≤ lim) : ItOk K fnm clm (Itc lo (-1) n) S H G (rngL (lo, n, -1)) := by
  refine ⟨by unfold rngL; rw [rngF_len, lim_eq]; exact z, fun S' H' G' st R' i d e => ?_, fun S' H' G' st R' => ?_⟩
  · obtain ⟨h1, rfl⟩ := rngF_get _ e
    refine ⟨h1, fun x H'' y => ?_⟩
    obtain ⟨rfl, rfl⟩ := y
    exact ⟨.refl, R', .int _⟩
  · show n ≤ _
    unfold rngL; rw [rngF_len]; exact Nat.le_refl _
theorem pair_new {v w : V} {d e : D} {T : Addr} (R : Hel K fnm clm S H G) (h : H T = none) (r1 : Dat K fnm S H G v d) (r2 : Dat K fnm S H G w e) :
    Step S H G S (upd H T (.tup [v, w])) G ∧ Hel K fnm clm S (upd H T (.tup [v, w])) G ∧ Dat K fnm S (upd H T (.tup [v, w])) G (.ref T) (.tpl [d, e]) :=
  ⟨.newU h, R.newU h, .tpl (SqT.of upd_same) (by rw [lim_eq]; show 2 ≤ lim; decide) (.cons (r1.step R (.newU h)) (.cons (r2.step R (.newU h)) .nil))⟩
theorem enuF_len : ∀ (ds : List D) (k : Nat), (enuF k ds).length = ds.length
  | [], _ => rfl
  | d :: ds, k => by show (enuF (k + 1) ds).length + 1 = _; rw [enuF_len ds]; rfl
theorem enuF_get : ∀ {ds : List D} {k i : Nat} {d : D}, (enuF k ds)[i]? = some d → ∃ x, ds[i]? = some x ∧ d = .tpl [.int ((k + i : Nat) : Int), x]
  | [], _, _, _, e => by cases e
  | x :: ds, k, 0, d, e => by
    have e : some (D.tpl [.int (k : Nat), x]) = some d := e
    cases e
    exact ⟨x, rfl, rfl⟩
  | x :: ds, k, i + 1, d, e => by
    obtain ⟨y, h1, h2⟩ := enuF_get (ds := ds) (k := k + 1) (i := i) (d := d) (by simpa [enuF] using e)
    refine ⟨y, by simpa using h1, ?_⟩
    rw [h2, Nat.add_assoc, Nat.add_comm 1 i]
theorem zip2_len : ∀ (xs ys : List D), (zip2L xs ys).length = min xs.length ys.length
  | [], _ => by simp [zip2L]
  | _ :: _, [] => by simp [zip2L]
  | x :: xs, y :: ys => by
    show (zip2L xs ys).length + 1 = _
    rw [zip2_len xs ys, List.length_cons, List.length_cons]; omega
theorem zip2_get : ∀ {xs ys : List D} {i : Nat} {d : D}, (zip2L xs ys)[i]? = some d → ∃ x y, xs[i]? = some x ∧ ys[i]? = some y ∧ d = .tpl [x, y]
  | [], _, _, _, e => by simp [zip2L] at e
  | _ :: _, [], _, _, e => by simp [zip2L] at e
  | x :: xs, y :: ys, 0, d, e => by
    have e : some (D.tpl [x, y]) = some d := e
    cases e
    exact ⟨x, y, rfl, rfl, rfl⟩
  | x :: xs, y :: ys, i + 1, d, e => by
    obtain ⟨a, b, h1, h2, h3⟩ := zip2_get (xs := xs) (ys := ys) (i := i) (d := d) (by simpa [zip2L] using e)
    exact ⟨a, b, by simpa using h1, by simpa using h2, h3⟩
theorem it_enu {a : Addr} {vs : List V} {ds : List D} (R : Hel K fnm clm S H G) (h : LAt K S H G a vs) (z : vs.length ≤ sizeLine) (r : DatAll K fnm S H G vs ds) : ItOk K fnm clm (Ite K a) S H G (enuL ds) := by
  refine ⟨by unfold enuL; rw [enuF_len, ← r.length]; exact z, fun S' H' G' st R' i d e => ?_, fun S' H' G' st R' => ?_⟩
  · have h' := (h.keep (Keep.of R st)).sq
    obtain ⟨x, e0, rfl⟩ := enuF_get e
    obtain ⟨v, e1, e2⟩ := (r.step R st).get e0
    refine ⟨⟨vs, v, h', e1⟩, fun y H'' q => ?_⟩
    obtain ⟨T, w, rfl, hT, rfl, q⟩ := q
    have := q vs h'
    rw [e1] at this; cases this
    rw [Nat.zero_add]
    exact pair_new R' hT (.int _) e2
  · have h' := (h.keep (Keep.of R st)).sq
    exact ⟨vs, h', by unfold enuL; rw [enuF_len, r.length]; exact Nat.le_refl _⟩
theorem it_enuT {a : Addr} {vs : List V} {ds : List D} (R : Hel K fnm clm S H G) (h : SqT K H a vs) (z : vs.length ≤ sizeLine) (r : DatAll K fnm S H G vs ds) : ItOk K fnm clm (En.ItE K a) S H G (enuL ds) := by
  refine ⟨by unfold enuL; rw [enuF_len, ← r.length]; exact z, fun S' H' G' st R' i d e => ?_, fun S' H' G' st R' => ?_⟩
  · have h' := (Keep.of R st).sqT h
    obtain ⟨x, e0, rfl⟩ := enuF_get e
    obtain ⟨v, e1, e2⟩ := (r.step R st).get e0
    refine ⟨⟨vs, v, h', e1⟩, fun y H'' q => ?_⟩
    obtain ⟨T, w, rfl, hT, rfl, q⟩ := q
    have := q vs h'
    rw [e1] at this; cases this
    rw [Nat.zero_add]
    exact pair_new R' hT (.int _) e2
  · exact ⟨vs, (Keep.of R st).sqT h, by unfold enuL; rw [enuF_len, r.length]; exact Nat.le_refl _⟩
theorem it_zip {a b : Addr} {vs ws : List V} {ds es : List D} (R : Hel K fnm clm S H G) (h : LAt K S H G a vs) (z : vs.length ≤ sizeLine) (r : DatAll K fnm S H G vs ds)
    (h2 : LAt K S H G b ws) (r2 : DatAll K fnm S H G ws es) : ItOk K fnm clm (Itz K a b) S H G (zip2L ds es) := by
  refine ⟨by rw [zip2_len, ← r.length]; exact Nat.le_trans (Nat.min_le_left _ _) z, fun S' H' G' st R' i d e => ?_, fun S' H' G' st R' => ?_⟩
  · have h' := (h.keep (Keep.of R st)).sq
    have h2' := (h2.keep (Keep.of R st)).sq
    obtain ⟨x, y, e0, e0', rfl⟩ := zip2_get e
    obtain ⟨v, e1, e2⟩ := (r.step R st).get e0
    obtain ⟨w, e3, e4⟩ := (r2.step R st).get e0'
    refine ⟨⟨vs, ws, v, w, h', h2', e1, e3⟩, fun y H'' q => ?_⟩
    obtain ⟨T, v', w', rfl, hT, rfl, q, q'⟩ := q
    have := q vs h'
    rw [e1] at this; cases this
    have := q' ws h2'
    rw [e3] at this; cases this
    exact pair_new R' hT e2 e4
  · have h' := (h.keep (Keep.of R st)).sq
    have h2' := (h2.keep (Keep.of R st)).sq
    refine ⟨vs, ws, h', h2', ?_⟩
    rw [zip2_len, r.length, r2.length]; omega
theorem it_zipT {a b : Addr} {vs ws : List V} {ds es : List D} (R : Hel K fnm clm S H G) (h : SqT K H a vs) (z : vs.length ≤ sizeLine) (r : DatAll K fnm S H G vs ds) (h2 : SqT K H b ws) (r2 : DatAll K fnm S H G ws es) :
    ItOk K fnm clm (RZ.ItzT K a b) S H G (zip2L ds es) := by
  refine ⟨by rw [zip2_len, ← r.length]; exact Nat.le_trans (Nat.min_le_left _ _) z, fun S' H' G' st R' i d e => ?_, fun S' H' G' st R' => ?_⟩
  · have h' := (Keep.of R st).sqT h
    have h2' := (Keep.of R st).sqT h2
    obtain ⟨x, y, e0, e0', rfl⟩ := zip2_get e
    obtain ⟨v, e1, e2⟩ := (r.step R st).get e0
    obtain ⟨w, e3, e4⟩ := (r2.step R st).get e0'
    refine ⟨⟨vs, ws, v, w, h', h2', e1, e3⟩, fun y H'' q => ?_⟩
    obtain ⟨T, v', w', rfl, hT, rfl, q, q'⟩ := q
    have := q vs h'
    rw [e1] at this; cases this
    have := q' ws h2'
    rw [e3] at this; cases this
    exact pair_new R' hT e2 e4
  · refine ⟨vs, ws, (Keep.of R st).sqT h, (Keep.of R st).sqT h2, ?_⟩
    rw [zip2_len, r.length, r2.length]; omega
theorem it_zipM {b c : Bool} {a a' : Addr} {vs ws : List V} {ds es : List D} (R : Hel K fnm clm S H G) (h : ∀ S' H' G', Step S H G S' H' G' → RZ.SqV K H' b a vs) (z : vs.length ≤ sizeLine) (r : DatAll K fnm S H G vs ds) (h2 : ∀ S' H' G', Step S H G S' H' G' → RZ.SqV K H' c a' ws) (r2 : DatAll K fnm S H G ws es) :
    ItOk K fnm clm (RZ.ItzM K b c a a') S H G (zip2L ds es) := by
  refine ⟨by rw [zip2_len, ← r.length]; exact Nat.le_trans (Nat.min_le_left _ _) z, fun S' H' G' st R' i d e => ?_, fun S' H' G' st R' => ⟨vs, ws, h _ _ _ st, h2 _ _ _ st, by rw [zip2_len, r.length, r2.length]; omega⟩⟩
  obtain ⟨x, y, e0, e0', rfl⟩ := zip2_get e
  obtain ⟨v, e1, e2⟩ := (r.step R st).get e0
  obtain ⟨w, e3, e4⟩ := (r2.step R st).get e0'
  refine ⟨⟨vs, ws, v, w, h _ _ _ st, h2 _ _ _ st, e1, e3⟩, fun y H'' q => ?_⟩
  obtain ⟨T, v', w', rfl, hT, rfl, q, q'⟩ := q
  have := q vs (h _ _ _ st)
  rw [e1] at this; cases this
  have := q' ws (h2 _ _ _ st)
  rw [e3] at this; cases this
  exact pair_new R' hT e2 e4
theorem rev_get {ds : List D} {i : Nat} {d : D} (e : ds.reverse[i]? = some d) : i < ds.length ∧ ds[ds.length - 1 - i]? = some d := by
  have hi : i < ds.length := by
    have := (List.getElem?_eq_some_iff.mp e).1
    simpa using this
  rw [List.getElem?_reverse hi] at e
  exact ⟨hi, e⟩
theorem it_rev {a : Addr} {vs : List V} {ds : List D} (R : Hel K fnm clm S H G) (h : LAt K S H G a vs) (z : vs.length ≤ sizeLine) (r : DatAll K fnm S H G vs ds) : ItOk K fnm clm (Itv K a vs.length) S H G ds.reverse := by
  refine ⟨by rw [List.length_reverse, ← r.length]; exact z, fun S' H' G' st R' i d e => ?_, fun S' H' G' st R' => ?_⟩
  · have h' := (h.keep (Keep.of R st)).sq
    obtain ⟨hi, e0⟩ := rev_get e
    obtain ⟨v, e1, e2⟩ := (r.step R st).get e0
    rw [← r.length] at e1 hi
    refine ⟨⟨hi, vs, v, h', e1⟩, fun x H'' y => ?_⟩
    obtain ⟨rfl, y⟩ := y
    have := y vs h'
    rw [e1] at this; cases this
    exact ⟨.refl, R', e2⟩
  · show vs.length ≤ _
    rw [List.length_reverse, r.length]; exact Nat.le_refl _
theorem it_revT {a : Addr} {vs : List V} {ds : List D} (R : Hel K fnm clm S H G) (h : SqT K H a vs) (z : vs.length ≤ sizeLine) (r : DatAll K fnm S H G vs ds) : ItOk K fnm clm (RT.ItvT K a vs.length) S H G ds.reverse := by
  refine ⟨by rw [List.length_reverse, ← r.length]; exact z, fun S' H' G' st R' i d e => ?_, fun S' H' G' st R' => ?_⟩
  · have h' := (Keep.of R st).sqT h
    obtain ⟨hi, e0⟩ := rev_get e
    obtain ⟨v, e1, e2⟩ := (r.step R st).get e0
    rw [← r.length] at e1 hi
    refine ⟨⟨hi, vs, v, h', e1⟩, fun x H'' y => ?_⟩
    obtain ⟨rfl, y⟩ := y
    have := y vs h'
    rw [e1] at this; cases this
    exact ⟨.refl, R', e2⟩
  · show vs.length ≤ _
    rw [List.length_reverse, r.length]; exact Nat.le_refl _
end
end DL

namespace DL
open PySem PySem.Spec PyProof.Rows L2
section
variable {C : Cfg} {fnm clm : Nat → Option Addr} {Γ : Gam} {N : List Str} {sc : Scope} {X : Cx} {W : WX}
/-- over a list, a tuple, a text -/
def iAny (K : PySem.W.Frag) (tl : TE) : TI := fun σ H R => tl σ H fun x H1 => (∃ a, x = .ref a ∧ (∃ xs, SqL K H1 a xs) ∧ R (Itl K a) H1) ∨ (∃ a, x = .ref a ∧ (∃ xs, SqT K H1 a xs) ∧ R (Itt K a) H1) ∨ ∃ z, x = .str z ∧ R (Its z) H1
theorem pi_any {tg l : Expr} {tl : TE} (hl : PE X l tl) : PI X tg l (iAny X.K tl) := by
  refine ⟨fun pins s σ H R I h => ?_⟩
  refine thn (hl.run pins s σ H _ I h) fun v s1 ⟨x, H1, I1, r1, q1⟩ => ?_
  rcases q1 with ⟨a, e, ⟨xs, hq⟩, q⟩ | ⟨a, e, ⟨xs, hq⟩, q⟩ | ⟨z, e, q⟩
  · subst e
    cases r1
    obtain ⟨its, rv, p, hz⟩ := I1.list hq
    refine wpAny_pyIter_list p.isList ?_
    refine ⟨s1.heap.objs.size, [s1.heap.objs.size], _, _, H1, rfl, I1.kept (t' := s1.toks) fun b o e => Heap.get?_push_of_some _ e, turn_list a _, ⟨_, Heap.get?_push_size _ rfl, rfl, rfl⟩, fun b hb => ?_, q⟩
    have e : b = s1.heap.objs.size := by simpa using hb
    subst e
    exact I1.fpOk (Nat.le_refl _) (I1.hok.fresh (Nat.le_refl _))
  · subst e
    cases r1
    obtain ⟨its, rv, p, hz⟩ := I1.tuple hq
    refine wpAny_pyIter_tuple (show s1.heap.IsTuple a its.toArray from p) ?_
    refine ⟨s1.heap.objs.size, [s1.heap.objs.size], _, _, H1, rfl, I1.kept (t' := s1.toks) fun b o e => Heap.get?_push_of_some _ e, turn_tuple a _, ⟨_, Heap.get?_push_size _ rfl, rfl, rfl⟩, fun b hb => ?_, q⟩
    have e : b = s1.heap.objs.size := by simpa using hb
    subst e
    exact I1.fpOk (Nat.le_refl _) (I1.hok.fresh (Nat.le_refl _))
  · subst e
    obtain ⟨t, rfl⟩ := r1
    cases ha : z.cps.all (· < 128)
    · exact wpAny_pyIter_wide ha (pi_one (tk := s1.toks) I1 _ (turn_str _ z t "str_iterator" (.inr rfl)) ⟨_, Heap.get?_push_size _ rfl, rfl, rfl⟩ q)
    · exact wpAny_pyIter_ascii ha (pi_one (tk := s1.toks) I1 _ (turn_str _ z t "str_ascii_iterator" (.inl rfl)) ⟨_, Heap.get?_push_size _ rfl, rfl, rfl⟩ q)
theorem ji_of {tg e : Expr} {ee : E} (he : JE fnm clm X W e (wE Γ ee)) : JI fnm clm X W tg e (wI Γ (.of ee)) := by
  obtain ⟨s, ta, pa, ra⟩ := he
  refine ⟨_, pi_any pa, fun S σ σD H G Rr QD XD R sl h hR hX => ?_⟩
  refine ra S σ σD H G _ _ XD R sl h (fun v S1 H1 d G1 st1 R1 r1 h1 => ?_) hX
  cases d <;> try exact h1.elim
  · obtain ⟨rfl, k, z⟩ := dat_str r1
    exact .inr (.inr ⟨_, rfl, hR _ S1 H1 G1 _ st1 R1 (it_str k z) h1⟩)
  · obtain ⟨a, vs, rfl, h2, z, r⟩ := dat_tup r1
    exact .inr (.inl ⟨a, rfl, ⟨vs, h2⟩, hR _ S1 H1 G1 _ st1 R1 (it_tup R1 h2 z r) h1⟩)
  · obtain ⟨a, vs, rfl, h2, z, r⟩ := dat_tpl r1
    exact .inr (.inl ⟨a, rfl, ⟨vs, h2⟩, hR _ S1 H1 G1 _ st1 R1 (it_tup R1 h2 z r) h1⟩)
  · obtain ⟨a, vs, rfl, h2, z, r⟩ := dat_lst r1
    exact .inl ⟨a, rfl, ⟨vs, h2.sq⟩, hR _ S1 H1 G1 _ st1 R1 (it_list R1 h2 z r) h1⟩
  · obtain ⟨a, vs, rfl, h2, z, r⟩ := dat_scr r1
    exact .inl ⟨a, rfl, ⟨vs, h2.sq⟩, hR _ S1 H1 G1 _ st1 R1 (it_list R1 h2 z r) h1⟩
theorem star_cons {es : List Expr} (h : ∀ e ∈ es, isStar e = false) (env : Env) : starEach es env = es.map fun e => (false, eval e env) := by
  induction es with
  | nil => rfl
  | cons e es ih => rw [star_no (h e List.mem_cons_self), ih fun x hx => h x (List.mem_cons_of_mem _ hx)]; rfl
theorem ji_rng (k : COk C fnm clm Γ N sc X W) {tg : Expr} {es : List Expr} {p pos : Pos} {ees : Es} (hl : 1 ≤ es.length ∧ es.length ≤ 3) (hg : Gl X "range") (h : JA fnm clm X W es (wEs Γ ees)) :
    JI fnm clm X W tg (.Call (.Name "range" p) es [] pos) (wI Γ (.rng ees)) := by
  obtain ⟨ss, ta, pa, ra⟩ := h
  have hm := blt_of k (x := "range") (by decide +kernel)
  have sc := star_cons ss X.env
  match es, hl, ss, pa, ra, sc with
  | [a], _, ss, pa, ra, sc =>
    refine ⟨_, pi_range1 hg hm pa sc, fun S σ σD H G Rr QD XD R sl h hR hX => ?_⟩
    refine ra S σ σD H G _ _ XD R sl h (fun vs S1 H1 ds G1 hn st1 R1 r1 h1 => ?_) hX
    obtain ⟨r, e, z, h2⟩ := ok_of h1
    cases r1 with
    | nil => cases hn
    | cons r1 rr =>
      cases rr with
      | cons _ _ => cases hn
      | nil =>
        rename_i v d
        cases d <;> try exact nomatch (show (none : Option (Int × Nat × Int)) = some r from e)
        rename_i j
        cases dat_int r1
        have e : (if -4611686018427387904 ≤ j ∧ j < 4611686018427387904 then some ((0 : Int), j.toNat, (1 : Int)) else none) = some r := e
        split at e
        · rename_i b
          cases e
          exact ⟨j, rfl, b.1, b.2, hR _ S1 H1 G1 _ st1 R1 (it_rng z) h2⟩
        · cases e
  | [a, b], _, ss, pa, ra, sc =>
    refine ⟨_, pi_range2 hg hm pa sc (star_cons (fun e he => ss e (List.mem_cons_of_mem _ he)) X.env), fun S σ σD H G Rr QD XD R sl h hR hX => ?_⟩
    refine ra S σ σD H G _ _ XD R sl h (fun vs S1 H1 ds G1 hn st1 R1 r1 h1 => ?_) hX
    obtain ⟨r, e, z, h2⟩ := ok_of h1
    match vs, ds, r1, hn, e with
    | [v, w], [.int i, .int j], r1, hn, e =>
      obtain ⟨v', w', e3, q1, q2⟩ := two_of r1
      cases e3
      cases dat_int q1; cases dat_int q2
      have e : (if (-4611686018427387904 ≤ i ∧ i < 4611686018427387904) ∧ (-4611686018427387904 ≤ j ∧ j < 4611686018427387904) then some (i, (j - i).toNat, (1 : Int)) else none) = some r := e
      split at e
      · rename_i b
        cases e
        exact ⟨i, j, rfl, ⟨b.1.1, b.1.2, b.2.1, b.2.2⟩, hR _ S1 H1 G1 _ st1 R1 (it_rng z) h2⟩
      · cases e
  | [a, b, c], _, ss, pa, ra, sc =>
    refine ⟨_, pi_range3 hg hm pa (star_no (ss a (by simp)) _ _) (star_all (fun e he => ss e (List.mem_cons_of_mem _ he)) _ _), fun S σ σD H G Rr QD XD R sl h hR hX => ?_⟩
    refine ra S σ σD H G _ _ XD R sl h (fun vs S1 H1 ds G1 hn st1 R1 r1 h1 => ?_) hX
    obtain ⟨r, e, z, h2⟩ := ok_of h1
    match vs, ds, r1, hn, e with
    | [v, w, u], [.int i, .int j, .int c], r1, hn, e =>
      cases r1 with
      | cons q1 rr =>
        obtain ⟨v', w', e3, q2, q3⟩ := two_of rr
        cases e3
        cases dat_int q1; cases dat_int q2; cases dat_int q3
        have e : (if ((-4611686018427387904 ≤ i ∧ i < 4611686018427387904) ∧ (-4611686018427387904 ≤ j ∧ j < 4611686018427387904)) ∧ c = -1 then some (i, (i - j).toNat, (-1 : Int)) else none) = some r := e
        split at e
        · rename_i b
          cases e
          obtain ⟨⟨⟨b1, b2⟩, b3, b4⟩, rfl⟩ := b
          exact ⟨i, j, -1, _, rfl, .neg b1 b2 b3 b4, hR _ S1 H1 G1 _ st1 R1 (it_rngC z) h2⟩
        · cases e
theorem ji_enu (k : COk C fnm clm Γ N sc X W) {elts : List Expr} {kk : Nat} {tpos p pos : Pos} {e : Expr} {ee : E} (hg : Gl X "enumerate") (he : JE fnm clm X W e (wE Γ ee)) :
    JI fnm clm X W (.Tuple elts kk tpos) (.Call (.Name "enumerate" p) [e] [] pos) (wI Γ (.enu ee)) := by
  obtain ⟨ss, ta, pa, ra⟩ := ja_cons he (ja_nil (Γ := Γ))
  refine ⟨_, En.pi_any hg (blt_of k (by decide +kernel)) pa (star_cons ss X.env), fun S σ σD H G Rr QD XD R sl h hR hX => ?_⟩
  have h : wE Γ ee σD G (fun d H1 => ok (fixD d) fun ds => QD (enuL ds) H1) XD := h
  refine ra S σ σD H G _ (fun ds H1 => match ds with | [d] => ok (fixD d) fun ds => QD (enuL ds) H1 | _ => False) XD R sl h (fun vs S1 H1 ds G1 hn st1 R1 r1 h1 => ?_) hX
  match ds, r1, h1 with
  | [d], r1, h1 =>
    obtain ⟨v, rfl, q⟩ := one_of r1
    obtain ⟨zs, e3, h2⟩ := ok_of (show ok (fixD d) fun ds => QD (enuL ds) G1 from h1)
    cases d <;> try exact nomatch (show (none : Option (List D)) = some zs from e3)
    · cases e3
      obtain ⟨a, vs, rfl, k1, z1, d1⟩ := dat_tup q
      exact ⟨a, vs, rfl, .inr ⟨k1, hR _ S1 H1 G1 _ st1 R1 (it_enuT R1 k1 z1 d1) h2⟩⟩
    · cases e3
      obtain ⟨a, vs, rfl, k1, z1, d1⟩ := dat_lst q
      exact ⟨a, vs, rfl, .inl ⟨k1.sq, hR _ S1 H1 G1 _ st1 R1 (it_enu R1 k1 z1 d1) h2⟩⟩
    · cases e3
      obtain ⟨a, vs, rfl, k1, z1, d1⟩ := dat_scr q
      exact ⟨a, vs, rfl, .inl ⟨k1.sq, hR _ S1 H1 G1 _ st1 R1 (it_enu R1 k1 z1 d1) h2⟩⟩
theorem ji_zip (k : COk C fnm clm Γ N sc X W) {elts : List Expr} {kk : Nat} {tpos p pos : Pos} {e e2 : Expr} {ees : Es} (hg : Gl X "zip") (h : JA fnm clm X W [e, e2] (wEs Γ ees)) :
    JI fnm clm X W (.Tuple elts kk tpos) (.Call (.Name "zip" p) [e, e2] [] pos) (wI Γ (.zip ees)) := by
  obtain ⟨ss, ta, pa, ra⟩ := h
  refine ⟨_, RZ.pi_zip4 hg (blt_of k (by decide +kernel)) pa (star_no (ss e List.mem_cons_self) _ _) (star_all (fun y hy => ss y (List.mem_cons_of_mem _ hy)) _ _), fun S σ σD H G Rr QD XD R sl h hR hX => ?_⟩
  refine ra S σ σD H G _ _ XD R sl h (fun vs S1 H1 ds G1 hn st1 R1 r1 h1 => ?_) hX
  obtain ⟨zs, e3, h2⟩ := ok_of h1
  match ds, r1, e3 with
  | [.lst xs, .lst ys], r1, e3 =>
    cases e3
    obtain ⟨v, w, rfl, q1, q2⟩ := two_of r1
    obtain ⟨a, vs, rfl, k1, z1, d1⟩ := dat_lst q1
    obtain ⟨b, ws, rfl, k2, z2, d2⟩ := dat_lst q2
    exact ⟨a, b, vs, ws, rfl, .inl ⟨k1.sq, k2.sq, hR _ S1 H1 G1 _ st1 R1 (it_zip R1 k1 z1 d1 k2 d2) h2⟩⟩
  | [.lst xs, .scr ys], r1, e3 =>
    cases e3
    obtain ⟨v, w, rfl, q1, q2⟩ := two_of r1
    obtain ⟨a, vs, rfl, k1, z1, d1⟩ := dat_lst q1
    obtain ⟨b, ws, rfl, k2, z2, d2⟩ := dat_scr q2
    exact ⟨a, b, vs, ws, rfl, .inl ⟨k1.sq, k2.sq, hR _ S1 H1 G1 _ st1 R1 (it_zip R1 k1 z1 d1 k2 d2) h2⟩⟩
  | [.scr xs, .lst ys], r1, e3 =>
    cases e3
    obtain ⟨v, w, rfl, q1, q2⟩ := two_of r1
    obtain ⟨a, vs, rfl, k1, z1, d1⟩ := dat_scr q1
    obtain ⟨b, ws, rfl, k2, z2, d2⟩ := dat_lst q2
    exact ⟨a, b, vs, ws, rfl, .inl ⟨k1.sq, k2.sq, hR _ S1 H1 G1 _ st1 R1 (it_zip R1 k1 z1 d1 k2 d2) h2⟩⟩
  | [.scr xs, .scr ys], r1, e3 =>
    cases e3
    obtain ⟨v, w, rfl, q1, q2⟩ := two_of r1
    obtain ⟨a, vs, rfl, k1, z1, d1⟩ := dat_scr q1
    obtain ⟨b, ws, rfl, k2, z2, d2⟩ := dat_scr q2
    exact ⟨a, b, vs, ws, rfl, .inl ⟨k1.sq, k2.sq, hR _ S1 H1 G1 _ st1 R1 (it_zip R1 k1 z1 d1 k2 d2) h2⟩⟩
  | [.tup xs, .tup ys], r1, e3 =>
    cases e3
    obtain ⟨v, w, rfl, q1, q2⟩ := two_of r1
    obtain ⟨a, vs, rfl, k1, z1, d1⟩ := dat_tup q1
    obtain ⟨b, ws, rfl, k2, z2, d2⟩ := dat_tup q2
    exact ⟨a, b, vs, ws, rfl, .inr (.inl ⟨k1, k2, hR _ S1 H1 G1 _ st1 R1 (it_zipT R1 k1 z1 d1 k2 d2) h2⟩)⟩
  | [.lst xs, .tup ys], r1, e3 =>
    cases e3
    obtain ⟨v, w, rfl, q1, q2⟩ := two_of r1
    obtain ⟨a, vs, rfl, k1, z1, d1⟩ := dat_lst q1
    obtain ⟨b, ws, rfl, k2, z2, d2⟩ := dat_tup q2
    exact ⟨a, b, vs, ws, rfl, .inr (.inr (.inl ⟨k1.sq, k2, hR _ S1 H1 G1 _ st1 R1 (it_zipM (b := true) (c := false) R1 (fun S' H' G' st => (k1.keep (Keep.of R1 st)).sq) z1 d1 (fun S' H' G' st => (Keep.of R1 st).sqT k2) d2) h2⟩))⟩
  | [.tup xs, .lst ys], r1, e3 =>
    cases e3
    obtain ⟨v, w, rfl, q1, q2⟩ := two_of r1
    obtain ⟨a, vs, rfl, k1, z1, d1⟩ := dat_tup q1
    obtain ⟨b, ws, rfl, k2, z2, d2⟩ := dat_lst q2
    exact ⟨a, b, vs, ws, rfl, .inr (.inr (.inr ⟨k1, k2.sq, hR _ S1 H1 G1 _ st1 R1 (it_zipM (b := false) (c := true) R1 (fun S' H' G' st => (Keep.of R1 st).sqT k1) z1 d1 (fun S' H' G' st => (k2.keep (Keep.of R1 st)).sq) d2) h2⟩))⟩
theorem ji_rev (k : COk C fnm clm Γ N sc X W) {tg e : Expr} {p pos : Pos} {ee : E} (hg : Gl X "reversed") (he : JE fnm clm X W e (wE Γ ee)) :
    JI fnm clm X W tg (.Call (.Name "reversed" p) [e] [] pos) (wI Γ (.rev ee)) := by
  obtain ⟨s, ta, pa, ra⟩ := he
  refine ⟨_, RT.pi_revA hg (blt_of k (by decide +kernel)) pa (star_no s _ _), fun S σ σD H G Rr QD XD R sl h hR hX => ?_⟩
  refine ra S σ σD H G _ _ XD R sl h (fun v S1 H1 d G1 st1 R1 r1 h1 => ?_) hX
  obtain ⟨zs, e3, h2⟩ := ok_of h1
  cases d <;> try exact nomatch (show (none : Option (List D)) = some zs from e3)
  · cases e3
    obtain ⟨a, vs, rfl, k1, z1, d1⟩ := dat_tup r1
    exact ⟨a, vs, rfl, .inr ⟨k1, hR _ S1 H1 G1 _ st1 R1 (it_revT R1 k1 z1 d1) h2⟩⟩
  · cases e3
    obtain ⟨a, vs, rfl, k1, z1, d1⟩ := dat_lst r1
    exact ⟨a, vs, rfl, .inl ⟨k1.sq, hR _ S1 H1 G1 _ st1 R1 (it_rev R1 k1 z1 d1) h2⟩⟩
  · cases e3
    obtain ⟨a, vs, rfl, k1, z1, d1⟩ := dat_scr r1
    exact ⟨a, vs, rfl, .inl ⟨k1.sq, hR _ S1 H1 G1 _ st1 R1 (it_rev R1 k1 z1 d1) h2⟩⟩
/-! ### tuple(range(..)), list(range(..)) -/
theorem rgF_eq : ∀ (n : Nat) (lo : Int), rngF 1 n lo = (List.range n).map fun (i : Nat) => D.int (lo + i)
  | 0, _ => rfl
  | n + 1, lo => by
    rw [List.range_succ_eq_map, List.map_cons, List.map_map]
    show D.int lo :: rngF 1 n (lo + 1) = _
    rw [rgF_eq n (lo + 1)]
    congr 1
    · congr 1; omega
    · apply List.map_congr_left
      intro i _
      show D.int (lo + 1 + i) = D.int (lo + ((i + 1 : Nat) : Int))
      congr 1; omega
theorem rgV_dat {K : PySem.W.Frag} {fnm : Nat → Option Addr} {S : Addr → Option Bool} {H : Hp} {G : HD} (i j : Int) : DatAll K fnm S H G (rgV i j) (rngL (i, (j - i).toNat, 1)) := by
  unfold rgV rngL
  rw [rgF_eq]
  have : ∀ l : List Nat, DatAll K fnm S H G (l.map fun (k : Nat) => V.int (i + k)) (l.map fun (k : Nat) => D.int (i + k)) := by
    intro l
    induction l with
    | nil => exact .nil
    | cons a l ih => exact .cons (.int _) ih
  exact this _
/-- the object that such a call makes -/
def rgO (i j : Int) (H : Hp) (Q : VK) : Bool → Prop
  | true => NewP H (rgV i j) Q
  | false => ∀ q, H q = none → Q (.ref q) (upd H q (.lst (rgV i j)))
theorem rg_fin {z t : Bool} {i j : Int} {S : Addr → Option Bool} {H : Hp} {G : HD} {Q : VK} {QD : KD} (R : Hel X.K fnm clm S H G) (h : rgD z t i j G QD) (hQ : PostE X.K fnm clm S H G QD Q) :
    RgOk i j ∧ rgO i j H Q t := by
  obtain ⟨⟨⟨a1, a2⟩, a3, a4⟩, a5, h⟩ := h
  have e : (2 : Int) ^ 62 = 4611686018427387904 := by decide
  have hlim : lim = 16777216 := rfl
  refine ⟨⟨by rw [e]; exact a1, by rw [e]; exact a2, by rw [e]; exact a3, by rw [e]; exact a4, by show (j - i).toNat ≤ 16777216; omega⟩, ?_⟩
  have hz : (rgV i j).length ≤ sizeLine := by rw [rgV_length, lim_eq]; exact a5
  cases t with
  | true => exact new_tup R hz (rgV_dat i j) h hQ
  | false => exact new_list R hz (rgV_dat i j) h hQ
theorem je_rg1 (k : COk C fnm clm Γ N sc X W) {z t : Bool} {f : Str} {a : Expr} {p p2 pos pos2 : Pos} {ea : E} (hf : (match t with | true => "tuple" | false => "list") = f) (hg : Gl X f) (hr : Gl X "range") (ha : JE fnm clm X W a (wE Γ ea)) :
    JE fnm clm X W (.Call (.Name f p) [.Call (.Name "range" p2) [a] [] pos2] [] pos) (wE Γ (.rg1 z t ea)) := by
  obtain ⟨s, ta, pa, ra⟩ := ha
  have pr : PRg X (.Call (.Name "range" p2) [a] [] pos2) (tRg1 ta) := prg_1 hr (blt_of k (by decide +kernel)) pa (star_no s [] _)
  have main : ∀ S (σ : St') σD H G Q QD XD, Hel X.K fnm clm S H G → SlotOk X.K fnm S H G σ σD → wE Γ (.rg1 z t ea) σD G QD XD → PostE X.K fnm clm S H G QD Q → PostX X.K fnm clm W σ S H G XD →
      tRg1 ta σ H fun i j H1 => RgOk i j ∧ rgO i j H1 Q t := fun S σ σD H G Q QD XD R sl h hQ hX => by
    refine ra S σ σD H G _ _ XD R sl h (fun v S1 H1 d G1 st1 R1 r1 h1 => ?_) hX
    cases d <;> try exact h1.elim
    cases dat_int r1
    exact ⟨_, rfl, rg_fin R1 h1 (hQ.step st1)⟩
  cases t with
  | true => subst hf; exact ⟨rfl, _, pe_tupRgP k.calm hg (blt_of k (by decide +kernel)) pr rfl, main⟩
  | false => subst hf; exact ⟨rfl, _, pe_listRg k.calm hg (blt_of k (by decide +kernel)) pr, main⟩
theorem je_rg2 (k : COk C fnm clm Γ N sc X W) {z t : Bool} {f : Str} {a b : Expr} {p p2 pos pos2 : Pos} {ea eb : E} (hf : (match t with | true => "tuple" | false => "list") = f) (hg : Gl X f) (hr : Gl X "range") (ha : JE fnm clm X W a (wE Γ ea)) (hb : JE fnm clm X W b (wE Γ eb)) :
    JE fnm clm X W (.Call (.Name f p) [.Call (.Name "range" p2) [a, b] [] pos2] [] pos) (wE Γ (.rg2 z t ea eb)) := by
  obtain ⟨s, ta, pa, ra⟩ := ha
  obtain ⟨s2, tb, pb, rb⟩ := hb
  have pr : PRg X (.Call (.Name "range" p2) [a, b] [] pos2) (tRg2 ta tb) := prg_2 hr (blt_of k (by decide +kernel)) pa pb (star_no s [b] _) (star_no s2 [] _) (star_all (es := [b]) (fun e he => by rw [List.mem_singleton] at he; rw [he]; exact s2) _ _)
  have main : ∀ S (σ : St') σD H G Q QD XD, Hel X.K fnm clm S H G → SlotOk X.K fnm S H G σ σD → wE Γ (.rg2 z t ea eb) σD G QD XD → PostE X.K fnm clm S H G QD Q → PostX X.K fnm clm W σ S H G XD →
      tRg2 ta tb σ H fun i j H1 => RgOk i j ∧ rgO i j H1 Q t := fun S σ σD H G Q QD XD R sl h hQ hX => by
    refine ref2 ra rb R sl h (fun v v' S' H' d d' G' st R' r1 r2 h' => ?_) hX
    cases d <;> cases d' <;> try exact h'.elim
    cases dat_int r1; cases dat_int r2
    exact ⟨_, _, rfl, rfl, rg_fin R' h' (hQ.step st)⟩
  cases t with
  | true => subst hf; exact ⟨rfl, _, pe_tupRgP k.calm hg (blt_of k (by decide +kernel)) pr rfl, main⟩
  | false => subst hf; exact ⟨rfl, _, pe_listRg k.calm hg (blt_of k (by decide +kernel)) pr, main⟩
/-! ### comprehensions -/
def canE (K : PySem.W.Frag) (fnm clm : Nat → Option Addr) (W : WX) (t : StD → HD → KD → KX → Prop) : TE := fun σ H Q => ∃ S σD G QD XD, Hel K fnm clm S H G ∧ SlotOk K fnm S H G σ σD ∧ t σD G QD XD ∧ PostE K fnm clm S H G QD Q ∧ PostX K fnm clm W σ S H G XD
def canT (K : PySem.W.Frag) (fnm clm : Nat → Option Addr) (W : WX) (t : StD → HD → (Bool → HD → Prop) → KX → Prop) : TT := fun σ H Q => ∃ S σD G QD XD, Hel K fnm clm S H G ∧ SlotOk K fnm S H G σ σD ∧ t σD G QD XD ∧ PostT K fnm clm S H G QD Q ∧ PostX K fnm clm W σ S H G XD
def canG (K : PySem.W.Frag) (fnm clm : Nat → Option Addr) (t : Tgt) : TG := fun v σ H Q => ∃ S σD G d σD', Hel K fnm clm S H G ∧ SlotOk K fnm S H G σ σD ∧ Dat K fnm S H G v d ∧ asg t d σD = some σD' ∧ ∀ σ', SlotOk K fnm S H G σ' σD' → (∀ vs, tIn t vs = true → wipe σ' vs = wipe σ vs) → Q σ' H
theorem JE.can {e : Expr} {t : StD → HD → KD → KX → Prop} (h : JE fnm clm X W e t) : PE X e (canE X.K fnm clm W t) := by
  obtain ⟨_, te, pe, re⟩ := h
  exact ⟨fun pins s σ H Q I ⟨S, σD, G, QD, XD, R, sl, h, hQ, hX⟩ => pe.run pins s σ H Q I (re S σ σD H G Q QD XD R sl h hQ hX)⟩
theorem JT.can {e : Expr} {t : StD → HD → (Bool → HD → Prop) → KX → Prop} (h : JT fnm clm X W e t) : PT X e (canT X.K fnm clm W t) := by
  obtain ⟨te, pe, re⟩ := h
  exact ⟨fun pins s σ H Q I ⟨S, σD, G, QD, XD, R, sl, h, hQ, hX⟩ => pe.run pins s σ H Q I (re S σ σD H G Q QD XD R sl h hQ hX)⟩
theorem JG.can {e : Expr} {t : Tgt} (h : JG fnm clm X e t) : PG X e (canG X.K fnm clm t) := by
  obtain ⟨g, pg, rg⟩ := h
  exact ⟨fun pins s σ H v u Q I r ⟨S, σD, G, d, σD', R, sl, rd, e, h⟩ => pg.run pins s σ H v u Q I r (rg S σ σD H G v d Q σD' R sl rd e h)⟩
abbrev W0 : WX := fun _ _ _ _ => False
theorem COk.blk (k : COk C fnm clm Γ N sc X W) (s : Shared) (H : Hp) (scope : Scope) (cl : List (Str × Addr)) (D : Addr) (fp : List Addr) : COk C fnm clm Γ N (relS scope sc) (X.blk s H scope (compEnvC scope cl D X.env) fp) W0 := by
  refine ⟨k.hN, k.nd, ?_, k.calm, takes0, PassesOwn.never, k.fnk, k.blt, k.gls, k.dct, k.cls, k.grd, k.exm, k.ocs, k.isx⟩
  show relS scope X.env.scope = _
  rw [k.hsc]
theorem wipe_slots {K : PySem.W.Frag} {S : Addr → Option Bool} {H : Hp} {G : HD} {σ : St'} {σD : StD} (h : SlotOk K fnm S H G σ σD) : ∀ vs : List Nat, SlotOk K fnm S H G (wipe σ vs) (wipeD σD vs)
  | [] => h
  | v :: vs => (wipe_slots h vs).wipe1 v
end
end DL

namespace DL
open PySem PySem.Spec PyProof.Rows L2
section
variable {C : Cfg} {fnm clm : Nat → Option Addr} {Γ : Gam} {N : List Str} {sc : Scope} {X : Cx} {W : WX}
theorem wipe_idem {i : Nat} : ∀ {vs : List Nat} {σ : St'}, wipe (wipe σ vs) vs = wipe σ vs := by
  have out : ∀ {vs : List Nat} {σ : St'} (w : Nat), (wipe (σ.set w none) vs).set w none = (wipe σ vs).set w none := by
    intro vs
    induction vs with
    | nil => intro σ w; show (σ.set w none).set w none = _; rw [List.set_set]; rfl
    | cons v vs ih =>
      intro σ w
      show ((wipe (σ.set w none) vs).set v none).set w none = ((wipe σ vs).set v none).set w none
      by_cases e : v = w
      · subst e; rw [ih]
      · rw [List.set_comm _ _ e, ih w, List.set_comm _ _ (fun z => e z.symm)]
  intro vs
  induction vs with
  | nil => intro σ; rfl
  | cons v vs ih =>
    intro σ
    show (wipe ((wipe σ vs).set v none) vs).set v none = (wipe σ vs).set v none
    rw [out, ih]
abbrev lcStep (Γ : Gam) (g : Tgt) (c : T) (e : E) (σw : StD) : D → HD → (Option D → HD → Prop) → Prop := fun x H2 K => ok (asg g x σw) fun σ' =>
  wT Γ c σ' H2 (fun k H3 => match k with | true => wE Γ e σ' H3 (fun d H4 => K (some d) H4) (fun _ _ => False) | false => K none H3) (fun _ _ => False)
/-- the invariant of a comprehension -/
structure LcInv (K : PySem.W.Frag) (fnm clm : Nat → Option Addr) (S1 : Addr → Option Bool) (H1 : Hp) (G1 : HD) (D : Addr) (items : List DL.D) (P : List DL.D → List DL.D → HD → Prop) (i : Nat) (H : Hp) (S' : Addr → Option Bool) (G' : HD) (acc : List V) (accD : List DL.D) : Prop where
  at_ : H D = some (.lst acc)
  len : acc.length ≤ i
  res : S' D = some false
  st : Step S1 H1 G1 S' H G'
  R : Hel K fnm clm S' H G'
  dat : DatAll K fnm S' H G' acc accD
  go : P (items.drop i) accD G'
theorem lc_ref {z : Bool} {wi : TI} {it : I} {g : Tgt} {c : T} {e : E} {vs : List Nat} (ri : RefI X.K fnm clm W wi (wI Γ it)) (hin : tIn g vs = true) :
    RefE X.K fnm clm W (tLc wi (canG X.K fnm clm g) (canT X.K fnm clm W0 (wT Γ c)) (canE X.K fnm clm W0 (wE Γ e)) vs)
      (fun σ H Q X => wI Γ it σ H (fun items H1 => lcD (lcStep Γ g c e (wipeD σ vs)) (fun acc H2 => newL z acc H2 Q) items [] H1) X) := by
  intro S σ σD H G Q QD XD R sl h hQ hX
  refine ri S σ σD H G _ _ XD R sl h (fun J S1 H1 G1 items st1 R1 itk h1 => ?_) hX
  intro D hD
  have hD0 : H D = none := st1.there D hD
  have fr := R1.free hD
  let P : List DL.D → List DL.D → HD → Prop := fun xs acc H => lcD (lcStep Γ g c e (wipeD σD vs)) (fun acc H2 => newL z acc H2 QD) xs acc H
  refine ⟨fun i m H => m = items.length - i ∧ i ≤ items.length ∧ ∃ S' G' acc accD, LcInv X.K fnm clm S1 H1 G1 D items P i H S' G' acc accD,
    ⟨items.length, by omega, Nat.zero_le _, _, G1, [], [], upd_same, Nat.zero_le _, ?_, .reserve R1 hD, R1.reserve hD, .nil, h1⟩, ?_⟩
  · unfold resS; rw [if_pos rfl]
  · rintro i m H' ⟨rfl, hi, S', G', acc, accD, I⟩
    by_cases hlt : i < items.length
    · obtain ⟨x, hx⟩ : ∃ x, items[i]? = some x := ⟨items[i], List.getElem?_eq_getElem hlt⟩
      have hdrop : items.drop i = x :: items.drop (i + 1) := by
        rw [List.drop_eq_getElem_cons hlt]
        have : items[i] = x := by rw [List.getElem?_eq_getElem hlt] at hx; exact Option.some.inj hx
        rw [this]
      have hgo : ok (asg g x (wipeD σD vs)) fun σ' => wT Γ c σ' G' (fun k H3 => match k with
          | true => wE Γ e σ' H3 (fun d H4 => P (items.drop (i + 1)) (accD ++ [d]) H4) (fun _ _ => False)
          | false => P (items.drop (i + 1)) accD H3) (fun _ _ => False) := by
        have := I.go
        rw [hdrop] at this
        exact this
      obtain ⟨σD', ea, h2⟩ := ok_of hgo
      obtain ⟨go1, go2⟩ := itk.go S' H' G' I.st I.R i x hx
      refine .inr ⟨go1, fun H'' => ∃ S'' G'' acc' accD', LcInv X.K fnm clm S1 H1 G1 D items P (i + 1) H'' S'' G'' acc' accD', fun H'' w => ⟨items.length - (i + 1), by omega, rfl, hlt, w⟩, fun v H'' y => ?_⟩
      obtain ⟨st2, R2, rv⟩ := go2 v H'' y
      have stS : Step S H G S' H'' G' := (st1.trans I.st).trans st2
      refine ⟨S', wipeD σD vs, G', x, σD', R2, wipe_slots (sl.step R stS) vs, rv, ea, fun σ' sl' wp => ⟨?_, ?_⟩⟩
      · rw [wp vs hin, wipe_idem (i := 0)]
      · have hres : G' D = none := (R2.res D I.res).1
        have hat : H'' D = some (.lst acc) := st2.stay D _ I.at_ hres (by rw [I.res]; simp)
        refine ⟨S', σD', G', _, fun _ _ => False, R2, sl', h2, fun b S3 H3 G3 st3 R3 h3 => ?_, fun _ _ _ _ _ _ _ _ hf => hf⟩
        have hat3 : H3 D = some (.lst acc) := st3.stay D _ hat hres (by rw [I.res]; simp)
        have hres3 : S3 D = some false := st3.strm D _ I.res
        cases b with
        | true =>
          refine ⟨S3, σD', G3, _, fun _ _ => False, R3, sl'.step R2 st3, h3, fun w S4 H4 d G4 st4 R4 r4 h4 => ?_, fun _ _ _ _ _ _ _ _ hf => hf⟩
          have hat4 : H4 D = some (.lst acc) := st4.stay D _ hat3 (R3.res D hres3).1 (by rw [hres3]; simp)
          have hres4 : S4 D = some false := st4.strm D _ hres3
          have ka := Keep.change (o := .lst (acc ++ [w])) (G := G4) hat4 hres4
          refine ⟨acc, hat4, Nat.lt_of_le_of_lt I.len (Nat.lt_of_lt_of_le hlt itk.len), S4, G4, acc ++ [w], accD ++ [d], upd_same, ?_, hres4, ?_, R4.change hat4 hres4, ?_, h4⟩
          · rw [List.length_append]; have := I.len; simp; omega
          · exact (((I.st.trans st2).trans st3).trans st4).change hD
          · exact (((((I.dat.step I.R st2).step R2 st3).step R3 st4)).keep ka).append (.cons (r4.keep ka) .nil)
        | false =>
          exact ⟨S3, G3, acc, accD, hat3, Nat.le_succ_of_le I.len, hres3, (I.st.trans st2).trans st3, R3, (I.dat.step I.R st2).step R2 st3, h3⟩
    · have ei : i = items.length := by omega
      subst ei
      have hgo : newL z accD G' QD := by
        have := I.go
        rw [List.drop_length] at this
        exact this
      refine .inl ⟨itk.stop S' H' G' I.st I.R, ?_⟩
      have hz : acc.length ≤ sizeLine := Nat.le_trans I.len itk.len
      have sS : S D = none := (R.free hD0).2
      have gD : G' D = none := (I.R.res D I.res).1
      cases z with
      | true =>
        obtain ⟨k1, k2⟩ := I.R.letOut I.res
        exact hQ _ _ H' _ G' ((st1.trans I.st).letOut sS) k2 (.lst I.at_ gD (by unfold unS; rw [if_pos rfl]) hz (I.dat.keep k1)) hgo
      | false =>
        exact hQ _ _ H' _ _ ((st1.trans I.st).track sS hD0) (I.R.track I.at_ I.res hz I.dat) (.ref D) (hgo D gD)
theorem je_lc (k : COk C fnm clm Γ N sc X W) {z : Bool} {elt tg iter : Expr} {ifs : List Expr} {scope : Scope} {own : List (Str × Nat)} {pos : Pos} {e : E} {g : Tgt} {it : I} {c : T}
    (hok : BlkOk N sc scope own) (hset : ∀ elts kk p, iter ≠ .Set elts kk p) (hin : tIn g (own.map (·.2)) = true) (hi : JI fnm clm X W tg iter (wI Γ it))
    (hg : ∀ X', COk C fnm clm Γ N (relS scope sc) X' W0 → (X'.fn = fun x => scope.names.lookup x == some .cell) → X'.K = X.K → JG fnm clm X' tg g)
    (ht : ∀ X', COk C fnm clm Γ N (relS scope sc) X' W0 → X'.K = X.K → (ifs = [] ∧ c = .yes) ∨ ∃ cd, ifs = [cd] ∧ JT fnm clm X' W0 cd (wT Γ c))
    (he : ∀ X', COk C fnm clm Γ N (relS scope sc) X' W0 → X'.K = X.K → JE fnm clm X' W0 elt (wE Γ e)) :
    JE fnm clm X W (.ListComp elt [⟨tg, iter, ifs, 0⟩] scope pos) (wE Γ (.lc z e g it c own)) := by
  obtain ⟨wi, pi, ri⟩ := hi
  refine ⟨rfl, _, pe_lc (g := canG X.K fnm clm g) (tt := canT X.K fnm clm W0 (wT Γ c)) (te := canE X.K fnm clm W0 (wE Γ e)) k.calm (by rw [k.hN]; exact k.nd) pi (by rw [k.hN, k.hsc]; exact hok) (fun s H C' cl fp => (hg _ (k.blk s H scope cl C' fp) rfl rfl).can)
    (fun s H C' cl fp => ?_) (fun s H C' cl fp => (he _ (k.blk s H scope cl C' fp) rfl).can) ?_, lc_ref ri hin⟩
  · rcases ht _ (k.blk s H scope cl C' fp) rfl with ⟨rfl, rfl⟩ | ⟨cd, rfl, h⟩
    · refine ⟨fun pins s σ H Q I ⟨S, σD, G, QD, XD, R, sl, h, hQ, hX⟩ => pts_nil.run pins s σ H Q I (hQ true S H G .refl R h)⟩
    · exact pts_one h.can
  · intro x
    cases iter <;> first | rfl | exact absurd rfl (hset _ _ _)
end
end DL

namespace DL
open PySem PySem.Spec PyProof.Rows L2
/-! ### len({k: v for ..}) -/
section
variable {K : PySem.W.Frag} {fnm clm : Nat → Option Addr} {S : Addr → Option Bool} {H : Hp} {G : HD}
theorem Keep.changeD {p : Addr} {o : HO} {kvs : List (Key × V)} (h : H p = some (.dK kvs)) (s : S p = some false) : Keep S H G S (upd H p o) G := by
  refine ⟨fun a u e g s' => ⟨by rw [upd_ne (fun z => by rw [z, s] at s'; cases s')]; exact e, g, s'⟩, fun a ws e => ?_, fun a u w e => ?_, fun _ h => h⟩
  · rw [upd_ne (fun z => by rw [z, h] at e; cases e)]; exact e
  · rw [upd_ne (fun z => by rw [z, h] at e; cases e)]; exact e
theorem Hel.changeD (R : Hel K fnm clm S H G) {p : Addr} {o : HO} {kvs : List (Key × V)} (h : H p = some (.dK kvs)) (s : S p = some false) : Hel K fnm clm S (upd H p o) G := by
  have k : Keep S H G S (upd H p o) G := Keep.changeD h s
  refine ⟨fun a c e => (R.cell a c e).keep k (upd_ne fun z => by rw [z, (R.res p s).1] at e; cases e), fun a e => ?_, fun a e => ?_⟩
  · obtain ⟨g, q, ns, x, k', m, h1, h2, h3, h4, h5⟩ := R.rnd a e
    have n1 : a ≠ p := fun z => by rw [z, s] at e; cases e
    have n2 : q ≠ p := fun z => by rw [z, h] at h2; cases h2
    exact ⟨g, q, ns, x, k', m, by rw [upd_ne n1]; exact h1, by rw [upd_ne n2]; exact h2, h3, h4, h5⟩
  · obtain ⟨g, q⟩ := R.res a e
    refine ⟨g, ?_⟩
    by_cases z : a = p
    · subst z; rw [upd_same]; simp
    · rw [upd_ne z]; exact q
theorem key_dat {v : V} {d : D} {k : Key} (r : Dat K fnm S H G v d) (e : keyD d = some k) : v = kV k := by
  cases r <;> simp only [keyD] at e <;> first | cases e | skip
  all_goals rfl
end
theorem keys_putK (k : Key) (z : V) (kvs : List (Key × V)) : (putK kvs k z).map (·.1) = insK (kvs.map (·.1)) k := by
  unfold putK insK
  rw [List.any_map]
  show List.map _ (if (kvs.any fun kv => decide (kv.1 = k)) = true then _ else _) = if (kvs.any fun kv => decide (kv.1 = k)) = true then _ else _
  by_cases h : (kvs.any fun kv => decide (kv.1 = k)) = true
  · rw [if_pos h, if_pos h, List.map_map]
    apply List.map_congr_left
    intro p _
    show (if p.1 = k then (p.1, z) else p).1 = p.1
    split <;> rfl
  · rw [if_neg h, if_neg h, List.map_append]; rfl
section
variable {C : Cfg} {fnm clm : Nat → Option Addr} {Γ : Gam} {N : List Str} {sc : Scope} {X : Cx} {W : WX}
abbrev dcStep (Γ : Gam) (g : Tgt) (c : T) (e v : E) (σw : StD) : D → HD → (Option Key → HD → Prop) → Prop := fun x H2 K => ok (asg g x σw) fun σ' =>
  wT Γ c σ' H2 (fun k H3 => match k with | true => wE Γ e σ' H3 (fun d H4 => wE Γ v σ' H4 (fun _ H5 => ok (keyD d) fun k => K (some k) H5) (fun _ _ => False)) (fun _ _ => False) | false => K none H3) (fun _ _ => False)
structure DcInv (K : PySem.W.Frag) (fnm clm : Nat → Option Addr) (S1 : Addr → Option Bool) (H1 : Hp) (G1 : HD) (D : Addr) (items : List DL.D) (P : List DL.D → List Key → HD → Prop) (i : Nat) (H : Hp) (S' : Addr → Option Bool) (G' : HD) (acc : List (Key × V)) : Prop where
  at_ : H D = some (.dK acc)
  len : acc.length ≤ i
  res : S' D = some false
  st : Step S1 H1 G1 S' H G'
  R : Hel K fnm clm S' H G'
  go : P (items.drop i) (acc.map (·.1)) G'
theorem dc_ref {wi : TI} {it : I} {g : Tgt} {c : T} {e v : E} {vs : List Nat} (ri : RefI X.K fnm clm W wi (wI Γ it)) (hin : tIn g vs = true) :
    RefE X.K fnm clm W (fun σ H Q => tDc wi (canG X.K fnm clm g) (canT X.K fnm clm W0 (wT Γ c)) (canE X.K fnm clm W0 (wE Γ e)) (canE X.K fnm clm W0 (wE Γ v)) vs σ H fun x H1 => ∃ a kvs, [x] = [V.ref a] ∧ H1 a = some (.dK kvs) ∧ Q (.int kvs.length) H1)
      (fun σ H Q X => wI Γ it σ H (fun items H1 => dcD (dcStep Γ g c e v (wipeD σ vs)) (fun acc H2 => Q (.int (acc.length : Nat)) H2) items [] H1) X) := by
  intro S σ σD H G Q QD XD R sl h hQ hX
  refine ri S σ σD H G _ _ XD R sl h (fun J S1 H1 G1 items st1 R1 itk h1 => ?_) hX
  intro D hD
  have hD0 : H D = none := st1.there D hD
  let P : List DL.D → List Key → HD → Prop := fun xs acc H => dcD (dcStep Γ g c e v (wipeD σD vs)) (fun acc H2 => QD (.int (acc.length : Nat)) H2) xs acc H
  refine ⟨fun i m H => m = items.length - i ∧ i ≤ items.length ∧ ∃ S' G' acc, DcInv X.K fnm clm S1 H1 G1 D items P i H S' G' acc,
    ⟨items.length, by omega, Nat.zero_le _, _, G1, [], upd_same, Nat.zero_le _, ?_, .reserve R1 hD, R1.reserve hD, h1⟩, ?_⟩
  · unfold resS; rw [if_pos rfl]
  · rintro i m H' ⟨rfl, hi, S', G', acc, I⟩
    by_cases hlt : i < items.length
    · obtain ⟨x, hx⟩ : ∃ x, items[i]? = some x := ⟨items[i], List.getElem?_eq_getElem hlt⟩
      have hdrop : items.drop i = x :: items.drop (i + 1) := by
        rw [List.drop_eq_getElem_cons hlt]
        have : items[i] = x := by rw [List.getElem?_eq_getElem hlt] at hx; exact Option.some.inj hx
        rw [this]
      have hgo : ok (asg g x (wipeD σD vs)) fun σ' => wT Γ c σ' G' (fun k H3 => match k with
          | true => wE Γ e σ' H3 (fun d H4 => wE Γ v σ' H4 (fun _ H5 => ok (keyD d) fun k => P (items.drop (i + 1)) (insK (acc.map (·.1)) k) H5) (fun _ _ => False)) (fun _ _ => False)
          | false => P (items.drop (i + 1)) (acc.map (·.1)) H3) (fun _ _ => False) := by
        have := I.go
        rw [hdrop] at this
        exact this
      obtain ⟨σD', ea, h2⟩ := ok_of hgo
      obtain ⟨go1, go2⟩ := itk.go S' H' G' I.st I.R i x hx
      refine .inr ⟨go1, fun H'' => ∃ S'' G'' acc', DcInv X.K fnm clm S1 H1 G1 D items P (i + 1) H'' S'' G'' acc', fun H'' w => ⟨items.length - (i + 1), by omega, rfl, hlt, w⟩, fun u H'' y => ?_⟩
      obtain ⟨st2, R2, rv⟩ := go2 u H'' y
      have stS : Step S H G S' H'' G' := (st1.trans I.st).trans st2
      refine ⟨S', wipeD σD vs, G', x, σD', R2, wipe_slots (sl.step R stS) vs, rv, ea, fun σ' sl' wp => ⟨?_, ?_⟩⟩
      · rw [wp vs hin, wipe_idem (i := 0)]
      · have hres : G' D = none := (R2.res D I.res).1
        have hat : H'' D = some (.dK acc) := st2.stay D _ I.at_ hres (by rw [I.res]; simp)
        refine ⟨S', σD', G', _, fun _ _ => False, R2, sl', h2, fun b S3 H3 G3 st3 R3 h3 => ?_, fun _ _ _ _ _ _ _ _ hf => hf⟩
        have hat3 : H3 D = some (.dK acc) := st3.stay D _ hat hres (by rw [I.res]; simp)
        have hres3 : S3 D = some false := st3.strm D _ I.res
        cases b with
        | true =>
          refine ⟨S3, σD', G3, _, fun _ _ => False, R3, sl'.step R2 st3, h3, fun w S4 H4 d G4 st4 R4 r4 h4 => ?_, fun _ _ _ _ _ _ _ _ hf => hf⟩
          have hat4 : H4 D = some (.dK acc) := st4.stay D _ hat3 (R3.res D hres3).1 (by rw [hres3]; simp)
          have hres4 : S4 D = some false := st4.strm D _ hres3
          refine ⟨S4, σD', G4, _, fun _ _ => False, R4, (sl'.step R2 st3).step R3 st4, h4, fun w2 S5 H5 d2 G5 st5 R5 r5 h5 => ?_, fun _ _ _ _ _ _ _ _ hf => hf⟩
          have hat5 : H5 D = some (.dK acc) := st5.stay D _ hat4 (R4.res D hres4).1 (by rw [hres4]; simp)
          have hres5 : S5 D = some false := st5.strm D _ hres4
          obtain ⟨k, ek, h6⟩ := ok_of h5
          refine ⟨acc, k, key_dat r4 ek, hat5, Nat.lt_of_le_of_lt I.len (Nat.lt_of_lt_of_le hlt itk.len), S5, G5, putK acc k w2, upd_same, ?_, hres5, ?_, R5.changeD hat5 hres5, ?_⟩
          · have := length_putK acc k w2; have := I.len; omega
          · exact ((((I.st.trans st2).trans st3).trans st4).trans st5).change hD
          · rw [keys_putK]; exact h6
        | false =>
          exact ⟨S3, G3, acc, hat3, Nat.le_succ_of_le I.len, hres3, (I.st.trans st2).trans st3, R3, h3⟩
    · have ei : i = items.length := by omega
      subst ei
      have hgo : QD (.int ((acc.map (·.1)).length : Nat)) G' := by
        have := I.go
        rw [List.drop_length] at this
        exact this
      rw [List.length_map] at hgo
      refine .inl ⟨itk.stop S' H' G' I.st I.R, ?_⟩
      have sS : S D = none := (R.free hD0).2
      obtain ⟨k1, k2⟩ := I.R.letOut I.res
      exact ⟨D, acc, rfl, I.at_, hQ _ _ H' _ G' ((st1.trans I.st).letOut sS) k2 (.int _) hgo⟩
theorem je_dlen (k : COk C fnm clm Γ N sc X W) {kx vx tg iter : Expr} {ifs : List Expr} {scope : Scope} {own : List (Str × Nat)} {p pos cpos : Pos} {e v : E} {g : Tgt} {it : I} {c : T}
    (hgl : Gl X "len") (hok : BlkOk N sc scope own) (hset : ∀ elts kk p, iter ≠ .Set elts kk p) (hin : tIn g (own.map (·.2)) = true) (hi : JI fnm clm X W tg iter (wI Γ it))
    (hg : ∀ X', COk C fnm clm Γ N (relS scope sc) X' W0 → (X'.fn = fun x => scope.names.lookup x == some .cell) → X'.K = X.K → JG fnm clm X' tg g)
    (ht : ∀ X', COk C fnm clm Γ N (relS scope sc) X' W0 → X'.K = X.K → (ifs = [] ∧ c = .yes) ∨ ∃ cd, ifs = [cd] ∧ JT fnm clm X' W0 cd (wT Γ c))
    (he : ∀ X', COk C fnm clm Γ N (relS scope sc) X' W0 → X'.K = X.K → JE fnm clm X' W0 kx (wE Γ e))
    (hv : ∀ X', COk C fnm clm Γ N (relS scope sc) X' W0 → X'.K = X.K → JE fnm clm X' W0 vx (wE Γ v)) :
    JE fnm clm X W (.Call (.Name "len" p) [.DictComp kx vx [⟨tg, iter, ifs, 0⟩] scope pos] [] cpos) (wE Γ (.dlen e v g it c own)) := by
  obtain ⟨wi, pi, ri⟩ := hi
  have pe := pe_dc (ifs := ifs) (pos := pos) (g := canG X.K fnm clm g) (tt := canT X.K fnm clm W0 (wT Γ c)) (tk := canE X.K fnm clm W0 (wE Γ e)) (tv := canE X.K fnm clm W0 (wE Γ v)) k.calm (by rw [k.hN]; exact k.nd) pi (by rw [k.hN, k.hsc]; exact hok) (fun s H C' cl fp => (hg _ (k.blk s H scope cl C' fp) rfl rfl).can)
    (fun s H C' cl fp => by
      rcases ht _ (k.blk s H scope cl C' fp) rfl with ⟨rfl, rfl⟩ | ⟨cd, rfl, h⟩
      · exact ⟨fun pins s σ H Q I ⟨S, σD, G, QD, XD, R, sl, h, hQ, hX⟩ => pts_nil.run pins s σ H Q I (hQ true S H G .refl R h)⟩
      · exact pts_one h.can) (fun s H C' cl fp => (he _ (k.blk s H scope cl C' fp) rfl).can) (fun s H C' cl fp => (hv _ (k.blk s H scope cl C' fp) rfl).can)
    (by intro x; cases iter <;> first | rfl | exact absurd rfl (hset _ _ _))
  obtain ⟨b1, b2, b3⟩ := bf_names .len
  obtain ⟨n1, n2, n3⟩ := name_debug b2
  have pa := pa_cons pe pa_nil (star_no rfl [] X.env)
  have pc := pe_callB (pos := cpos) (p := p) (call_lenD (X := X)) hgl (blt_of k b1) b3 pa n3 n1 (star_no rfl [] X.env) rfl
  refine ⟨rfl, _, pc, fun S σ σD H G Q QD XD R sl h hQ hX => ?_⟩
  exact dc_ref (W := W) ri hin S σ σD H G Q QD XD R sl h hQ hX
end
end DL

namespace DL
open PySem PySem.Spec PyProof.Rows L2
/-! ### repr(x), where no repr runs -/
section
variable {X : Cx}
theorem call_rep (hg : X.A.guards = some []) (hu : X.A.units + 70 < cLine) : CallR X (.builtin "repr") (fun xs H Q => ∃ v d, xs = [v] ∧ Dp X.K H v d ∧ d.canLay0 = true ∧ d.showable = true ∧ d.depth ≤ 64 ∧ d.shown.length ≤ sizeLine ∧ Q (.str d.shown) H) := by
  intro pins s σ H xs us Q I r ⟨v, d, ex, hd, hc, hs, hp, hz, q⟩
  subst ex
  obtain ⟨u, eu, rx⟩ := vals1 r
  subst eu
  obtain ⟨as, rd⟩ := Dp.reads I d v u hd rx
  have big : ∀ {a : Addr}, Reads s.heap (.ref a) d as → wpAny (model X.prog X.w) X.A (call (.builtin "repr") [.ref a]) (EP X pins σ Q) X.xe s := fun {a} rd =>
    repr_of_reads' rd hs (PyData.noDict_hsm (PyData.hasDict_of_canLay d hc)) hg (by omega) (fun _ _ e => e) (fun h' u tk hk => ⟨.str _, H, I.kept hk, ⟨u, rfl⟩, q⟩) hz
  cases rd with
  | none => exact PySem.P.repr_of_none ⟨.str _, H, I.tok _, ⟨_, rfl⟩, by simpa only [PyData.shown] using q⟩
  | bool b => exact PySem.P.repr_of_bool ⟨.str _, H, I.tok _, ⟨_, rfl⟩, by simpa only [PyData.shown] using q⟩
  | int i t => exact PySem.P.repr_of_int (by simpa [PyData.showable] using hs) ⟨.str _, H, I.tok _, ⟨_, rfl⟩, by simpa only [PyData.shown] using q⟩
  | str x t => exact PySem.P.repr_of_str ⟨.str _, H, I.tok _, ⟨_, rfl⟩, by simpa only [PyData.shown] using q⟩ (by simpa only [PyData.shown] using hz)
  | list h1 h2 h3 h4 => exact big (.list h1 h2 h3 h4)
  | tuple h1 h2 h3 h4 => exact big (.tuple h1 h2 h3 h4)
  | dict h1 h2 h3 h4 h5 => exact big (.dict h1 h2 h3 h4 h5)
end
section
variable {C : Cfg} {fnm clm : Nat → Option Addr} {Γ : Gam} {N : List Str} {sc : Scope} {X : Cx} {W : WX}
theorem je_rep (k : COk C fnm clm Γ N sc X W) {e : Expr} {p pos : Pos} {ee : E} (hr : C.rp = true) (hg : Gl X "repr") (h : JE fnm clm X W e (wE Γ ee)) : JE fnm clm X W (.Call (.Name "repr" p) [e] [] pos) (wE Γ (.rep ee)) := by
  obtain ⟨ss, ta, pa, ra⟩ := h
  obtain ⟨m, hroom, _⟩ := k.fnk
  have hu : X.A.units + 70 < cLine := by have := hroom.r.un; omega
  refine ⟨rfl, _, pe_callB (call_rep k.grd hu) hg (blt_of k (by decide +kernel)) (by decide +kernel) (pa_cons pa pa_nil (star_no ss _ _)) (by decide) (by decide) (star_no ss _ _) rfl, fun S σ σD H G Q QD XD R sl h hQ hX => ?_⟩
  refine ra S σ σD H G _ _ XD R sl h (fun v S1 H1 d G1 st1 R1 r1 h1 => ?_) hX
  obtain ⟨p, e1, h2⟩ := ok_of h1
  obtain ⟨⟨a1, a2, a3, a4⟩, q⟩ := h2
  obtain ⟨k1, k2⟩ := dpT_of R1 r1 e1
  have em := mkStr_of p.shown
  have r2 : Dat X.K fnm S1 H1 G1 (.str (mkStr p.shown.cps.toList)) (.str p.shown.cps.toList) := .str _ (by rw [em]; exact a4) (by rw [lim_eq]; exact a3)
  rw [em] at r2
  exact ⟨v, p, rfl, k1, k2, a1, a2, by rw [lim_eq]; exact a3, (hQ.step st1).here R1 r2 q⟩
end
end DL

namespace DL
open PySem PySem.Spec PyProof.Rows L2
/-! ### dict(a tuple of pairs)[k] -/
section
variable {X : Cx}
theorem SqP.plain {pins : List (Addr × Obj)} {σ : L2.St} {H : Hp} {s : Shared} (I : Inv X pins σ H s) {a : Addr} {xs : List V} (h : SqP X.K H a xs) : ∃ its : List Value, Vals xs its ∧ PlainSeq "tuple" s.heap a its.toArray := by
  rcases h with ⟨ob, e, hd⟩ | ⟨ob, arr, m, e1, e2, e3, e4, _, e6⟩
  · obtain ⟨got, _, its, rv, o', e', hc, n, hdat⟩ := I.hok a _ e
    rw [got] at e'
    cases e'
    exact ⟨its, rv, ob, n, got, hc, hd, hdat⟩
  · exact ⟨arr.toList, e6, ob, m, I.kIn a ob e1, e2, e3, by rw [e4, Array.toArray_toList]⟩
theorem pairs2 {pins : List (Addr × Obj)} {σ : L2.St} {H : Hp} {s : Shared} (I : Inv X pins σ H s) : ∀ {ps : List Addr} {kvs : List (Key × V)}, Paired (fun p kv => SqT X.K H p [kV kv.1, kv.2]) ps kvs →
    ∃ (vps : List (Value × Value)) (prs : List (Key × Value)), KV kvs prs ∧ vps.length = ps.length ∧ prs.length = ps.length ∧
      ∀ (j : Nat) (u v : Value), vps[j]? = some (u, v) → ∃ (b : Addr) (k : Key), ps[j]? = some b ∧ IsTup s.heap b #[u, v] ∧ prs[j]? = some (k, v) ∧ keyIs k u = true := by
  intro ps kvs h
  induction h with
  | nil => exact ⟨[], [], .nil, rfl, rfl, fun j u v e => by simp at e⟩
  | cons h t ih =>
    rename_i p kv ps kvs
    obtain ⟨vps, prs, r, l1, l2, each⟩ := ih
    obtain ⟨its, rv, ht, _⟩ := I.tuple h
    obtain ⟨u, y, e, ru, ry⟩ := vals2 rv
    subst e
    refine ⟨(u, y) :: vps, (kv.1, y) :: prs, .cons ⟨rfl, ry⟩ r, by simp [l1], by simp [l2], fun j a b e => ?_⟩
    cases j with
    | zero =>
      obtain ⟨rfl, rfl⟩ := Prod.mk.inj (Option.some.inj e)
      exact ⟨p, kv.1, rfl, ht, rfl, kV_is (P := X.prog) (w := X.w) ru⟩
    | succ j => exact each j a b (by simpa using e)
/-- dict(t), t a tuple of pairs -/
theorem call_dictT (hcalm : X.calm = true) : CallR X (.type "dict") (fun xs H Q => ∃ (a : Addr) (ps : List Addr) (kvs : List (Key × V)), xs = [.ref a] ∧ SqP X.K H a (ps.map V.ref) ∧ Paired (fun p kv => SqT X.K H p [kV kv.1, kv.2]) ps kvs ∧ ps.length ≤ sizeLine ∧
    ∀ p, H p = none → Q (.ref p) (upd H p (.dK (mergeK [] kvs)))) := by
  rintro pins s σ H xs us Q I r ⟨a, ps, kvs, ex, hq, hp, hz, go⟩
  subst ex
  obtain ⟨u, eu, rx⟩ := vals1 r
  subst eu
  obtain rfl : u = .ref a := rx
  obtain ⟨its, rv, pl⟩ := hq.plain I
  have e1 := refs_at rv
  subst e1
  obtain ⟨vps, prs, rel, l1, l2, each⟩ := pairs2 I hp
  have items : PairItems s.heap (ps.map Value.ref).toArray (fun j => ps.getD j 0) vps := by
    refine ⟨by simp [l1], fun j k v e => ?_⟩
    obtain ⟨b, kk, h1, h2, _⟩ := each j k v e
    have hj : ps.getD j 0 = b := by rw [List.getD_eq_getElem?_getD, h1]; rfl
    simp only [hj]
    exact ⟨by simp [h1], .inl h2⟩
  refine PySem.call_dict_pairs (knd := mixKind X.prog X.w) (kvs := prs) (PairArg.tuple (prog := X.prog) (w := X.w) a (ps.map Value.ref).toArray (fun j => ps.getD j 0) vps) (I.ok.hd hcalm) ⟨pl, items⟩ ⟨by rw [l2, l1], fun j k v e => ?_⟩ (by rw [l1]; exact hz) fun h' tk hd' keep => ?_
  · obtain ⟨b, kk, _, _, h3, h4⟩ := each j k v e
    exact ⟨kk, h3, h4⟩
  · have notSys : (s.heap.objs.size == sysModules) = false := beq_eq_false_iff_ne.mpr (Nat.ne_of_gt I.big)
    have short : (mergeK [] kvs).length ≤ sizeLine := by
      have q1 := length_mergeK kvs []
      have q2 := rel.length
      simp at q1
      omega
    refine ⟨.ref s.heap.objs.size, upd H s.heap.objs.size (.dK (mergeK [] kvs)), I.laid (t' := tk) (fun b o e => keep b o (by simp) e) (Nat.le_refl _) ?_, rfl, go _ (I.hok.fresh (Nat.le_refl _))⟩
    exact ⟨short, notSys, merged [] prs, KV.merge rel .nil, hd'⟩
end
theorem merge_new : ∀ (more acc : List (Key × V)), ((acc ++ more).map Prod.fst).Nodup → mergeK acc more = acc ++ more
  | [], acc, _ => by rw [List.append_nil]; rfl
  | kv :: more, acc, h => by
    have hk : (acc.any fun x => decide (x.1 = kv.1)) = false := by
      rw [List.any_eq_false]
      intro x hx hq
      rw [List.map_append, List.map_cons] at h
      have hd := (List.nodup_append.mp h).2.2 x.1 (List.mem_map_of_mem hx) kv.1 List.mem_cons_self
      exact hd (of_decide_eq_true hq)
    show mergeK (putK acc kv.1 kv.2) more = _
    have e : putK acc kv.1 kv.2 = acc ++ [kv] := by
      unfold putK
      rw [hk]
      rfl
    rw [e, merge_new more (acc ++ [kv]) (by rw [List.append_assoc]; exact h), List.append_assoc]
    rfl
theorem find_new {α : Type} : ∀ {kvs : List (Key × α)} {j : Nat} {k : Key} {w : α}, (kvs.map Prod.fst).Nodup → kvs[j]? = some (k, w) → (kvs.find? fun kv => decide (kv.1 = k)) = some (k, w)
  | [], j, k, w, _, e => by simp at e
  | kv :: kvs, 0, k, w, _, e => by
    obtain rfl := Option.some.inj e
    rw [List.find?_cons_of_pos (by simp)]
  | kv :: kvs, j + 1, k, w, h, e => by
    rw [List.map_cons, List.nodup_cons] at h
    have e : kvs[j]? = some (k, w) := by simpa using e
    have hne : kv.1 ≠ k := fun z => h.1 (by rw [z]; exact List.mem_map.mpr ⟨(k, w), List.mem_of_getElem? e, rfl⟩)
    rw [List.find?_cons_of_neg (by simpa using hne)]
    exact find_new h.2 e
section
variable {K : PySem.W.Frag} {fnm clm : Nat → Option Addr} {S : Addr → Option Bool} {H : Hp} {G : HD}
theorem prs_of : ∀ {vs : List V} {ds : List D} {ps : List (List Nat × D)}, DatAll K fnm S H G vs ds → prsD ds = some ps →
    ∃ (as : List Addr) (kvs : List (Key × V)), vs = as.map V.ref ∧ Paired (fun p kv => SqT K H p [kV kv.1, kv.2]) as kvs ∧ kvs.map Prod.fst = ps.map (fun p => (Sum.inr (mkStr p.1) : Key)) ∧
      ∀ (j : Nat) (p : List Nat × D), ps[j]? = some p → ∃ w, kvs[j]? = some (Sum.inr (mkStr p.1), w) ∧ Dat K fnm S H G w p.2
  | _, [], ps, .nil, e => by
    cases e
    exact ⟨[], [], rfl, .nil, rfl, fun j p e => by simp at e⟩
  | _, d :: ds, ps, .cons (v := v) (vs := vs) r t, e => by
    have hd : ∃ s x qs, d = .tup [.str s, x] ∧ prsD ds = some qs ∧ ps = (s, x) :: qs := by
      unfold prsD at e
      split at e
      · rename_i h; cases h
      · rename_i s x ds' h
        obtain ⟨rfl, rfl⟩ := List.cons.inj h
        cases q : prsD ds with
        | none => rw [q] at e; cases e
        | some qs => rw [q] at e; exact ⟨s, x, qs, rfl, rfl, (Option.some.inj e).symm⟩
      · cases e
    obtain ⟨s, x, qs, rfl, e2, rfl⟩ := hd
    obtain ⟨as, kvs, h1, h2, h3, h4⟩ := prs_of t e2
    obtain ⟨a, us, rfl, hq, _, ru⟩ := dat_tup r
    obtain ⟨v1, v2, rfl, r1, r2⟩ : ∃ v1 v2, us = [v1, v2] ∧ Dat K fnm S H G v1 (.str s) ∧ Dat K fnm S H G v2 x := by
      cases ru with
      | cons r1 t1 =>
        cases t1 with
        | cons r2 t2 => cases t2; exact ⟨_, _, rfl, r1, r2⟩
    obtain ⟨rfl, _, _⟩ := dat_str r1
    refine ⟨a :: as, (Sum.inr (mkStr s), v2) :: kvs, by rw [h1]; rfl, .cons hq h2, by simp [h3], fun j p e => ?_⟩
    cases j with
    | zero =>
      obtain rfl := Option.some.inj e
      exact ⟨v2, rfl, r2⟩
    | succ j => exact h4 j p (by simpa using e)
end
section
variable {C : Cfg} {fnm clm : Nat → Option Addr} {Γ : Gam} {N : List Str} {sc : Scope} {X : Cx} {W : WX}
theorem noSl {b : Expr} (h : isSlice b = false) : NoSl b := by
  unfold NoSl
  cases b <;> first | trivial | (intros; rfl) | cases h
theorem je_dix (k : COk C fnm clm Γ N sc X W) {a b : Expr} {p p2 pos : Pos} {ea eb : E} (hg : Gl X "dict") (hs : isSlice b = false) (ha : JE fnm clm X W a (wE Γ ea)) (hb : JE fnm clm X W b (wE Γ eb)) :
    JE fnm clm X W (.Subscript (.Call (.Name "dict" p) [a] [] p2) b pos) (wE Γ (.dix ea eb)) := by
  obtain ⟨ss, ta, pa, ra⟩ := ha
  obtain ⟨_, tb, pb, rb⟩ := hb
  have hu : X.A.units + 1 < cLine := by have := k.hu; omega
  have pd : PE X (.Call (.Name "dict" p) [a] [] p2) _ := pe_callTy (call_dictT k.calm) hg (blt_of k (by decide +kernel)) (by decide +kernel) (pa_cons pa pa_nil (star_no ss _ _)) (by decide) (by decide) (star_no ss _ _) rfl
  refine ⟨rfl, _, pe_dget hu pd pb (noSl hs), fun S σ σD H G Q QD XD R sl h hQ hX => ?_⟩
  refine ra S σ σD H G _ _ XD R sl h (fun v S1 H1 d G1 st1 R1 r1 h1 => ?_) hX
  obtain ⟨ps, e1, h2⟩ := ok_of h1
  obtain ⟨ds, rfl, e2, nd⟩ : ∃ ds, d = .tup ds ∧ prsD ds = some ps ∧ (ps.map Prod.fst).Nodup := by
    unfold drsD at e1
    split at e1
    · rename_i ds
      split at e1
      · rename_i qs q
        split at e1
        · rename_i n
          cases e1
          exact ⟨ds, rfl, q, n⟩
        · cases e1
      · cases e1
    · cases e1
  obtain ⟨a', vs, rfl, hq, hz, rd⟩ := dat_tupP r1
  obtain ⟨as, kvs, rfl, pr, keys, each⟩ := prs_of rd e2
  have nk : (kvs.map Prod.fst).Nodup := by
    rw [keys]
    have e : ps.map (fun p => (Sum.inr (mkStr p.1) : Key)) = (ps.map Prod.fst).map (fun s => (Sum.inr (mkStr s) : Key)) := by rw [List.map_map]; rfl
    rw [e]
    exact List.pairwise_map.mpr (List.Pairwise.imp (fun hne z => hne (mkStr_inj (Sum.inr.inj z))) nd)
  refine ⟨a', as, kvs, rfl, hq, pr, by simpa using hz, fun q hn => ?_⟩
  rw [merge_new kvs [] nk, List.nil_append]
  have st2 : Step S1 H1 G1 (resS S1 q) (upd H1 q (.dK kvs)) G1 := Step.reserve R1 hn
  have R2 : Hel X.K fnm clm (resS S1 q) (upd H1 q (.dK kvs)) G1 := R1.reserve hn
  refine rb _ σ σD _ G1 _ _ XD R2 ((sl.step R st1).step R1 st2) h2 (fun y S3 H3 dy G3 st3 R3 r3 h3 => ?_) ((hX.step st1).step st2)
  obtain ⟨dv, e3, h4⟩ := ok_of h3
  obtain ⟨s, rfl, hf⟩ : ∃ s, dy = .str s ∧ (ps.find? fun p => decide (p.1 = s)).map Prod.snd = some dv := by
    cases dy <;> first | exact ⟨_, rfl, e3⟩ | cases e3
  obtain ⟨rfl, _, _⟩ := dat_str r3
  obtain ⟨pp, hf1, rfl⟩ := Option.map_eq_some_iff.mp hf
  have hs1 : pp.1 = s := by
    have := List.find?_some hf1
    simpa using this
  obtain ⟨j, hj, ej⟩ := List.getElem_of_mem (List.mem_of_find?_eq_some hf1)
  obtain ⟨w, k1, k2⟩ := each j pp (by rw [List.getElem?_eq_getElem hj, ej])
  rw [hs1] at k1
  have live : H3 q = some (.dK kvs) := st3.stay q _ upd_same (R1.free hn).1 (by unfold resS; rw [if_pos rfl]; simp)
  have hv : valV kvs (Sum.inr (mkStr s)) = some w := by
    unfold valV
    rw [find_new nk k1]
    rfl
  refine ⟨q, w, rfl, ?_, ((hQ.step st1).step st2).step st3 |>.here R3 ((k2.step R1 st2).step R2 st3) h4⟩
  rw [← hv]
  exact DGet.k (k := Sum.inr (mkStr s)) live
end
end DL

namespace DL
open PySem PySem.Spec PyProof.Rows L2
/-! ### comprehensions over a live list that stays as it is meanwhile -/
section
variable (K : PySem.W.Frag) (fnm clm : Nat → Option Addr)
structure ItLv (gd : HD → Prop) (J : It) (S : Addr → Option Bool) (H : Hp) (G : HD) (items : List D) : Prop where
  len : items.length ≤ sizeLine
  go : ∀ S' H' G', Step S H G S' H' G' → Hel K fnm clm S' H' G' → gd G' → ∀ i d, items[i]? = some d → J.go i H' ∧ ∀ x H'', J.yld i H' x H'' → Step S' H' G' S' H'' G' ∧ Hel K fnm clm S' H'' G' ∧ Dat K fnm S' H'' G' x d
  stop : ∀ S' H' G', Step S H G S' H' G' → Hel K fnm clm S' H' G' → gd G' → J.stop items.length H'
def RefLv (W : WX) (wi : TI) (t : StD → HD → KD → KX → Prop) : Prop :=
  ∀ S (σ : St') σD H G (R : It → Hp → Prop) (QD : D → List D → HD → Prop) XD, Hel K fnm clm S H G → SlotOk K fnm S H G σ σD → t σD G (fun d G1 => ok (lvD d G1) fun ds => QD d ds G1) XD →
    (∀ J S' H' G' d items, Step S H G S' H' G' → Hel K fnm clm S' H' G' → ItLv K fnm clm (gdD d items) J S' H' G' items → QD d items G' → R J H') → PostX K fnm clm W σ S H G XD → wi σ H R
end
section
variable {C : Cfg} {fnm clm : Nat → Option Addr} {Γ : Gam} {N : List Str} {sc : Scope} {X : Cx} {W : WX}
theorem ItOk.g {K : PySem.W.Frag} {gd : HD → Prop} {J : It} {S : Addr → Option Bool} {H : Hp} {G : HD} {items : List D} (h : ItOk K fnm clm J S H G items) : ItLv K fnm clm gd J S H G items :=
  ⟨h.len, fun S' H' G' st R _ => h.go S' H' G' st R, fun S' H' G' st R _ => h.stop S' H' G' st R⟩
theorem it_live {K : PySem.W.Frag} {S : Addr → Option Bool} {H : Hp} {G : HD} {a : Addr} {ds : List D} (R : Hel K fnm clm S H G) (h : G a = some (.lst ds)) : ItLv K fnm clm (gdD (.ref a) ds) (Itl K a) S H G ds := by
  obtain ⟨vs0, _, z0, r0⟩ := cell_l R h
  refine ⟨by rw [← r0.length]; exact z0, fun S' H' G' st R' gd i d e => ?_, fun S' H' G' st R' gd => ?_⟩
  · obtain ⟨vs, h1, _, r⟩ := cell_l R' gd
    obtain ⟨v, e1, e2⟩ := r.get e
    refine ⟨⟨vs, v, .inl (.inl h1), e1⟩, fun x H'' y => ?_⟩
    obtain ⟨rfl, y⟩ := y
    have := y vs (.inl (.inl h1))
    rw [e1] at this; cases this
    exact ⟨.refl, R', e2⟩
  · obtain ⟨vs, h1, _, r⟩ := cell_l R' gd
    exact ⟨vs, .inl (.inl h1), by rw [r.length]; exact Nat.le_refl _⟩
def JG2 (fnm clm : Nat → Option Addr) (X : Cx) (W : WX) (tg e : Expr) (t : StD → HD → KD → KX → Prop) : Prop := ∃ te, PI X tg e te ∧ RefLv X.K fnm clm W te t
theorem jg_of {tg e : Expr} {ee : E} (he : JE fnm clm X W e (wE Γ ee)) : JG2 fnm clm X W tg e (wE Γ ee) := by
  obtain ⟨s, ta, pa, ra⟩ := he
  refine ⟨_, pi_any pa, fun S σ σD H G Rr QD XD R sl h hR hX => ?_⟩
  refine ra S σ σD H G _ _ XD R sl h (fun v S1 H1 d G1 st1 R1 r1 h1 => ?_) hX
  obtain ⟨ds, e1, h2⟩ := ok_of h1
  clear h1
  cases d <;> try exact nomatch (show (none : Option (List D)) = some ds from e1)
  · cases e1
    obtain ⟨rfl, k, z⟩ := dat_str r1
    exact .inr (.inr ⟨_, rfl, hR _ S1 H1 G1 _ _ st1 R1 (it_str k z).g h2⟩)
  · cases e1
    obtain ⟨a, vs, rfl, k2, z, r⟩ := dat_tup r1
    exact .inr (.inl ⟨a, rfl, ⟨vs, k2⟩, hR _ S1 H1 G1 _ _ st1 R1 (it_tup R1 k2 z r).g h2⟩)
  · cases e1
    obtain ⟨a, vs, rfl, k2, z, r⟩ := dat_tpl r1
    exact .inr (.inl ⟨a, rfl, ⟨vs, k2⟩, hR _ S1 H1 G1 _ _ st1 R1 (it_tup R1 k2 z r).g h2⟩)
  · cases e1
    obtain ⟨a, vs, rfl, k2, z, r⟩ := dat_lst r1
    exact .inl ⟨a, rfl, ⟨vs, k2.sq⟩, hR _ S1 H1 G1 _ _ st1 R1 (it_list R1 k2 z r).g h2⟩
  · rename_i a
    cases dat_ref r1
    have hg : G1 a = some (.lst ds) := by
      have e1 : (match G1 a with | some (.lst ds) => some ds | _ => none) = some ds := e1
      split at e1
      · rename_i q; cases e1; exact q
      · cases e1
    obtain ⟨vs, k2, z, r⟩ := cell_l R1 hg
    exact .inl ⟨a, rfl, ⟨vs, .inl (.inl k2)⟩, hR _ S1 H1 G1 _ _ st1 R1 (it_live R1 hg) h2⟩
  · cases e1
    obtain ⟨a, vs, rfl, k2, z, r⟩ := dat_scr r1
    exact .inl ⟨a, rfl, ⟨vs, k2.sq⟩, hR _ S1 H1 G1 _ _ st1 R1 (it_list R1 k2 z r).g h2⟩
theorem lcl_ref {z : Bool} {wi : TI} {g : Tgt} {c : T} {e a : E} {vs : List Nat} (ri : RefLv X.K fnm clm W wi (wE Γ a)) (hin : tIn g vs = true) :
    RefE X.K fnm clm W (tLc wi (canG X.K fnm clm g) (canT X.K fnm clm W0 (wT Γ c)) (canE X.K fnm clm W0 (wE Γ e)) vs)
      (fun σ H Q X => wE Γ a σ H (fun d H1 => ok (lvD d H1) fun items => lcD (fun x H2 K => gdD d items H2 ∧ lcStep Γ g c e (wipeD σ vs) x H2 K) (fun acc H2 => gdD d items H2 ∧ newL z acc H2 Q) items [] H1) X) := by
  intro S σ σD H G Q QD XD R sl h hQ hX
  refine ri S σ σD H G _ _ XD R sl h (fun J S1 H1 G1 dl items st1 R1 itk h1 => ?_) hX
  intro D hD
  have hD0 : H D = none := st1.there D hD
  have fr := R1.free hD
  let P : List DL.D → List DL.D → HD → Prop := fun xs acc H => lcD (fun x H2 K => gdD dl items H2 ∧ lcStep Γ g c e (wipeD σD vs) x H2 K) (fun acc H2 => gdD dl items H2 ∧ newL z acc H2 QD) xs acc H
  refine ⟨fun i m H => m = items.length - i ∧ i ≤ items.length ∧ ∃ S' G' acc accD, LcInv X.K fnm clm S1 H1 G1 D items P i H S' G' acc accD,
    ⟨items.length, by omega, Nat.zero_le _, _, G1, [], [], upd_same, Nat.zero_le _, ?_, .reserve R1 hD, R1.reserve hD, .nil, h1⟩, ?_⟩
  · unfold resS; rw [if_pos rfl]
  · rintro i m H' ⟨rfl, hi, S', G', acc, accD, I⟩
    by_cases hlt : i < items.length
    · obtain ⟨x, hx⟩ : ∃ x, items[i]? = some x := ⟨items[i], List.getElem?_eq_getElem hlt⟩
      have hdrop : items.drop i = x :: items.drop (i + 1) := by
        rw [List.drop_eq_getElem_cons hlt]
        have : items[i] = x := by rw [List.getElem?_eq_getElem hlt] at hx; exact Option.some.inj hx
        rw [this]
      have hgo : gdD dl items G' ∧ ok (asg g x (wipeD σD vs)) fun σ' => wT Γ c σ' G' (fun k H3 => match k with
          | true => wE Γ e σ' H3 (fun d H4 => P (items.drop (i + 1)) (accD ++ [d]) H4) (fun _ _ => False)
          | false => P (items.drop (i + 1)) accD H3) (fun _ _ => False) := by
        have := I.go
        rw [hdrop] at this
        exact this
      obtain ⟨gd, hgo⟩ := hgo
      obtain ⟨σD', ea, h2⟩ := ok_of hgo
      obtain ⟨go1, go2⟩ := itk.go S' H' G' I.st I.R gd i x hx
      refine .inr ⟨go1, fun H'' => ∃ S'' G'' acc' accD', LcInv X.K fnm clm S1 H1 G1 D items P (i + 1) H'' S'' G'' acc' accD', fun H'' w => ⟨items.length - (i + 1), by omega, rfl, hlt, w⟩, fun v H'' y => ?_⟩
      obtain ⟨st2, R2, rv⟩ := go2 v H'' y
      have stS : Step S H G S' H'' G' := (st1.trans I.st).trans st2
      refine ⟨S', wipeD σD vs, G', x, σD', R2, wipe_slots (sl.step R stS) vs, rv, ea, fun σ' sl' wp => ⟨?_, ?_⟩⟩
      · rw [wp vs hin, wipe_idem (i := 0)]
      · have hres : G' D = none := (R2.res D I.res).1
        have hat : H'' D = some (.lst acc) := st2.stay D _ I.at_ hres (by rw [I.res]; simp)
        refine ⟨S', σD', G', _, fun _ _ => False, R2, sl', h2, fun b S3 H3 G3 st3 R3 h3 => ?_, fun _ _ _ _ _ _ _ _ hf => hf⟩
        have hat3 : H3 D = some (.lst acc) := st3.stay D _ hat hres (by rw [I.res]; simp)
        have hres3 : S3 D = some false := st3.strm D _ I.res
        cases b with
        | true =>
          refine ⟨S3, σD', G3, _, fun _ _ => False, R3, sl'.step R2 st3, h3, fun w S4 H4 d G4 st4 R4 r4 h4 => ?_, fun _ _ _ _ _ _ _ _ hf => hf⟩
          have hat4 : H4 D = some (.lst acc) := st4.stay D _ hat3 (R3.res D hres3).1 (by rw [hres3]; simp)
          have hres4 : S4 D = some false := st4.strm D _ hres3
          have ka := Keep.change (o := .lst (acc ++ [w])) (G := G4) hat4 hres4
          refine ⟨acc, hat4, Nat.lt_of_le_of_lt I.len (Nat.lt_of_lt_of_le hlt itk.len), S4, G4, acc ++ [w], accD ++ [d], upd_same, ?_, hres4, ?_, R4.change hat4 hres4, ?_, h4⟩
          · rw [List.length_append]; have := I.len; simp; omega
          · exact (((I.st.trans st2).trans st3).trans st4).change hD
          · exact (((((I.dat.step I.R st2).step R2 st3).step R3 st4)).keep ka).append (.cons (r4.keep ka) .nil)
        | false =>
          exact ⟨S3, G3, acc, accD, hat3, Nat.le_succ_of_le I.len, hres3, (I.st.trans st2).trans st3, R3, (I.dat.step I.R st2).step R2 st3, h3⟩
    · have ei : i = items.length := by omega
      subst ei
      have hgo : gdD dl items G' ∧ newL z accD G' QD := by
        have := I.go
        rw [List.drop_length] at this
        exact this
      obtain ⟨gd, hgo⟩ := hgo
      refine .inl ⟨itk.stop S' H' G' I.st I.R gd, ?_⟩
      have hz : acc.length ≤ sizeLine := Nat.le_trans I.len itk.len
      have sS : S D = none := (R.free hD0).2
      have gD : G' D = none := (I.R.res D I.res).1
      cases z with
      | true =>
        obtain ⟨k1, k2⟩ := I.R.letOut I.res
        exact hQ _ _ H' _ G' ((st1.trans I.st).letOut sS) k2 (.lst I.at_ gD (by unfold unS; rw [if_pos rfl]) hz (I.dat.keep k1)) hgo
      | false =>
        exact hQ _ _ H' _ _ ((st1.trans I.st).track sS hD0) (I.R.track I.at_ I.res hz I.dat) (.ref D) (hgo D gD)
theorem je_lcl (k : COk C fnm clm Γ N sc X W) {z : Bool} {elt tg iter : Expr} {ifs : List Expr} {scope : Scope} {own : List (Str × Nat)} {pos : Pos} {e : E} {g : Tgt} {a : E} {c : T}
    (hok : BlkOk N sc scope own) (hset : ∀ elts kk p, iter ≠ .Set elts kk p) (hin : tIn g (own.map (·.2)) = true) (hi : JE fnm clm X W iter (wE Γ a))
    (hg : ∀ X', COk C fnm clm Γ N (relS scope sc) X' W0 → (X'.fn = fun x => scope.names.lookup x == some .cell) → X'.K = X.K → JG fnm clm X' tg g)
    (ht : ∀ X', COk C fnm clm Γ N (relS scope sc) X' W0 → X'.K = X.K → (ifs = [] ∧ c = .yes) ∨ ∃ cd, ifs = [cd] ∧ JT fnm clm X' W0 cd (wT Γ c))
    (he : ∀ X', COk C fnm clm Γ N (relS scope sc) X' W0 → X'.K = X.K → JE fnm clm X' W0 elt (wE Γ e)) :
    JE fnm clm X W (.ListComp elt [⟨tg, iter, ifs, 0⟩] scope pos) (wE Γ (.lcl z e g a c own)) := by
  obtain ⟨wi, pi, ri⟩ := jg_of (tg := tg) hi
  refine ⟨rfl, _, pe_lc (g := canG X.K fnm clm g) (tt := canT X.K fnm clm W0 (wT Γ c)) (te := canE X.K fnm clm W0 (wE Γ e)) k.calm (by rw [k.hN]; exact k.nd) pi (by rw [k.hN, k.hsc]; exact hok) (fun s H C' cl fp => (hg _ (k.blk s H scope cl C' fp) rfl rfl).can)
    (fun s H C' cl fp => ?_) (fun s H C' cl fp => (he _ (k.blk s H scope cl C' fp) rfl).can) ?_, lcl_ref ri hin⟩
  · rcases ht _ (k.blk s H scope cl C' fp) rfl with ⟨rfl, rfl⟩ | ⟨cd, rfl, h⟩
    · refine ⟨fun pins s σ H Q I ⟨S, σD, G, QD, XD, R, sl, h, hQ, hX⟩ => pts_nil.run pins s σ H Q I (hQ true S H G .refl R h)⟩
    · exact pts_one h.can
  · intro x
    cases iter <;> first | rfl | exact absurd rfl (hset _ _ _)
end
end DL

namespace DL
open PySem PySem.Spec PyProof.Rows L2
/-! ### list(zip(s, t)) of two tuples; freezing deep -/
section
variable {X : Cx} {pins : List (Addr × Obj)} {σ : L2.St} {H H' : Hp} {s : Shared} {h' : Heap}
/-- many new objects at once -/
theorem inv_many {t' : Nat} (I : Inv X pins σ H s) (k : ∀ b u, s.heap.get? b = some u → h'.get? b = some u) (same : ∀ b, b < s.heap.objs.size → H' b = H b) (new : ∀ b o, s.heap.objs.size ≤ b → H' b = some o → ObjOk X.prog X.w H' h' b o) :
    Inv X pins σ H' { s with heap := h', toks := t' } := by
  have old : ∀ {b o}, H b = some o → H' b = some o := fun {b o} e => by rw [same b (I.hok.lt e)]; exact e
  refine I.un ⟨fun b o q _ _ _ => k b o q, fun b o q _ _ _ => ⟨o.slots, k b o q⟩, fun b o q n _ => by rw [same b (Heap.lt_size q)]; exact n, fun b o q _ => ⟨o, k b o q⟩, fun b xs q => old q, fun b o u q => old q, fun b ps q => ⟨#[], by rw [old q]; simp⟩⟩ fun b o e => ?_
  by_cases hb : b < s.heap.objs.size
  · rw [same b hb] at e
    exact (I.hok b o e).stay (fun c u _ q => k c u q) (fun c q => old q) fun c xs q => old q
  · exact new b o (Nat.le_of_not_lt hb) e
end
theorem vals_getR {xs : List V} {us : List Value} {i : Nat} {u : Value} (r : Vals xs us) (e : us[i]? = some u) : ∃ x, xs[i]? = some x ∧ RelV x u := by
  have hl := r.length
  have hi := (List.getElem?_eq_some_iff.mp e).1
  have hx : xs[i]? = some (xs[i]'(by omega)) := List.getElem?_eq_getElem (by omega)
  obtain ⟨w, e2, q⟩ := r.get hx
  rw [e] at e2; cases e2
  exact ⟨_, hx, q⟩
def zlQ : List (V × V) → List Addr → Hp → (V → Hp → Prop) → Prop
  | [], as, H, Q => ∀ L, H L = none → Q (.ref L) (upd H L (.lst (as.map V.ref)))
  | p :: r, as, H, Q => ∀ T, H T = none → zlQ r (as ++ [T]) (upd H T (.tup [p.1, p.2])) Q
def updP : List Addr → List (V × V) → Hp → Hp
  | b :: bs, p :: ps, H => updP bs ps (upd H b (.tup [p.1, p.2]))
  | _, _, H => H
theorem updP_ne : ∀ {bs : List Addr} {ps : List (V × V)} {H : Hp} {x : Addr}, x ∉ bs → updP bs ps H x = H x
  | [], ps, H, x, _ => by unfold updP; rfl
  | b :: bs, [], H, x, _ => by unfold updP; rfl
  | b :: bs, p :: ps, H, x, h => by
    unfold updP
    rw [updP_ne fun z => h (List.mem_cons_of_mem _ z), upd_ne fun z => h (by rw [z]; exact List.mem_cons_self)]
theorem updP_at : ∀ {bs : List Addr} {ps : List (V × V)} {H : Hp} {j : Nat} {b : Addr} {p : V × V}, bs.Nodup → bs[j]? = some b → ps[j]? = some p → updP bs ps H b = some (.tup [p.1, p.2])
  | [], ps, H, j, b, p, _, h, _ => by simp at h
  | c :: bs, [], H, j, b, p, _, _, h => by simp at h
  | c :: bs, q :: ps, H, 0, b, p, nd, h1, h2 => by
    simp at h1 h2
    subst h1; subst h2
    unfold updP
    rw [updP_ne (List.nodup_cons.mp nd).1, upd_same]
  | c :: bs, q :: ps, H, j + 1, b, p, nd, h1, h2 => by
    unfold updP
    exact updP_at (List.nodup_cons.mp nd).2 (by simpa using h1) (by simpa using h2)
theorem zlQ_go : ∀ {ps : List (V × V)} {as bs : List Addr} {H : Hp} {L : Addr} {Q : V → Hp → Prop}, zlQ ps as H Q → bs.length = ps.length → bs.Nodup → (∀ b ∈ bs, H b = none) → L ∉ bs → H L = none → Q (.ref L) (upd (updP bs ps H) L (.lst ((as ++ bs).map V.ref)))
  | [], as, bs, H, L, Q, h, hl, _, _, _, hL => by
    have : bs = [] := List.length_eq_zero_iff.mp hl
    subst this
    rw [List.append_nil]
    exact h L hL
  | p :: ps, as, [], H, L, Q, h, hl, _, _, _, _ => by simp at hl
  | p :: ps, as, b :: bs, H, L, Q, h, hl, nd, hb, hn, hL => by
    have n1 := List.nodup_cons.mp nd
    have := zlQ_go (bs := bs) (L := L) (h b (hb b List.mem_cons_self)) (by simpa using hl) n1.2 (fun c hc => by rw [upd_ne fun z => n1.1 (by rw [← z]; exact hc)]; exact hb c (List.mem_cons_of_mem _ hc))
      (fun z => hn (List.mem_cons_of_mem _ z)) (by rw [upd_ne fun z => hn (by rw [z]; exact List.mem_cons_self)]; exact hL)
    rw [List.append_assoc] at this
    exact this
def tLz (K : PySem.W.Frag) (ta : TA) : TE := fun σ H Q => ta σ H fun vs H1 => ∃ a b xs ys, vs = [.ref a, .ref b] ∧ SqT K H1 a xs ∧ SqT K H1 b ys ∧ xs.length ≤ sizeLine ∧ zlQ (xs.zip ys) [] H1 Q
theorem pe_lzip {X : Cx} {e e2 : Expr} {ta : TA} {p p2 pos pos2 : Pos} (hc : X.calm = true) (hgl : Gl X "list") (hml : X.mg "list" = none) (hg : Gl X "zip") (hm : X.mg "zip" = none) (ha : PA X [e, e2] ta)
    (hs : starEach [e, e2] X.env = (false, eval e X.env) :: starEach [e2] X.env := by rfl) (hpl : (backTo pos2 (starEach [e2] X.env)).any (·.1) = false := by rfl)
    (na : starEach [.Call (.Name "zip" p2) [e, e2] [] pos2] X.env = (false, eval (.Call (.Name "zip" p2) [e, e2] [] pos2) X.env) :: starEach [] X.env := by rfl) :
    PE X (.Call (.Name "list" p) [.Call (.Name "zip" p2) [e, e2] [] pos2] [] pos) (tLz X.K ta) := by
  refine ⟨fun pins s σ H Q I h => ?_⟩
  refine Call_ (ld_blt I hgl hml boot_list (PyProof.Rows.callWith_type1 (args_cons ?_ na) na))
  refine Call_ (ld_blt I hg hm PyProof.Rows.boot_zip (PyProof.Rows.callWith_type1 (thn (ha.run pos2 pins s σ H _ I h) fun us s1 ⟨vs, H1, I1, r1, q1⟩ => ?_) hs hpl))
  obtain ⟨a, b, xs, ys, ex, hqx, hqy, hz, q⟩ := q1
  subst ex
  cases r1 with
  | cons r rr =>
    cases rr with
    | cons r' rr =>
      cases rr
      cases r
      cases r'
      obtain ⟨its, rv, p1, _⟩ := I1.tuple hqx
      obtain ⟨its2, rv2, p2, _⟩ := I1.tuple hqy
      obtain ⟨o1, ho1, _⟩ := id p1
      obtain ⟨o2, ho2, _⟩ := id p2
      have e1 := rv.length
      have e2 := rv2.length
      refine RZ.call_zipT (show s1.heap.IsTuple a its.toArray from p1) (show s1.heap.IsTuple b its2.toArray from p2) fun h1 hz1 hTI hTO i1 i2 hsz hk => args_nil ?_
      have t1 : h1.IsTuple a its.toArray := Heap.IsTuple.at (show s1.heap.IsTuple a its.toArray from p1) fun o e => hk _ o e
      have t2 : h1.IsTuple b its2.toArray := Heap.IsTuple.at (show s1.heap.IsTuple b its2.toArray from p2) fun o e => hk _ o e
      refine RZ.call_list_zip (s := { s1 with heap := h1 }) (I1.ok.hd hc) (PySem.W.ktu_apart s1.heap.objs.size a b (Heap.lt_size ho1) (Heap.lt_size ho2)) hz1 hTO hTI i1 i2 t1 t2 (by simp; omega) fun h2 acc c as hk2 hS ha hl => ?_
      have hlen : as.length = (xs.zip ys).length := by rw [hl, List.length_zip]; simp; omega
      have nd : as.Nodup := ha.inc.imp fun q => Nat.ne_of_lt q
      have big : ∀ x ∈ as, h1.objs.size + 1 ≤ x := fun x hx => (ha.rng x hx).1
      have bigs : ∀ x ∈ as, s1.heap.objs.size ≤ x := fun x hx => by have := big x hx; rw [hsz] at this; exact Nat.le_trans (by omega) this
      have fr : ∀ x ∈ as, H1 x = none := fun x hx => I1.hok.fresh (bigs x hx)
      have hLn : h1.objs.size ∉ as := fun z => absurd (big _ z) (Nat.not_succ_le_self _)
      have hLs : s1.heap.objs.size ≤ h1.objs.size := by rw [hsz]; exact Nat.le_add_right _ _
      have keep : ∀ b u, s1.heap.get? b = some u → h2.get? b = some u := fun b u e => by
        have hlt := Heap.lt_size e
        exact hk2 b u (Nat.ne_of_lt (Nat.lt_add_right _ hlt)) (Nat.ne_of_lt (Nat.lt_add_right _ hlt)) (Nat.ne_of_lt hlt) (Nat.ne_of_lt (Nat.lt_add_right _ hlt)) (hk b u e)
      refine ⟨.ref h1.objs.size, upd (updP as (xs.zip ys) H1) h1.objs.size (.lst (([] ++ as).map V.ref)), inv_many (s := s1) (t' := s1.toks) I1 keep (fun b hb => ?_) (fun b o hb e => ?_), rfl, zlQ_go q hlen nd fr hLn (I1.hok.fresh hLs)⟩
      · rw [upd_ne (Nat.ne_of_lt (Nat.lt_of_lt_of_le hb hLs)), updP_ne fun z => absurd (bigs b z) (Nat.not_le.mpr hb)]
      · by_cases hbl : b = h1.objs.size
        · subst hbl
          rw [upd_same] at e
          cases e
          refine ⟨by rw [List.nil_append, List.length_map, hlen, List.length_zip]; omega, as.map Value.ref, c, ?_, ?_⟩
          · clear hlen nd big bigs fr hLn q hl ha keep hS
            induction as with
            | nil => exact .nil
            | cons x xs ih => exact .cons rfl ih
          · rw [hS, ← ha.acc_]
        · rw [upd_ne hbl] at e
          by_cases hm : b ∈ as
          · obtain ⟨j, hj, ej⟩ := List.mem_iff_getElem.mp hm
            have ej2 : as[j]? = some b := by rw [← ej]; exact List.getElem?_eq_getElem hj
            obtain ⟨x, y, x1, y1, pr⟩ := ha.at_ j b ej2
            have x1 : its[j]? = some x := by simpa using x1
            have y1 : its2[j]? = some y := by simpa using y1
            obtain ⟨vx, hvx, rx⟩ := vals_getR rv x1
            obtain ⟨vy, hvy, ry⟩ := vals_getR rv2 y1
            have hp : (xs.zip ys)[j]? = some (vx, vy) := by rw [List.getElem?_zip_eq_some]; exact ⟨hvx, hvy⟩
            rw [updP_at nd ej2 hp] at e
            cases e
            exact ⟨by show 2 ≤ sizeLine; decide, [x, y], .cons rx (.cons ry .nil), ⟨_, pr, rfl, _, rfl⟩⟩
          · rw [updP_ne hm, I1.hok.fresh hb] at e
            cases e
section
variable {C : Cfg} {fnm clm : Nat → Option Addr} {Γ : Gam} {N : List Str} {sc : Scope} {X : Cx} {W : WX}
theorem zlQ_dat {K : PySem.W.Frag} {Q : V → Hp → Prop} {QD : KD} {z : Bool} : ∀ {xs ys : List V} {xd yd acc : List D} {as : List Addr} {S : Addr → Option Bool} {H : Hp} {G : HD}, Hel K fnm clm S H G → DatAll K fnm S H G xs xd → DatAll K fnm S H G ys yd → DatAll K fnm S H G (as.map V.ref) acc →
    as.length + xs.length ≤ sizeLine → newL z (acc ++ zip2L xd yd) G QD → PostE K fnm clm S H G QD Q → zlQ (xs.zip ys) as H Q
  | [], ys, _, yd, acc, as, S, H, G, R, .nil, r2, ra, hz, h, hQ => by
    rw [show zip2L [] yd = [] by simp [zip2L], List.append_nil] at h
    exact new_list R (by simpa using hz) ra h hQ
  | x :: xs, [], _, _, acc, as, S, H, G, R, .cons _ _, .nil, ra, hz, h, hQ => by
    rw [show ∀ a b : _, zip2L (a :: b) [] = [] from fun _ _ => by simp [zip2L], List.append_nil] at h
    exact new_list R (by simp at hz ⊢; omega) ra h hQ
  | x :: xs, y :: ys, _, _, acc, as, S, H, G, R, .cons (d := dx) rx tx, .cons (d := dy) ry ty, ra, hz, h, hQ => fun T hT => by
    have st : Step S H G S (upd H T (.tup [x, y])) G := .newU hT
    have R' : Hel K fnm clm S (upd H T (.tup [x, y])) G := R.newU hT
    refine zlQ_dat (acc := acc ++ [.tpl [dx, dy]]) R' (tx.step R st) (ty.step R st) ?_ (by simp at hz ⊢; omega) (by rw [List.append_assoc]; exact h) (hQ.step st)
    rw [List.map_append]
    exact (ra.step R st).append (.cons (.tpl (.inl (.inl upd_same)) (by show 2 ≤ sizeLine; decide) (.cons (rx.step R st) (.cons (ry.step R st) .nil))) .nil)
theorem je_lzp (k : COk C fnm clm Γ N sc X W) {z : Bool} {a b : Expr} {p p2 pos pos2 : Pos} {ees : Es} (hgl : Gl X "list") (hg : Gl X "zip") (h : JA fnm clm X W [a, b] (wEs Γ ees)) :
    JE fnm clm X W (.Call (.Name "list" p) [.Call (.Name "zip" p2) [a, b] [] pos2] [] pos) (wE Γ (.lzp z ees)) := by
  obtain ⟨ss, ta, pa, ra⟩ := h
  refine ⟨rfl, _, pe_lzip k.calm hgl (blt_of k (by decide +kernel)) hg (blt_of k (by decide +kernel)) pa (star_no (ss a List.mem_cons_self) _ _) (star_all (fun y hy => ss y (List.mem_cons_of_mem _ hy)) _ _) rfl, fun S σ σD H G Q QD XD R sl h hQ hX => ?_⟩
  refine ra S σ σD H G _ _ XD R sl h (fun vs S1 H1 ds G1 hn st1 R1 r1 h1 => ?_) hX
  obtain ⟨zs, e3, h2⟩ := ok_of h1
  match ds, r1, e3 with
  | [.tup xs, .tup ys], r1, e3 =>
    cases e3
    obtain ⟨v, w, rfl, q1, q2⟩ := two_of r1
    obtain ⟨a, vs, rfl, k1, z1, d1⟩ := dat_tup q1
    obtain ⟨b, ws, rfl, k2, z2, d2⟩ := dat_tup q2
    exact ⟨a, b, vs, ws, rfl, k1, k2, z1, zlQ_dat R1 d1 d2 .nil (by simpa using z1) h2.2 (hQ.step st1)⟩
end
section
variable {K : PySem.W.Frag} {fnm clm : Nat → Option Addr} {S : Addr → Option Bool} {H : Hp}
theorem sub_trans {G G1 G2 : HD} (a : Sub G1 G) (b : Sub G2 G1) : Sub G2 G := fun x c h => a x c (b x c h)
theorem frL_ok {f : D → HD → Option (D × HD)} (hf : ∀ (d : D) (v : V) (G G' : HD) (d' : D), Hel K fnm clm S H G → Dat K fnm S H G v d → f d G = some (d', G') → Sub G' G ∧ Dat K fnm S H G' v d') :
    ∀ (ds : List D) {vs : List V} {G G' : HD} {es : List D}, Hel K fnm clm S H G → DatAll K fnm S H G vs ds → frL f ds G = some (es, G') → Sub G' G ∧ DatAll K fnm S H G' vs es
  | [], vs, G, G', es, R, r, e => by
    unfold frL at e
    cases e
    cases r
    exact ⟨fun _ _ h => h, .nil⟩
  | d :: ds, vs, G, G', es, R, r, e => by
    unfold frL at e
    split at e
    · rename_i e1 G1 q1
      split at e
      · rename_i es2 G2 q2
        cases e
        cases r with
        | cons rd rs =>
          obtain ⟨s1, r1⟩ := hf d _ _ _ _ R rd q1
          have st1 : Step S H G S H G1 := .less s1
          have R1 := R.less s1
          obtain ⟨s2, r2⟩ := frL_ok hf ds R1 (rs.step R st1) q2
          have st2 : Step S H G1 S H G' := .less s2
          exact ⟨sub_trans s1 s2, .cons (r1.step R1 st2) r2⟩
      · cases e
    · cases e
theorem frDp_ok : ∀ (n : Nat) (d : D) (v : V) (G G' : HD) (d' : D), Hel K fnm clm S H G → Dat K fnm S H G v d → frDp n d G = some (d', G') → Sub G' G ∧ Dat K fnm S H G' v d'
  | 0, d, v, G, G', d', R, r, e => by
    unfold frDp at e
    cases e
    exact ⟨fun _ _ h => h, r⟩
  | n + 1, .ref a, v, G, G', d', R, r, e => by
    cases dat_ref r
    unfold frDp at e
    split at e
    · rename_i ds q
      split at e
      · rename_i es G2 q2
        cases e
        obtain ⟨vs, h1, h2, h3⟩ := R.cell a _ q
        have st : Step S H G S H (delD G a) := .less sub_del
        have R1 : Hel K fnm clm S H (delD G a) := R.less sub_del
        obtain ⟨s1, r1⟩ := frL_ok (frDp_ok n) ds R1 (h3.step R st) q2
        have hn : G' a = none := by
          cases z : G' a with
          | none => rfl
          | some c => have := s1 a c z; rw [delD_same] at this; cases this
        exact ⟨sub_trans sub_del s1, .lst h1 hn (R.live (by rw [q]; simp)) h2 r1⟩
      · cases e
    · cases e
  | n + 1, .tup ds, v, G, G', d', R, r, e => by
    unfold frDp at e
    split at e
    · rename_i es G2 q2
      cases e
      obtain ⟨a, vs, rfl, k1, z1, d1⟩ := dat_tupP r
      obtain ⟨s1, r1⟩ := frL_ok (frDp_ok n) ds R d1 q2
      exact ⟨s1, .tup k1 z1 r1⟩
    · cases e
  | n + 1, .non, v, G, G', d', R, r, e => by unfold frDp at e; cases e; exact ⟨fun _ _ h => h, r⟩
  | n + 1, .bl _, v, G, G', d', R, r, e => by unfold frDp at e; cases e; exact ⟨fun _ _ h => h, r⟩
  | n + 1, .int _, v, G, G', d', R, r, e => by unfold frDp at e; cases e; exact ⟨fun _ _ h => h, r⟩
  | n + 1, .str _, v, G, G', d', R, r, e => by unfold frDp at e; cases e; exact ⟨fun _ _ h => h, r⟩
  | n + 1, .tpl _, v, G, G', d', R, r, e => by unfold frDp at e; cases e; exact ⟨fun _ _ h => h, r⟩
  | n + 1, .lst _, v, G, G', d', R, r, e => by unfold frDp at e; cases e; exact ⟨fun _ _ h => h, r⟩
  | n + 1, .scr _, v, G, G', d', R, r, e => by unfold frDp at e; cases e; exact ⟨fun _ _ h => h, r⟩
  | n + 1, .rnd, v, G, G', d', R, r, e => by unfold frDp at e; cases e; exact ⟨fun _ _ h => h, r⟩
  | n + 1, .ty _, v, G, G', d', R, r, e => by unfold frDp at e; cases e; exact ⟨fun _ _ h => h, r⟩
  | n + 1, .fn _, v, G, G', d', R, r, e => by unfold frDp at e; cases e; exact ⟨fun _ _ h => h, r⟩
end
section
variable {C : Cfg} {fnm clm : Nat → Option Addr} {Γ : Gam} {N : List Str} {sc : Scope} {X : Cx} {W : WX}
theorem je_frD {n : Nat} {e : Expr} {ee : E} (he : JE fnm clm X W e (wE Γ ee)) : JE fnm clm X W e (wE Γ (.frD n ee)) := by
  obtain ⟨s, ta, pa, ra⟩ := he
  refine ⟨s, ta, pa, fun S σ σD H G Q QD XD R sl h hQ hX => ?_⟩
  refine ra S σ σD H G Q (fun d H1 => ok (frDp n d H1) fun r => QD r.1 r.2) XD R sl h (fun v S1 H1 d G1 st1 R1 r1 h1 => ?_) hX
  obtain ⟨⟨d', G'⟩, e, h2⟩ := ok_of h1
  obtain ⟨s1, r2⟩ := frDp_ok n d _ _ _ _ R1 r1 e
  have st2 : Step S1 H1 G1 S1 H1 G' := .less s1
  exact hQ v S1 H1 d' G' (st1.trans st2) (R1.less s1) r2 h2
end
end DL

namespace DL
open PySem PySem.Spec PyProof.Rows L2
/-! ### {k: v, ..}[y], keys texts -/
def keyOne (s : List Nat) (o : Option Expr) : Bool := match o with
  | some (.Constant (.str m) _ _) => decide (m = mkStr s)
  | _ => false
def keyB : List (List Nat) → List (Option Expr) → Bool
  | [] => fun keys => keys.isEmpty
  | s :: ks => fun keys => match keys with
    | k :: keys => keyOne s k && keyB ks keys
    | [] => false
theorem keyB_cons {s : List Nat} {ks : List (List Nat)} {keys : List (Option Expr)} (h : keyB (s :: ks) keys = true) : ∃ key keys', keys = some key :: keys' ∧ (∃ j p, key = .Constant (.str (mkStr s)) j p) ∧ keyB ks keys' = true := by
  cases keys with
  | nil => cases h
  | cons o keys =>
    have h : (keyOne s o && keyB ks keys) = true := h
    rw [Bool.and_eq_true] at h
    obtain ⟨h1, h2⟩ := h
    unfold keyOne at h1
    split at h1
    · rename_i m j p
      exact ⟨_, keys, rfl, ⟨j, p, by rw [of_decide_eq_true h1]⟩, h2⟩
    · cases h1
theorem keyB_len : ∀ {ks : List (List Nat)} {keys : List (Option Expr)}, keyB ks keys = true → keys.length = ks.length ∧ keys.all (·.isSome) = true
  | [], keys, h => by
    cases keys with
    | nil => exact ⟨rfl, rfl⟩
    | cons _ _ => cases h
  | s :: ks, keys, h => by
    obtain ⟨key, keys', rfl, _, h2⟩ := keyB_cons h
    obtain ⟨q1, q2⟩ := keyB_len h2
    exact ⟨by simp [q1], by simp only [List.all_cons, Option.isSome_some, q2, Bool.and_self]⟩
def keyVs (ks : List (List Nat)) (vs : List V) : List (Key × V) := List.zipWith (fun s v => (Sum.inr (mkStr s), v)) ks vs
section
variable (K : PySem.W.Frag) (fnm clm : Nat → Option Addr)
def RefPs (W : WX) (ks : List (List Nat)) (trs : List (TE × TE)) (t : StD → HD → (List D → HD → Prop) → KX → Prop) : Prop :=
  ∀ S (σ : St') σD H G (Q : List (V × V) → Hp → Prop) QD XD, Hel K fnm clm S H G → SlotOk K fnm S H G σ σD → t σD G QD XD →
    (∀ vs S' H' ds G', vs.length = ks.length → Step S H G S' H' G' → Hel K fnm clm S' H' G' → DatAll K fnm S' H' G' vs ds → QD ds G' → Q ((keyVs ks vs).map fun kv => (kV kv.1, kv.2)) H') → PostX K fnm clm W σ S H G XD → tPairs trs σ H Q
end
section
variable {C : Cfg} {fnm clm : Nat → Option Addr} {Γ : Gam} {N : List Str} {sc : Scope} {X : Cx} {W : WX}
def JPs (fnm clm : Nat → Option Addr) (X : Cx) (W : WX) (pos : Pos) (ks : List (List Nat)) (keys : List (Option Expr)) (vals : List Expr) (t : StD → HD → (List D → HD → Prop) → KX → Prop) : Prop :=
  ∃ trs, PPs X pos keys vals trs ∧ RefPs X.K fnm clm W ks trs t
theorem jps_nil {pos : Pos} : JPs fnm clm X W pos [] [] [] (wEs Γ .n) :=
  ⟨[], pps_nil, fun S σ σD H G Q QD XD R sl h hQ hX => hQ [] S H [] G rfl .refl R .nil h⟩
theorem jps_cons {pos : Pos} {s : List Nat} {ks : List (List Nat)} {key : Expr} {keys : List (Option Expr)} {v : Expr} {vals : List Expr} {e : E} {es : Es} (hk : ∃ j p, key = .Constant (.str (mkStr s)) j p) (he : JE fnm clm X W v (wE Γ e)) (hr : JPs fnm clm X W pos ks keys vals (wEs Γ es)) :
    JPs fnm clm X W pos (s :: ks) (some key :: keys) (v :: vals) (wEs Γ (.c e es)) := by
  obtain ⟨j, p, rfl⟩ := hk
  obtain ⟨_, te, pe, re⟩ := he
  obtain ⟨trs, pr, rr⟩ := hr
  refine ⟨(tC (.str (mkStr s)), te) :: trs, pps_cons pe_str pe pr, fun S σ σD H G Q QD XD R sl h hQ hX => ?_⟩
  refine re S σ σD H G _ _ XD R sl h (fun v S1 H1 d G1 st1 R1 r1 h1 => ?_) hX
  refine rr S1 σ σD H1 G1 _ _ XD R1 (sl.step R st1) h1 (fun vs S2 H2 ds G2 hl st2 R2 r2 h2 => ?_) (hX.step st1)
  exact hQ (v :: vs) S2 H2 (d :: ds) G2 (by simp [hl]) (st1.trans st2) R2 (.cons (r1.step R1 st2) r2) h2
theorem keyVs_keys : ∀ {ks : List (List Nat)} {vs : List V}, vs.length = ks.length → (keyVs ks vs).map Prod.fst = ks.map fun s => (Sum.inr (mkStr s) : Key)
  | [], [], _ => rfl
  | [], _ :: _, h => by simp at h
  | _ :: _, [], h => by simp at h
  | s :: ks, v :: vs, h => by
    have := keyVs_keys (ks := ks) (vs := vs) (by simpa using h)
    unfold keyVs at this ⊢
    simp only [List.zipWith_cons_cons, List.map_cons, this]
theorem keyVs_find {K : PySem.W.Frag} {S : Addr → Option Bool} {H : Hp} {G : HD} {s : List Nat} {d : D} : ∀ {ks : List (List Nat)} {vs : List V} {ds : List D}, vs.length = ks.length → DatAll K fnm S H G vs ds → ((ks.zip ds).find? fun p => decide (p.1 = s)).map (·.2) = some d →
    ∃ v, valV (keyVs ks vs) (Sum.inr (mkStr s)) = some v ∧ Dat K fnm S H G v d
  | [], [], ds, _, _, e => by simp at e
  | [], _ :: _, _, h, _, _ => by simp at h
  | _ :: _, [], _, h, _, _ => by simp at h
  | k :: ks, v :: vs, _, h, .cons (d := d') r t, e => by
    rw [List.zip_cons_cons, List.find?_cons] at e
    by_cases q : k = s
    · subst q
      simp only [decide_true, Option.map_some, Option.some.injEq] at e
      subst e
      refine ⟨v, ?_, r⟩
      unfold keyVs
      rw [List.zipWith_cons_cons, valV_pos rfl]
    · rw [decide_eq_false q] at e
      obtain ⟨w, h1, h2⟩ := keyVs_find (ks := ks) (vs := vs) (by simpa using h) t e
      refine ⟨w, ?_, h2⟩
      unfold keyVs at h1 ⊢
      rw [List.zipWith_cons_cons, valV_neg (fun z => q (mkStr_inj (Sum.inr.inj z)))]
      exact h1
theorem je_dcx (k : COk C fnm clm Γ N sc X W) {ks : List (List Nat)} {keys : List (Option Expr)} {vals : List Expr} {y : Expr} {p2 pos : Pos} {es : Es} {b : E} (hs : isSlice y = false) (nd : ks.Nodup) (h15 : ks.length ≤ 15) (hne : ks ≠ []) (hl : vals.length = ks.length)
    (hp : ∀ pos, JPs fnm clm X W pos ks keys vals (wEs Γ es)) (hkb : keyB ks keys = true) (hb : JE fnm clm X W y (wE Γ b)) : JE fnm clm X W (.Subscript (.Dict keys vals p2) y pos) (wE Γ (.dcx ks es b)) := by
  obtain ⟨trs, pp, rp⟩ := hp p2
  obtain ⟨_, tb, pb, rb⟩ := hb
  obtain ⟨kl, kall⟩ := keyB_len hkb
  have hu : X.A.units + 1 < cLine := by have := k.hu; omega
  have pd : PE X (.Dict keys vals p2) (tDisp trs) := pe_disp pp kall (by rw [kl, hl]) (fun z => hne (List.eq_nil_of_length_eq_zero (by rw [← kl, z]; rfl))) (by rw [kl]; exact h15)
  refine ⟨rfl, _, pe_dget hu pd pb (noSl hs), fun S σ σD H G Q QD XD R sl h hQ hX => ?_⟩
  intro q hn
  have st1 : Step S H G (resS S q) (upd H q (.dK [])) G := Step.reserve R hn
  have R1 : Hel X.K fnm clm (resS S q) (upd H q (.dK [])) G := R.reserve hn
  refine rp _ σ σD _ G _ _ XD R1 (sl.step R st1) h (fun vs S2 H2 ds G2 hvl st2 R2 r2 h2 => ?_) (hX.step st1)
  have live : H2 q = some (.dK []) := st2.stay q _ upd_same (R.free hn).1 (by unfold resS; rw [if_pos rfl]; simp)
  have hr2 : S2 q = some false := st2.strm q _ (by unfold resS; rw [if_pos rfl])
  have nk : ((keyVs ks vs).map Prod.fst).Nodup := by
    rw [keyVs_keys hvl]
    exact List.pairwise_map.mpr (List.Pairwise.imp (fun hne z => hne (mkStr_inj (Sum.inr.inj z))) nd)
  have kvl : (keyVs ks vs).length ≤ 15 := by unfold keyVs; rw [List.length_zipWith]; omega
  refine ⟨live, keyVs ks vs, rfl, kvl, ?_⟩
  rw [merge_new (keyVs ks vs) [] nk, List.nil_append]
  have kc : Keep S2 H2 G2 S2 (upd H2 q (.dK (keyVs ks vs))) G2 := Keep.changeD live hr2
  have R3 : Hel X.K fnm clm S2 (upd H2 q (.dK (keyVs ks vs))) G2 := R2.changeD live hr2
  have st3 : Step S H G S2 (upd H2 q (.dK (keyVs ks vs))) G2 := (st1.trans st2).change hn
  have r3 := DatAll.keep kc r2
  refine rb _ σ σD _ G2 _ _ XD R3 (sl.step R st3) h2 (fun y S4 H4 dy G4 st4 R4 r4 h4 => ?_) (hX.step st3)
  obtain ⟨dv, e4, h5⟩ := ok_of h4
  obtain ⟨s, rfl, hf⟩ : ∃ s, dy = .str s ∧ ((ks.zip ds).find? fun p => decide (p.1 = s)).map (·.2) = some dv := by
    cases dy <;> first | exact ⟨_, rfl, e4⟩ | cases e4
  obtain ⟨rfl, _, _⟩ := dat_str r4
  obtain ⟨w, hw, rw_⟩ := keyVs_find hvl r3 hf
  have live4 : H4 q = some (.dK (keyVs ks vs)) := st4.stay q _ upd_same (R3.res q hr2).1 (by rw [hr2]; simp)
  refine ⟨q, w, rfl, ?_, (hQ.step st3).step st4 |>.here R4 (rw_.step R3 st4) h5⟩
  rw [← hw]
  exact DGet.k (k := Sum.inr (mkStr s)) live4
/-- a module's own dict, d[y] -/
theorem je_gdx (k : COk C fnm clm Γ N sc X W) {g : Nat} {x : Str} {y : Expr} {p2 pos : Pos} {b : E} (hs : isSlice y = false) (hl : 60 ≤ g) (hi : C.gls[g]? = some x) (hg : Gl X x) (hx : nameOk x = true) (hb : JE fnm clm X W y (wE Γ b)) :
    JE fnm clm X W (.Subscript (.Name x p2) y pos) (wE Γ (.gdx g b)) := by
  obtain ⟨h1, h2, h3⟩ := name_debug hx
  obtain ⟨d, hm, hd⟩ := k.dct g x hl hi
  obtain ⟨_, tb, pb, rb⟩ := hb
  refine ⟨rfl, _, pe_ix ix_kdict (pe_glob hg hm (v := .ref d) rfl h1) pb (plain_ix hs), fun S σ σD H G Q QD XD R sl h hQ hX => ?_⟩
  refine rb _ σ σD _ G _ _ XD R sl h (fun y S4 H4 dy G4 st4 R4 r4 h4 => ?_) hX
  obtain ⟨dv, e4, h5⟩ := ok_of h4
  obtain ⟨s, rfl, hf⟩ : ∃ s, dy = .str s ∧ dctD (Γ.gl g) (.str s) = some dv := by
    cases dy <;> first | exact ⟨_, rfl, e4⟩ | cases e4
  obtain ⟨rfl, _, _⟩ := dat_str r4
  obtain ⟨v, kd, rv⟩ := hd s dv hf
  exact ⟨d, mkStr s, v, rfl, rfl, kd, (hQ.step st4).here R4 (rv _ _ _) h5⟩
end
end DL

namespace DL
open PySem PySem.Spec PyProof.Rows L2
section
variable {C : Cfg} {fnm clm : Nat → Option Addr} {Γ : Gam} {N : List Str} {sc : Scope} {X : Cx} {W : WX}
/-! ## 10. Statements -/
structure SOk (C : Cfg) (fnm clm : Nat → Option Addr) (Γ : Gam) (N : List Str) (sc : Scope) (X : Cx) (W : WX) : Prop extends COk C fnm clm Γ N sc X W where
  fnT : ∀ x, X.fn x = true
  kindF : sc.kind = .function
  stk : X.stack = X.env :: X.outer
  frm : X.env.frame = some X.env.locals
def locB (sc : Scope) (x : Str) : Bool := match sc.names.lookup x with | some .local => true | some .cell => true | _ => false
theorem loc_of (k : COk C fnm clm Γ N sc X W) {x : Str} (h : locB sc x = true) : L2.Loc X.env.scope x := by
  rw [k.hsc]
  unfold locB at h
  unfold L2.Loc
  split at h <;> simp_all
theorem js_set (k : SOk C fnm clm Γ N sc X W) {i : Nat} {x : Str} {px pos : Pos} {e : Expr} {ee : E} (hi : N[i]? = some x) (hx : locB sc x = true) (hs : swapsWith e (some (.Name x px)) pos.line X.env = pure false) (he : JE fnm clm X W e (wE Γ ee)) :
    JS fnm clm X W (.Assign [.Name x px] e pos) (wS Γ (.set i ee)) := by
  obtain ⟨_, ta, pa, ra⟩ := he
  refine ⟨_, ps_set (by rw [k.hN]; exact k.nd) (by rw [k.hN]; exact hi) (loc_of k.toCOk hx) pa hs (.inl (k.fnT x)), fun S σ σD H G D ED R sl h hP hX => ?_⟩
  refine ra S σ σD H G _ _ _ R sl h (fun v S1 H1 d G1 st1 R1 r1 h1 => ?_) (hX.at R sl)
  exact hP.nx _ _ S1 H1 G1 st1 R1 ((sl.step R st1).set r1 i) h1
theorem swap_sole {tg e : Expr} (h : isComp e = false) (l : Nat) (env : Env) : swapsWithSole [tg] e l env = pure false := swap_no h _ _ _
def isTupE : Expr → Bool
  | .Tuple .. => true
  | _ => false
theorem swapped_no {tg e : Expr} (h : isTupE e = false) (env : Env) : swappedStores [tg] e env = pure none := by
  cases e <;> first | (cases tg <;> rfl) | (cases h)
theorem js_asg (k : SOk C fnm clm Γ N sc X W) {tg e : Expr} {pos : Pos} {g : Tgt} {ee : E} (h1 : isStar tg = false) (h2 : isComp e = false) (h3 : isTupE e = false) (hg : JG fnm clm X tg g) (he : JE fnm clm X W e (wE Γ ee)) :
    JS fnm clm X W (.Assign [tg] e pos) (wS Γ (.asg g ee)) := by
  obtain ⟨_, ta, pa, ra⟩ := he
  obtain ⟨tg', pg, rg⟩ := hg
  refine ⟨_, ps_asg pa pg (swap_sole h2 _ _) (swapped_no h3 _) (by rw [asg_star h1] <;> rfl), fun S σ σD H G D ED R sl h hP hX => ?_⟩
  refine ra S σ σD H G _ _ _ R sl h (fun v S1 H1 d G1 st1 R1 r1 h1 => ?_) (hX.at R sl)
  obtain ⟨σD', ea, h2⟩ := ok_of h1
  exact rg S1 σ σD H1 G1 v d _ σD' R1 (sl.step R st1) r1 ea fun σ' sl' _ => hP.nx _ _ S1 H1 G1 st1 R1 sl' h2
theorem js_setI (k : SOk C fnm clm Γ N sc X W) {o i e : Expr} {pt pos : Pos} {eo ei ee : E} (hsl : isSlice i = false) (h2 : isComp e = false) (ho : JE fnm clm X W o (wE Γ eo)) (hi : JE fnm clm X W i (wE Γ ei)) (he : JE fnm clm X W e (wE Γ ee)) :
    JS fnm clm X W (.Assign [.Subscript o i pt] e pos) (wS Γ (.setI eo ei ee)) := by
  obtain ⟨_, ta, pa, ra⟩ := he
  obtain ⟨_, to, po, ro⟩ := ho
  obtain ⟨_, ti, pi, rri⟩ := hi
  refine ⟨_, ps_asg pa (pg_sub po pi set_list (by intro v; cases i <;> first | rfl | (exact absurd hsl (by decide)) | cases hsl)) (swap_sole h2 _ _) (by cases e <;> rfl) rfl, fun S σ σD H G D ED R sl h hP hX => ?_⟩
  refine ra S σ σD H G _ _ _ R sl h (fun v S1 H1 d G1 st1 R1 r1 h1 => ?_) (hX.at R sl)
  have sl1 := sl.step R st1
  refine ro S1 σ σD H1 G1 _ _ _ R1 sl1 h1 (fun vo S2 H2 x G2 st2 R2 r2 h2 => ?_) ((hX.at R sl).step st1)
  refine rri S2 σ σD H2 G2 _ _ _ R2 (sl1.step R1 st2) h2 (fun vi S3 H3 y G3 st3 R3 r3 h3 => ?_) ((hX.at R sl).step (st1.trans st2))
  cases x <;> try exact h3.elim
  cases y <;> try exact h3.elim
  rename_i a kk
  cases dat_int r3
  cases dat_ref r2
  obtain ⟨ds, hg, ⟨b1, b2⟩, h4⟩ := live_of (P := fun ds => (0 ≤ kk ∧ kk < ds.length) ∧ ED.nx σD (updD G3 a (.lst (ds.set kk.toNat d)))) h3
  obtain ⟨ws, k1, k2, k3⟩ := cell_l R3 hg
  have ne : G3 a ≠ none := by rw [hg]; simp
  refine ⟨a, ws, kk, kk.toNat, rfl, rfl, k1, ?_, ?_⟩
  · unfold ixN
    rw [if_pos b1, if_pos (by rw [k3.length]; exact b2)]
  · have rv : Dat X.K fnm S3 H3 G3 v d := (r1.step R1 st2).step R2 st3
    have st4 : Step S3 H3 G3 S3 (upd H3 a (.lst (ws.set kk.toNat v))) (updD G3 a (.lst (ds.set kk.toNat d))) := .write ne
    exact hP.nx σ σD S3 _ _ (((st1.trans st2).trans st3).trans st4) (R3.writeL ne (by rw [List.length_set]; exact k2) (k3.set rv _)) (((sl1.step R1 st2).step R2 st3).step R3 st4) h4
def augB : BOp → Operator → Bool
  | .add, .Add => true | .sub, .Sub => true | .mul, .Mult => true | .bor, .BitOr => true
  | _, _ => false
theorem aug_ok {o : BOp} {op : Operator} (h : augB o op = true) : ∃ r : TIp, PIp X op r ∧ ∀ v v' d d' S H G Q QD, Hel X.K fnm clm S H G → Dat X.K fnm S H G v d → Dat X.K fnm S H G v' d' →
    (match d, d' with | .int _, .int _ => binD true o d d' G QD | .str _, .str _ => binD true o d d' G QD | _, _ => False) → PostE X.K fnm clm S H G QD Q → r v v' H Q := by
  cases o <;> cases op <;> first | cases h | skip
  · refine ⟨fun x y H Q => rI0 (fun i j => .int (i + j)) x y H Q ∨ (∃ i j, x = .str i ∧ y = .str j ∧ i.length + j.length ≤ sizeLine ∧ Q (.str (i ++ j)) H), fun pins s σ H x y v u Q I r1 r2 q => ?_, fun v v' d d' S H G Q QD R r r' h hQ => ?_⟩
    · rcases q with q | q
      · exact iop_add pins s σ H x y v u Q I r1 r2 q
      · exact iop_add_str pins s σ H x y v u Q I r1 r2 q
    · cases d <;> cases d' <;> first | exact h.elim | skip
      · cases dat_int r; cases dat_int r'
        exact .inl ⟨_, _, rfl, rfl, hQ.here R (.int _) h⟩
      · rename_i s t
        obtain ⟨rfl, k1, _⟩ := dat_str r
        obtain ⟨rfl, k2, _⟩ := dat_str r'
        have h : s.length + t.length ≤ lim ∧ QD (.str (s ++ t)) G := h
        refine .inr ⟨_, _, rfl, rfl, by rw [mkStr_length, mkStr_length, lim_eq]; exact h.1, ?_⟩
        rw [mkStr_append]
        refine hQ.here R (.str _ ?_ (by rw [List.length_append, lim_eq]; exact h.1)) h.2
        rw [strOk_iff] at k1 k2 ⊢
        intro c hc
        rcases List.mem_append.mp hc with q | q
        · exact k1 c q
        · exact k2 c q
  · refine ⟨_, iop_sub, fun v v' d d' S H G Q QD R r r' h hQ => ?_⟩
    cases d <;> cases d' <;> first | exact h.elim | skip
    cases dat_int r; cases dat_int r'
    exact ⟨_, _, rfl, rfl, hQ.here R (.int _) h⟩
  · refine ⟨_, iop_mul, fun v v' d d' S H G Q QD R r r' h hQ => ?_⟩
    cases d <;> cases d' <;> first | exact h.elim | skip
    · rename_i i j
      cases dat_int r; cases dat_int r'
      have h : ((-18446744073709551616 < i ∧ i < 18446744073709551616) ∨ (-18446744073709551616 < j ∧ j < 18446744073709551616)) ∧ QD (.int (i * j)) G := h
      refine ⟨_, _, rfl, rfl, ?_, hQ.here R (.int _) h.2⟩
      have e : (2 : Int) ^ 64 = 18446744073709551616 := by decide
      unfold CMul
      rw [e]
      exact h.1
  · refine ⟨_, iop_or, fun v v' d d' S H G Q QD R r r' h hQ => ?_⟩
    cases d <;> cases d' <;> first | exact h.elim | skip
    cases dat_int r; cases dat_int r'
    exact ⟨_, _, rfl, rfl, hQ.here R (.int _) h⟩
theorem slot_get {K : PySem.W.Frag} {S : Addr → Option Bool} {H : Hp} {G : HD} {σ : St'} {σD : StD} (sl : SlotOk K fnm S H G σ σD) {i : Nat} {d : D} (e : σD.getD i none = some d) : σD[i]? = some (some d) ∧ ∃ v, σ[i]? = some (some v) ∧ Dat K fnm S H G v d := by
  have e2 : σD[i]? = some (some d) := by
    rw [List.getD_eq_getElem?_getD] at e
    cases q : σD[i]? with
    | none => rw [q] at e; cases e
    | some z => rw [q] at e; simp at e; rw [e]
  exact ⟨e2, sl.2 i d e2⟩
theorem js_aug (k : SOk C fnm clm Γ N sc X W) {i : Nat} {x : Str} {px pos : Pos} {o : BOp} {op : Operator} {e : Expr} {ee : E} (ho : augB o op = true) (hi : N[i]? = some x) (hx : locB sc x = true) (he : JE fnm clm X W e (wE Γ ee)) :
    JS fnm clm X W (.AugAssign (.Name x px) op e pos) (wS Γ (.aug i o ee)) := by
  obtain ⟨_, ta, pa, ra⟩ := he
  obtain ⟨r, p1, p2⟩ := aug_ok (fnm := fnm) (clm := clm) (X := X) ho
  refine ⟨_, ps_aug (by rw [k.hN]; exact k.nd) (by rw [k.hN]; exact hi) (loc_of k.toCOk hx) pa p1 (.inl (k.fnT x)), fun S σ σD H G D ED R sl h hP hX => ?_⟩
  obtain ⟨d, e1, h1⟩ := ok_of h
  obtain ⟨_, v, e2, rv⟩ := slot_get sl e1
  refine ⟨v, e2, ?_⟩
  refine ra S σ σD H G _ _ _ R sl h1 (fun w S1 H1 y G1 st1 R1 r1 h2 => ?_) (hX.at R sl)
  refine p2 v w d y S1 H1 G1 _ (fun z G2 => ED.nx (σD.set i (some z)) G2) R1 (rv.step R st1) r1 h2 (fun z S2 H2 d2 G2 st2 R2 r2 h3 => ?_)
  exact hP.nx _ _ S2 H2 G2 (st1.trans st2) R2 (((sl.step R st1).step R1 st2).set r2 i) h3
theorem js_ex (k : SOk C fnm clm Γ N sc X W) {e : Expr} {pos : Pos} {ee : E} (hs : isComp e = false) (he : JE fnm clm X W e (wE Γ ee)) : JS fnm clm X W (.Expr e pos) (wS Γ (.ex ee)) := by
  obtain ⟨_, ta, pa, ra⟩ := he
  refine ⟨_, ps_expr pa (swap_no hs _ _ _), fun S σ σD H G D ED R sl h hP hX => ?_⟩
  exact ra S σ σD H G _ _ _ R sl h (fun v S1 H1 d G1 st1 R1 r1 h1 => hP.nx _ _ S1 H1 G1 st1 R1 (sl.step R st1) h1) (hX.at R sl)
theorem js_ret (k : SOk C fnm clm Γ N sc X W) {e : Expr} {pos : Pos} {ee : E} (he : JE fnm clm X W e (wE Γ ee)) : JS fnm clm X W (.Return (some e) pos) (wS Γ (.ret ee)) := by
  obtain ⟨_, ta, pa, ra⟩ := he
  exact ⟨_, ps_ret pa, fun S σ σD H G D ED R sl h hP hX => ra S σ σD H G _ _ _ R sl h hP.rt (hX.at R sl)⟩
theorem js_retN {pos : Pos} : JS fnm clm X W (.Return none pos) (wS Γ .retN) := ⟨_, ps_retN, fun S σ σD H G D ED R sl h hP hX => hP.rt _ S H _ G .refl R .non h⟩
theorem js_pas {pos : Pos} : JS fnm clm X W (.Pass pos) (wS Γ .pas) := ⟨_, ps_pass, fun S σ σD H G D ED R sl h hP hX => hP.nx σ σD S H G .refl R sl h⟩
theorem js_brk {pos : Pos} : JS fnm clm X W (.Break pos) (wS Γ .brk) := ⟨_, ps_break, fun S σ σD H G D ED R sl h hP hX => hP.bk σ σD S H G .refl R sl h⟩
theorem js_cnt {pos : Pos} : JS fnm clm X W (.Continue pos) (wS Γ .cnt) := ⟨_, ps_continue, fun S σ σD H G D ED R sl h hP hX => hP.ct σ σD S H G .refl R sl h⟩
theorem js_ite {t : Expr} {a b : List Stmt} {pos : Pos} {et : T} {ea eb : Ss} (ht : JT fnm clm X W t (wT Γ et)) (ha : JSs fnm clm X W a (wSs Γ ea)) (hb : JSs fnm clm X W b (wSs Γ eb)) : JS fnm clm X W (.If t a b pos) (wS Γ (.ite et ea eb)) := by
  obtain ⟨tt, pt, rt⟩ := ht
  obtain ⟨ta, pa, ra⟩ := ha
  obtain ⟨tb, pb, rb⟩ := hb
  refine ⟨_, ps_if pt pa pb, fun S σ σD H G D ED R sl h hP hX => ?_⟩
  refine rt S σ σD H G _ _ _ R sl h (fun c S1 H1 G1 st1 R1 h1 => ?_) (hX.at R sl)
  cases c with
  | true => exact ra S1 σ σD H1 G1 D ED R1 (sl.step R st1) h1 (hP.step st1) (hX.step st1)
  | false => exact rb S1 σ σD H1 G1 D ED R1 (sl.step R st1) h1 (hP.step st1) (hX.step st1)
theorem js_for (k : SOk C fnm clm Γ N sc X W) {tg iter : Expr} {body : List Stmt} {pos : Pos} {g : Tgt} {it : I} {eb : Ss} (hset : ∀ elts kk p, iter ≠ .Set elts kk p) (hi : JI fnm clm X W tg iter (wI Γ it)) (hg : JG fnm clm X tg g) (hb : JSs fnm clm X W body (wSs Γ eb)) :
    JS fnm clm X W (.For tg iter body [] pos) (wS Γ (.for_ g it eb)) := by
  obtain ⟨wi, pi, ri⟩ := hi
  obtain ⟨tg', pg, rg⟩ := hg
  obtain ⟨tb, pb, rb⟩ := hb
  refine ⟨_, ps_for k.po k.calm pi pg pb (fun x => by cases iter <;> first | rfl | exact absurd rfl (hset _ _ _)), fun S σ σD H G D ED R sl h hP hX => ?_⟩
  refine ri S σ σD H G _ _ _ R sl h (fun J S1 H1 G1 items st1 R1 itk h1 => ?_) (hX.at R sl)
  refine ⟨fun i m σ H => m = items.length - i ∧ i ≤ items.length ∧ ∃ S' σD G', Step S1 H1 G1 S' H G' ∧ Hel X.K fnm clm S' H G' ∧ SlotOk X.K fnm S' H G' σ σD ∧ wFor g (wSs Γ eb) ED (items.drop i) σD G',
    ⟨items.length, by omega, Nat.zero_le _, S1, σD, G1, .refl, R1, sl.step R st1, h1⟩, ?_⟩
  rintro i m σ1 H2 ⟨rfl, hi, S', σD1, G', st2, R2, sl2, h2⟩
  by_cases hlt : i < items.length
  · obtain ⟨x, hx⟩ : ∃ x, items[i]? = some x := ⟨items[i], List.getElem?_eq_getElem hlt⟩
    have hdrop : items.drop i = x :: items.drop (i + 1) := by
      rw [List.drop_eq_getElem_cons hlt]
      have : items[i] = x := by rw [List.getElem?_eq_getElem hlt] at hx; exact Option.some.inj hx
      rw [this]
    rw [hdrop] at h2
    obtain ⟨σD', ea, h3⟩ := ok_of h2
    obtain ⟨go1, go2⟩ := itk.go S' H2 G' st2 R2 i x hx
    refine .inr ⟨go1, fun σ' H' => ∃ S' σD G', Step S1 H1 G1 S' H' G' ∧ Hel X.K fnm clm S' H' G' ∧ SlotOk X.K fnm S' H' G' σ' σD ∧ wFor g (wSs Γ eb) ED (items.drop (i + 1)) σD G', fun σ' H' w => ⟨items.length - (i + 1), by omega, rfl, hlt, w⟩, fun v H3 y => ?_⟩
    obtain ⟨st3, R3, rv⟩ := go2 v H3 y
    refine rg S' σ1 σD1 H3 G' v x _ σD' R3 (sl2.step R2 st3) rv ea fun σ' sl' _ => ?_
    have stA := st2.trans st3
    refine rb S' σ' σD' H3 G' _ _ R3 sl' h3 ?_ ((hX.step st1).step stA)
    exact ⟨fun σ4 σD4 S4 H4 G4 st4 R4 sl4 q => ⟨S4, σD4, G4, stA.trans st4, R4, sl4, q⟩, fun σ4 σD4 S4 H4 G4 st4 R4 sl4 q => hP.nx _ _ S4 H4 G4 ((st1.trans stA).trans st4) R4 sl4 q,
      fun σ4 σD4 S4 H4 G4 st4 R4 sl4 q => ⟨S4, σD4, G4, stA.trans st4, R4, sl4, q⟩, hP.rt.step (st1.trans stA)⟩
  · have e : i = items.length := by omega
    subst e
    rw [List.drop_length] at h2
    exact .inl ⟨itk.stop S' H2 G' st2 R2, hP.nx σ1 σD1 S' H2 G' (st1.trans st2) R2 sl2 h2⟩
theorem js_forL (k : SOk C fnm clm Γ N sc X W) {tg iter : Expr} {body : List Stmt} {pos : Pos} {g : Tgt} {ea : E} {eb : Ss} (hset : ∀ elts kk p, iter ≠ .Set elts kk p) (hi : JE fnm clm X W iter (wE Γ ea)) (hg : JG fnm clm X tg g) (hb : JSs fnm clm X W body (wSs Γ eb)) :
    JS fnm clm X W (.For tg iter body [] pos) (wS Γ (.forL g ea eb)) := by
  obtain ⟨wi, pi, ri⟩ := jg_of (tg := tg) hi
  obtain ⟨tg', pg, rg⟩ := hg
  obtain ⟨tb, pb, rb⟩ := hb
  refine ⟨_, ps_for k.po k.calm pi pg pb (fun x => by cases iter <;> first | rfl | exact absurd rfl (hset _ _ _)), fun S σ σD H G D ED R sl h hP hX => ?_⟩
  refine ri S σ σD H G _ _ _ R sl h (fun J S1 H1 G1 dl items st1 R1 itk h1 => ?_) (hX.at R sl)
  refine ⟨fun i m σ H => m = items.length - i ∧ i ≤ items.length ∧ ∃ S' σD G', Step S1 H1 G1 S' H G' ∧ Hel X.K fnm clm S' H G' ∧ SlotOk X.K fnm S' H G' σ σD ∧ wForL (gdD dl items) g (wSs Γ eb) ED (items.drop i) σD G',
    ⟨items.length, by omega, Nat.zero_le _, S1, σD, G1, .refl, R1, sl.step R st1, h1⟩, ?_⟩
  rintro i m σ1 H2 ⟨rfl, hi, S', σD1, G', st2, R2, sl2, h2⟩
  by_cases hlt : i < items.length
  · obtain ⟨x, hx⟩ : ∃ x, items[i]? = some x := ⟨items[i], List.getElem?_eq_getElem hlt⟩
    have hdrop : items.drop i = x :: items.drop (i + 1) := by
      rw [List.drop_eq_getElem_cons hlt]
      have : items[i] = x := by rw [List.getElem?_eq_getElem hlt] at hx; exact Option.some.inj hx
      rw [this]
    rw [hdrop] at h2
    obtain ⟨gd, h2⟩ := h2
    obtain ⟨σD', ea, h3⟩ := ok_of h2
    obtain ⟨go1, go2⟩ := itk.go S' H2 G' st2 R2 gd i x hx
    refine .inr ⟨go1, fun σ' H' => ∃ S' σD G', Step S1 H1 G1 S' H' G' ∧ Hel X.K fnm clm S' H' G' ∧ SlotOk X.K fnm S' H' G' σ' σD ∧ wForL (gdD dl items) g (wSs Γ eb) ED (items.drop (i + 1)) σD G', fun σ' H' w => ⟨items.length - (i + 1), by omega, rfl, hlt, w⟩, fun v H3 y => ?_⟩
    obtain ⟨st3, R3, rv⟩ := go2 v H3 y
    refine rg S' σ1 σD1 H3 G' v x _ σD' R3 (sl2.step R2 st3) rv ea fun σ' sl' _ => ?_
    have stA := st2.trans st3
    refine rb S' σ' σD' H3 G' _ _ R3 sl' h3 ?_ ((hX.step st1).step stA)
    exact ⟨fun σ4 σD4 S4 H4 G4 st4 R4 sl4 q => ⟨S4, σD4, G4, stA.trans st4, R4, sl4, q⟩, fun σ4 σD4 S4 H4 G4 st4 R4 sl4 q => hP.nx _ _ S4 H4 G4 ((st1.trans stA).trans st4) R4 sl4 q,
      fun σ4 σD4 S4 H4 G4 st4 R4 sl4 q => ⟨S4, σD4, G4, stA.trans st4, R4, sl4, q⟩, hP.rt.step (st1.trans stA)⟩
  · have e : i = items.length := by omega
    subst e
    rw [List.drop_length] at h2
    obtain ⟨gd, h2⟩ := h2
    exact .inl ⟨itk.stop S' H2 G' st2 R2 gd, hP.nx σ1 σD1 S' H2 G' (st1.trans st2) R2 sl2 h2⟩
theorem js_whl (k : SOk C fnm clm Γ N sc X W) {t : Expr} {body : List Stmt} {pos : Pos} {et : T} {eb : Ss} (ht : JT fnm clm X W t (wT Γ et)) (hb : JSs fnm clm X W body (wSs Γ eb)) : JS fnm clm X W (.While t body [] pos) (wS Γ (.whl et eb)) := by
  obtain ⟨tt, pt, rt⟩ := ht
  obtain ⟨tb, pb, rb⟩ := hb
  refine ⟨_, ps_while k.po pt pb, fun S σ σD H G D ED R sl h hP hX => ?_⟩
  obtain ⟨WD, ⟨m0, w0⟩, turn⟩ := h
  refine ⟨fun m σ' H' => ∃ S' σD' G', Step S H G S' H' G' ∧ Hel X.K fnm clm S' H' G' ∧ SlotOk X.K fnm S' H' G' σ' σD' ∧ WD m σD' G', ⟨m0, S, σD, G, .refl, R, sl, w0⟩, ?_⟩
  rintro m σ1 H1 ⟨S1, σD1, G1, st1, R1, sl1, w1⟩
  refine rt S1 σ1 σD1 H1 G1 _ _ _ R1 sl1 (turn m σD1 G1 w1) (fun b S2 H2 G2 st2 R2 h2 => ?_) ((hX.step st1).at R1 sl1)
  have stA := st1.trans st2
  cases b with
  | true =>
    refine (if_pos rfl).mpr ⟨fun σ' H' => ∃ m', m' < m ∧ ∃ S' σD' G', Step S H G S' H' G' ∧ Hel X.K fnm clm S' H' G' ∧ SlotOk X.K fnm S' H' G' σ' σD' ∧ WD m' σD' G', fun σ' H' q => q, ?_⟩
    refine rb S2 σ1 σD1 H2 G2 _ _ R2 (sl1.step R1 st2) h2 ?_ (hX.step stA)
    exact ⟨fun σ4 σD4 S4 H4 G4 st4 R4 sl4 ⟨m', hm, q⟩ => ⟨m', hm, S4, σD4, G4, stA.trans st4, R4, sl4, q⟩, fun σ4 σD4 S4 H4 G4 st4 R4 sl4 q => hP.nx _ _ S4 H4 G4 (stA.trans st4) R4 sl4 q,
      fun σ4 σD4 S4 H4 G4 st4 R4 sl4 ⟨m', hm, q⟩ => ⟨m', hm, S4, σD4, G4, stA.trans st4, R4, sl4, q⟩, hP.rt.step stA⟩
  | false => exact (if_neg Bool.false_ne_true).mpr (hP.nx σ1 σD1 S2 H2 G2 stA R2 (sl1.step R1 st2) h2)
theorem js_rai (k : SOk C fnm clm Γ N sc X W) {i : Nat} {x m : Str} {j : Nat} {p p2 p3 pos : Pos} (hi : C.cls[i]? = some x) (hx : nameOk x = true) (hg : Gl X x) : JS fnm clm X W (.Raise (some (.Call (.Name x p) [.Constant (.str m) j p2] [] p3)) none pos) (wS Γ (.rai i)) := by
  obtain ⟨c, h1, h2, h3, h4, h5⟩ := k.cls i x hi
  exact ⟨_, ps_raise k.calm k.tk (pmk_own PySem.F.excBase_ValueError h3 h2 h4 h5 hg (name_debug hx).1), fun S σ σD H G D ED R sl h hP hX => hX i c σ σD S H G .refl R sl h1 h⟩
theorem jss_nil : JSs fnm clm X W [] (wSs Γ .n) := ⟨_, pss_nil, fun S σ σD H G D ED R sl h hP hX => hP.nx σ σD S H G .refl R sl h⟩
theorem jss_cons {s : Stmt} {ss : List Stmt} {es : DL.S} {ess : Ss} (h1 : JS fnm clm X W s (wS Γ es)) (h2 : JSs fnm clm X W ss (wSs Γ ess)) : JSs fnm clm X W (s :: ss) (wSs Γ (.c es ess)) := by
  obtain ⟨ta, pa, ra⟩ := h1
  obtain ⟨tb, pb, rb⟩ := h2
  refine ⟨_, pss_cons pa pb, fun S σ σD H G D ED R sl h hP hX => ?_⟩
  refine ra S σ σD H G _ _ R sl h ?_ hX
  exact ⟨fun σ4 σD4 S4 H4 G4 st4 R4 sl4 q => rb S4 σ4 σD4 H4 G4 D ED R4 sl4 q (hP.step st4) (hX.step st4), hP.bk, hP.ct, hP.rt⟩
theorem jss_fz {i : Nat} {ss : List Stmt} {ess : Ss} (h2 : JSs fnm clm X W ss (wSs Γ ess)) : JSs fnm clm X W ss (wSs Γ (.c (.fz i) ess)) := by
  obtain ⟨tb, pb, rb⟩ := h2
  refine ⟨tb, pb, fun S σ σD H G D ED R sl h hP hX => ?_⟩
  obtain ⟨d, e, h⟩ := ok_of (show ok (σD.getD i none) fun d => frzD d G fun d' H1 => wSs Γ ess ED (σD.set i (some d')) H1 from h)
  obtain ⟨e1, v, e2, rv⟩ := slot_get sl e
  have same : ∀ {S : Addr → Option Bool} {H : Hp} {G : HD} {d' : DL.D}, SlotOk X.K fnm S H G σ σD → Dat X.K fnm S H G v d' → SlotOk X.K fnm S H G σ (σD.set i (some d')) := by
    intro S H G d' sl r
    refine ⟨by rw [List.length_set]; exact sl.1, fun j q e3 => ?_⟩
    by_cases hj : i = j
    · subst hj
      rw [List.getElem?_set_self (List.getElem?_eq_some_iff.mp e1).1] at e3
      cases e3
      exact ⟨v, e2, r⟩
    · rw [List.getElem?_set_ne hj] at e3
      exact sl.2 j q e3
  have fin : ∀ d' G', Step S H G S H G' → Hel X.K fnm clm S H G' → Dat X.K fnm S H G' v d' → wSs Γ ess ED (σD.set i (some d')) G' → tb D σ H := fun d' G' st R' r' h' =>
    rb S σ _ H G' D ED R' (same (sl.step R st) r') h' (hP.step st) (hX.step st)
  cases d with
  | ref a =>
    cases dat_ref rv
    cases q : G a with
    | none => simp [frzD, q] at h
    | some c =>
      cases c with
      | lst ds =>
        simp only [frzD, q] at h
        obtain ⟨vs, h1, h2, h3⟩ := R.cell a _ q
        have st : Step S H G S H (delD G a) := .less sub_del
        exact fin _ _ st (R.less sub_del) (.lst h1 delD_same (R.live (by rw [q]; simp)) h2 (h3.step R st)) h
      | dct _ => simp [frzD, q] at h
      | ins _ _ => simp [frzD, q] at h
  | _ => exact fin _ G .refl R rv h
end
end DL

namespace DL
open PySem PySem.Spec PyProof.Rows L2
/-! ## 10K. Instances of own classes -/
section
variable {K : PySem.W.Frag} {fnm clm : Nat → Option Addr} {S S' : Addr → Option Bool} {H H' : Hp} {G G' : HD}
theorem FsAll.get : ∀ {vs : List (Str × V)} {ds : List (Str × D)} {f : Str} {d : D}, FsAll K fnm S H G vs ds → ds.lookup f = some d → ∃ v, vs.lookup f = some v ∧ Dat K fnm S H G v d
  | _, _, _, _, .nil, e => by cases e
  | _, _, f, _, .cons (x := x) r t, e => by
    rw [List.lookup_cons] at e ⊢
    cases q : f == x with
    | true => rw [q] at e; cases e; exact ⟨_, rfl, r⟩
    | false => rw [q] at e; exact FsAll.get t e
theorem FsAll.none_of : ∀ {vs : List (Str × V)} {ds : List (Str × D)} {f : Str}, FsAll K fnm S H G vs ds → ds.lookup f = none → vs.lookup f = none
  | _, _, _, .nil, _ => rfl
  | _, _, f, .cons (x := x) r t, e => by
    rw [List.lookup_cons] at e ⊢
    cases q : f == x with
    | true => rw [q] at e; cases e
    | false => rw [q] at e; exact FsAll.none_of t e
theorem FsAll.length : ∀ {vs : List (Str × V)} {ds : List (Str × D)}, FsAll K fnm S H G vs ds → vs.length = ds.length
  | _, _, .nil => rfl
  | _, _, .cons _ t => by rw [List.length_cons, List.length_cons, FsAll.length t]
theorem FsAll.put {f : Str} {v : V} {d : D} (r : Dat K fnm S H G v d) : ∀ {vs : List (Str × V)} {ds : List (Str × D)}, FsAll K fnm S H G vs ds → FsAll K fnm S H G (putF f v vs) (putFD f d ds)
  | _, _, .nil => .cons r .nil
  | _, _, .cons (x := x) q t => by
    unfold putF putFD
    by_cases e : x = f
    · rw [if_pos e, if_pos e]; exact .cons r t
    · rw [if_neg e, if_neg e]; exact .cons q (FsAll.put r t)
/-- an instance at p: a new one, a changed one -/
theorem Hel.putI (R : Hel K fnm clm S H G) {p c dx C : Addr} {vs : List (Str × V)} {ds : List (Str × D)} (hc : fnm (1000 + C) = some c) (st : Step S H G S (upd H p (.ins c dx vs)) (updD G p (.ins C ds))) (ns : S p = none) (r : FsAll K fnm S H G vs ds) :
    Hel K fnm clm S (upd H p (.ins c dx vs)) (updD G p (.ins C ds)) := by
  have k := Keep.of R st
  refine ⟨fun a o e => ?_, fun a e => ?_, fun a e => ?_⟩
  · by_cases q : a = p
    · subst q
      rw [updD_same] at e; cases e
      exact ⟨c, dx, vs, hc, upd_same, r.keep k⟩
    · rw [updD_ne q] at e
      exact (R.cell a o e).step R st (upd_ne q)
  · obtain ⟨g, r⟩ := R.rnd a e
    have q : a ≠ p := fun z => by rw [z, ns] at e; cases e
    exact ⟨by rw [updD_ne q]; exact g, r.step R st (upd_ne q)⟩
  · obtain ⟨g, r⟩ := R.res a e
    have q : a ≠ p := fun z => by rw [z, ns] at e; cases e
    exact ⟨by rw [updD_ne q]; exact g, by rw [upd_ne q]; exact r⟩
theorem ins_of {a : Addr} {P : Nat → List (Str × D) → Prop} (h : match G a with | some (.ins c fs) => P c fs | _ => False) : ∃ c fs, G a = some (.ins c fs) ∧ P c fs := by
  cases e : G a with
  | none => rw [e] at h; exact h.elim
  | some c =>
    rw [e] at h
    cases c with
    | ins c fs => exact ⟨c, fs, rfl, h⟩
    | _ => exact h.elim
theorem attD_by {c : Nat} {f : Str} {x d : D} (h : attD c f x G = some d) : ∃ a fs, x = .ref a ∧ G a = some (.ins c fs) ∧ fs.lookup f = some d := by
  cases x with
  | ref a =>
    unfold attD at h
    cases e : G a with
    | none => simp [e] at h
    | some o =>
      cases o with
      | ins c' fs =>
        simp only [e] at h
        by_cases q : c' = c
        · rw [if_pos q] at h; subst q; exact ⟨a, fs, rfl, e, h⟩
        · rw [if_neg q] at h; cases h
      | _ => simp [e] at h
  | _ => cases h
theorem insB_by {c : Nat} {f : Str} {x : D} (h : insB c f x G = true) : ∃ a fs, x = .ref a ∧ G a = some (.ins c fs) ∧ fs.lookup f = none := by
  cases x with
  | ref a =>
    unfold insB at h
    cases e : G a with
    | none => simp [e] at h
    | some o =>
      cases o with
      | ins c' fs =>
        simp only [e, Bool.and_eq_true, decide_eq_true_eq, Option.isNone_iff_eq_none] at h
        obtain ⟨rfl, h2⟩ := h
        exact ⟨a, fs, rfl, e, h2⟩
      | _ => simp [e] at h
  | _ => cases h
end
/-! ### the rules, what is raised wished for at the caller's slots -/
section
variable {X : Cx} {CX : CXT} {k : Nat} {f C : Addr} {fd : FuncData} {ps : List Str} {sp : Sp} {E : L2.St → XK} {x m : Str} {p pos apos : Pos} {e o : Expr} {es : List Expr} {ta : TE} {t : TA}
def tMethD (C : Addr) (m : Str) (sp : Sp) (E : L2.St → XK) (ta : TE) (t : TA) : TE := fun σ H Q => ta σ H fun x H1 => ∃ a dx fs, (x = .ref a ∧ H1 a = some (.ins C dx fs) ∧ fs.lookup m = none) ∧ t σ H1 fun vs H2 => sp (.ref a :: vs) H2 Q (E σ)
def tMakeD (C : Addr) (sp : Sp) (E : L2.St → XK) (t : TA) : TE := fun σ H Q => t σ H fun vs H1 => ∀ y dx, H1 y = none → H1 dx = none → dx ≠ y →
  sp (.ref y :: vs) (upd (upd H1 dx (.own y)) y (.ins C dx [])) (fun v H2 => v = .non ∧ Q (.ref y) H2) (E σ)
theorem pe_methD {pl : Sem Bool} (ho : PE X o ta) (cl : Cls X.K C) (me : Meth X.K C m f) (F : FnOkG X.prog X.w X.K X.mg X.base CX k f fd ps sp) (room : Room k X.A) (gd : X.A.guards = some []) (bi : Binds X.K fd ps []) (px : ∀ σ, PassesAt CX X σ (E σ)) (pa : PA X (e :: es) t)
    (s1 : starEach (e :: es) X.env = (false, eval e X.env) :: starEach es X.env) (s2 : (backTo pos (starEach es X.env)).any (·.1) = false)
    (tree : eval (.Call (.Attribute o m apos) (e :: es) [] pos) X.env = (eval o X.env >>= fun ov => standAt apos.atName >>= fun _ => holding [ov] (getMethod ov m pl) >>= fun g => callWith pos g.1 g.2 (backTo pos (starEach (e :: es) X.env)) (backToKw pos (keywordEach [] X.env)))) :
    PE X (.Call (.Attribute o m apos) (e :: es) [] pos) (tMethD C m sp E ta t) := by
  constructor
  intro pins s σ H Q I h
  refine PySem.W.methodCall_KW (pl := pl) (thn (ho.run pins s σ H _ I h) ?_) tree
  rintro u s1' ⟨x, H1, I1, ru, a, dx, fs, ⟨rfl, ha, hn⟩, q⟩
  cases (show u = Value.ref a from ru)
  refine getmeth_ok I1 ha cl me hn ?_
  refine PySem.W.callWith_K (first := [.ref a]) (h₀ := X.base) I1.ok.mod.kin me.kp (thn (pa.run pos pins s1' σ H1 _ I1 q) ?_) s1 s2
  rintro us s2' ⟨vs, H2, I2, rs, q2⟩
  refine ⟨I2.kIn, ?_⟩
  exact run_fnG F room gd bi (px σ) I2 (us := .ref a :: us) (vs := .ref a :: vs) (.cons rfl rs) q2
theorem pe_methD0 {pl : Sem Bool} (ho : PE X o ta) (cl : Cls X.K C) (me : Meth X.K C m f) (F : FnOkG X.prog X.w X.K X.mg X.base CX k f fd ps sp) (room : Room k X.A) (gd : X.A.guards = some []) (bi : Binds X.K fd ps []) (px : ∀ σ, PassesAt CX X σ (E σ))
    (tree : eval (.Call (.Attribute o m apos) [] [] pos) X.env = (eval o X.env >>= fun ov => standAt apos.atName >>= fun _ => holding [ov] (getMethod ov m pl) >>= fun g => callWith pos g.1 g.2 (backTo pos (starEach [] X.env)) (backToKw pos (keywordEach [] X.env)))) :
    PE X (.Call (.Attribute o m apos) [] [] pos) (tMethD C m sp E ta tNil) := by
  constructor
  intro pins s σ H Q I h
  refine PySem.W.methodCall_KW (pl := pl) (thn (ho.run pins s σ H _ I h) ?_) tree
  rintro u s1' ⟨x, H1, I1, ru, a, dx, fs, ⟨rfl, ha, hn⟩, q⟩
  cases (show u = Value.ref a from ru)
  refine getmeth_ok I1 ha cl me hn ?_
  exact PySem.W.callWith_K0 (first := [.ref a]) I1.kIn me.kp (run_fnG F room gd bi (px σ) I1 (us := [.ref a]) (vs := [.ref a]) (.cons rfl .nil) q)
theorem run_makeD {pins : List (Addr × Obj)} {σ : L2.St} {H : Hp} {s : Shared} {Q : VK} {us : List Value} {vs : List V} (M : Mk X.K C f) (F : FnOkG X.prog X.w X.K X.mg X.base CX k f fd ps sp) (room : RoomM k X.A) (gd : X.A.guards = some []) (bi : Binds X.K fd ps []) (px : PassesAt CX X σ (E σ))
    (I : Inv X pins σ H s) (r : Vals vs us)
    (h : ∀ y dx, H y = none → H dx = none → dx ≠ y → sp (.ref y :: vs) (upd (upd H dx (.own y)) y (.ins C dx [])) (fun v H2 => v = .non ∧ Q (.ref y) H2) (E σ)) :
    wpAny (model X.prog X.w) X.A (call (.ref C) us) (EP X pins σ Q) X.xe s := by
  have q := h (s.heap.objs.size + 1) s.heap.objs.size (I.hok.fresh (Nat.le_succ _)) (I.hok.fresh (Nat.le_refl _)) (Nat.ne_of_lt (Nat.lt_succ_self _))
  have J := I.made (C := C)
  have rr : Vals (V.ref (s.heap.objs.size + 1) :: vs) (Value.ref (s.heap.objs.size + 1) :: us) := .cons rfl r
  have b2 := bi _ (Value.ref (s.heap.objs.size + 1) :: us) J.kIn (by rw [List.append_nil, ← rr.length]; exact F.len _ _ _ _ q)
  rw [List.append_nil] at b2
  refine wpAny_call (make_map (f := f) I.kIn M.makes M.init (beq_iff_eq.mp M.fn) (codeAny_mono (F.run _ X.stack _ _ _ _ _ _ _ (room.m C us) (guards_make gd) (J.env0.make C us []) b2 rr q) fun fl s2 hq => ?_))
  match fl, hq with
  | .error _, hq => exact px pins _ _ _ s2 J hq
  | .ok (.ret u), hq =>
    obtain ⟨v, G, J2, rv, ev, q3⟩ := J.after hq
    subst ev
    exact ⟨rv, ⟨V.ref (s.heap.objs.size + 1), _, J2, rfl, q3⟩⟩
  | .ok .next, hq => exact hq.elim
  | .ok .brk, hq => exact hq.elim
  | .ok .cont, hq => exact hq.elim
theorem pe_makeD (M : Mk X.K C f) (F : FnOkG X.prog X.w X.K X.mg X.base CX k f fd ps sp) (room : RoomM k X.A) (gd : X.A.guards = some []) (gl : Gl X x) (mx : X.mg x = some (.ref C)) (bi : Binds X.K fd ps []) (px : ∀ σ, PassesAt CX X σ (E σ)) (pa : PA X (e :: es) t)
    (nd : (x == ("__debug__" : Str)) = false) (s1 : starEach (e :: es) X.env = (false, eval e X.env) :: starEach es X.env) (s2 : (backTo pos (starEach es X.env)).any (·.1) = false) : PE X (.Call (.Name x p) (e :: es) [] pos) (tMakeD C sp E t) := by
  constructor
  intro pins s σ H Q I h
  refine wpAny_Call_Name_kw (ld_glob I gl mx ?_ nd)
  refine PySem.W.callWith_K (h₀ := X.base) I.ok.mod.kin M.kp (thn (pa.run pos pins s σ H _ I h) ?_) s1 s2
  rintro us s1' ⟨vs, H1, I1, rs, q⟩
  exact ⟨I1.kIn, run_makeD M F room gd bi (px σ) I1 rs q⟩
end
/-! ### over data -/
/-- what an attribute is read of: nothing but a name, an item -/
def okObj : Expr → Bool
  | .Name _ _ => true
  | .Subscript _ _ _ => true
  | _ => false
theorem okObj_base {o : Expr} (h : okObj o = true) (m : Str) (env : Env) : attributeBase o m env (eval o env) = eval o env := by
  cases o <;> first | rfl | cases h
theorem tree_of {o : Expr} {m : Str} {apos pos : Pos} {args : List Expr} {env : Env} (hb : attributeBase o m env (eval o env) = eval o env) (hl : (apos.endLine == pos.line) = true)
    (hf : methodCallForm (args.length + ([] : List Keyword).length) (backTo pos (starEach args env)) (backToKw pos (keywordEach [] env)) = true) :
    eval (.Call (.Attribute o m apos) args [] pos) env = (eval o env >>= fun ov => standAt apos.atName >>= fun _ => holding [ov] (getMethod ov m (importBound o env >>= fun b => pure (b.getD true))) >>= fun g => callWith pos g.1 g.2 (backTo pos (starEach args env)) (backToKw pos (keywordEach [] env))) := by
  rw [arm_eval_Call, hb]
  have hp : methodCallPos true o env apos pos = pure pos := by unfold methodCallPos; simp [hl]
  unfold methodCall
  rw [hf]
  rw [hp]
  rfl
theorem form_of {e : Expr} {es : List Expr} {pos : Pos} {env : Env} (s1 : starEach (e :: es) env = (false, eval e env) :: starEach es env) (s2 : (backTo pos (starEach es env)).any (·.1) = false) (hn : (e :: es).length < 30) :
    methodCallForm ((e :: es).length + ([] : List Keyword).length) (backTo pos (starEach (e :: es) env)) (backToKw pos (keywordEach [] env)) = true := by
  have h1 : (backTo pos (starEach (e :: es) env)).all (!·.1) = true := by
    rw [s1]
    have : (backTo pos (starEach es env)).all (!·.1) = true := by
      rw [List.all_eq_true]
      intro x hx
      rw [List.any_eq_false] at s2
      simpa using s2 x hx
    simpa [backTo] using this
  unfold methodCallForm
  rw [h1]
  have : (backToKw pos (keywordEach [] env)) = [] := rfl
  rw [this]
  simpa using hn
section
variable {C : Cfg} {fnm clm : Nat → Option Addr} {Γ : Gam} {N : List Str} {sc : Scope} {X : Cx} {W : WX}
theorem je_fld (k : COk C fnm clm Γ N sc X W) {c : Nat} {oc : Oc} {o : Expr} {f : Str} {pos : Pos} {eo : E} (hc : C.ocs[c]? = some oc) (hf : f ∈ oc.fds) (hb : okObj o = true) (ho : JE fnm clm X W o (wE Γ eo)) : JE fnm clm X W (.Attribute o f pos) (wE Γ (.fld c eo f)) := by
  obtain ⟨_, ta, pa, ra⟩ := ho
  obtain ⟨ca, h1, h2, h3, h4, _⟩ := (k.ocs c oc hc).ex
  refine ⟨rfl, _, pe_fld pa (okObj_base hb _ _), fun S σ σD H G Q QD XD R sl h hQ hX => ?_⟩
  refine ra S σ σD H G _ _ XD R sl h (fun v S1 H1 d G1 st1 R1 r1 h5 => ?_) hX
  obtain ⟨d2, e2, q⟩ := ok_of h5
  obtain ⟨a, fs, rfl, hg, hl⟩ := attD_by e2
  cases dat_ref r1
  obtain ⟨ca', dx, vs, g1, g2, g3⟩ := R1.cell a _ hg
  cases h1.symm.trans g1
  obtain ⟨v2, l2, r2⟩ := g3.get hl
  exact ⟨a, ca, dx, vs, v2, rfl, g2, h3, h4 f hf, l2, (hQ.step st1).here R1 r2 q⟩
theorem meth_of (k : COk C fnm clm Γ N sc X W) {c i : Nat} {oc : Oc} {m x : Str} {n : Nat} (hc : C.ocs[c]? = some oc) (hm : (m, i) ∈ oc.mts) (hf : C.fns[i]? = some (x, n)) :
    ∃ ca g fd ps l, fnm (1000 + c) = some ca ∧ Cls X.K ca ∧ Meth X.K ca m g ∧ ps.length = n ∧ Binds X.K fd ps [] ∧ RoomM l X.A ∧ FnOkG X.prog X.w X.K X.mg X.base (L2.CX X.prog X.w) l g fd ps (lift X.K fnm clm n (Γ.sp i)) := by
  obtain ⟨l, hr, hk⟩ := k.fnk
  obtain ⟨ca, h1, h2, h3, h4, h5, _⟩ := (k.ocs c oc hc).ex
  obtain ⟨g, g1, g2⟩ := h5 _ hm
  obtain ⟨a, fd, ps, q0, q1, _, _, q4, q5⟩ := (hk i (x, n) hf).ex
  cases g1.symm.trans q1
  exact ⟨ca, g, fd, ps, l, h1, h3, g2, q0, q4, hr, q5⟩
theorem je_mcl (k : COk C fnm clm Γ N sc X W) {c i n : Nat} {oc : Oc} {m x : Str} {o e : Expr} {es : List Expr} {apos pos : Pos} {eo : E} {ees : Es} (hc : C.ocs[c]? = some oc) (hm : (m, i) ∈ oc.mts) (hf : C.fns[i]? = some (x, n)) (hn : (e :: es).length + 1 = n) (hl : (apos.endLine == pos.line) = true) (hz : (e :: es).length < 30)
    (hb : okObj o = true) (ho : JE fnm clm X W o (wE Γ eo)) (h : JA fnm clm X W (e :: es) (wEs Γ ees)) : JE fnm clm X W (.Call (.Attribute o m apos) (e :: es) [] pos) (wE Γ (.mcl c m i eo ees)) := by
  obtain ⟨_, to, po, ro⟩ := ho
  obtain ⟨ss, ta, pa, ra⟩ := h
  obtain ⟨ca, g, fd, ps, l, h1, h3, hme, _, hbi, hr, F⟩ := meth_of k hc hm hf
  have s1 := star_no (ss e List.mem_cons_self) es X.env
  have s2 := star_all (fun y hy => ss y (List.mem_cons_of_mem _ hy)) pos X.env
  refine ⟨rfl, tMethD ca m (lift X.K fnm clm n (Γ.sp i)) (WE W) to ta, ?_, fun S σ σD H G Q QD XD R sl h hQ hX => ?_⟩
  · exact pe_methD po h3 hme F hr.r k.grd hbi (fun σ => passAt k.tk σ) pa s1 s2 (tree_of (okObj_base hb _ _) hl (form_of s1 s2 hz))
  refine ro S σ σD H G _ _ XD R sl h (fun v S1 H1 d G1 st1 R1 r1 h5 => ?_) hX
  obtain ⟨h5, h6⟩ := h5
  obtain ⟨a, fs, rfl, hg, hno⟩ := insB_by h5
  cases dat_ref r1
  obtain ⟨ca', dx, vs, g1, g2, g3⟩ := R1.cell a _ hg
  cases h1.symm.trans g1
  refine ⟨a, dx, vs, ⟨rfl, g2, g3.none_of hno⟩, ?_⟩
  refine ra S1 σ σD H1 G1 _ _ XD R1 (sl.step R st1) h6 (fun us S2 H2 ds G2 hlen st2 R2 r2 h7 => ?_) (hX.step st1)
  exact ⟨by rw [List.length_cons, hlen]; exact hn, S2, G2, .ref a :: ds, QD, XD, R2, .cons (.ref a) r2, h7, hQ.step (st1.trans st2), hX.step (st1.trans st2)⟩
theorem je_mcl0 (k : COk C fnm clm Γ N sc X W) {c i n : Nat} {oc : Oc} {m x : Str} {o : Expr} {apos pos : Pos} {eo : E} (hc : C.ocs[c]? = some oc) (hm : (m, i) ∈ oc.mts) (hf : C.fns[i]? = some (x, n)) (hn : 1 = n) (hl : (apos.endLine == pos.line) = true)
    (hb : okObj o = true) (ho : JE fnm clm X W o (wE Γ eo)) : JE fnm clm X W (.Call (.Attribute o m apos) [] [] pos) (wE Γ (.mcl c m i eo .n)) := by
  obtain ⟨_, to, po, ro⟩ := ho
  obtain ⟨ca, g, fd, ps, l, h1, h3, hme, _, hbi, hr, F⟩ := meth_of k hc hm hf
  refine ⟨rfl, tMethD ca m (lift X.K fnm clm n (Γ.sp i)) (WE W) to tNil, ?_, fun S σ σD H G Q QD XD R sl h hQ hX => ?_⟩
  · exact pe_methD0 po h3 hme F hr.r k.grd hbi (fun σ => passAt k.tk σ) (tree_of (okObj_base hb _ _) hl rfl)
  refine ro S σ σD H G _ _ XD R sl h (fun v S1 H1 d G1 st1 R1 r1 h5 => ?_) hX
  obtain ⟨h5, h6⟩ := h5
  obtain ⟨a, fs, rfl, hg, hno⟩ := insB_by h5
  cases dat_ref r1
  obtain ⟨ca', dx, vs, g1, g2, g3⟩ := R1.cell a _ hg
  cases h1.symm.trans g1
  refine ⟨a, dx, vs, ⟨rfl, g2, g3.none_of hno⟩, ?_⟩
  exact ⟨hn, S1, G1, [.ref a], QD, XD, R1, .cons (.ref a) .nil, h6, hQ.step st1, hX.step st1⟩
/-- what a class's making brings -/
theorem mak_ref (k : COk C fnm clm Γ N sc X W) {c ca n : Nat} {i : Nat} {S S1 : Addr → Option Bool} {σ : L2.St} {H H1 : Hp} {G G1 : HD} {QD : KD} {Q : VK} {XD : KX} {vs : List V} {ds : List D} (hc : fnm (1000 + c) = some ca) (hn : vs.length + 1 = n) (R1 : Hel X.K fnm clm S1 H1 G1) (r : DatAll X.K fnm S1 H1 G1 vs ds)
    (h : ∀ p, G1 p = none → Γ.sp i (.ref p :: ds) (updD G1 p (.ins c [])) (fun d H2 => d = .non ∧ QD (.ref p) H2) XD) (st : Step S H G S1 H1 G1) (hQ : PostE X.K fnm clm S H G QD Q) (hX : PostX X.K fnm clm W σ S H G XD) :
    ∀ y dx, H1 y = none → H1 dx = none → dx ≠ y → lift X.K fnm clm n (Γ.sp i) (.ref y :: vs) (upd (upd H1 dx (.own y)) y (.ins ca dx [])) (fun v H2 => v = .non ∧ Q (.ref y) H2) (WE W σ) := by
  intro y dx hy hdx ne
  have R2 : Hel X.K fnm clm S1 (upd H1 dx (.own y)) G1 := R1.newU hdx
  have s2 : Step S1 H1 G1 S1 (upd H1 dx (.own y)) G1 := Step.newU hdx
  have hy2 : upd H1 dx (.own y) y = none := by rw [upd_ne (fun z => ne z.symm)]; exact hy
  have s3 : Step S1 (upd H1 dx (.own y)) G1 S1 (upd (upd H1 dx (.own y)) y (.ins ca dx [])) (updD G1 y (.ins c [])) := Step.new hy2
  have R3 : Hel X.K fnm clm S1 (upd (upd H1 dx (.own y)) y (.ins ca dx [])) (updD G1 y (.ins c [])) := R2.putI hc s3 (R2.free hy2).2 .nil
  have s4 := s2.trans s3
  refine ⟨hn, S1, _, .ref y :: ds, _, XD, R3, .cons (.ref y) (r.step R1 s4), h y (R1.free hy).1, fun v S' H' d G' st' R' rv q => ?_, fun x cx S' H' G' st' R' hcx hx => hX x cx S' H' G' ((st.trans s4).trans st') R' hcx hx⟩
  obtain ⟨rfl, q⟩ := q
  cases rv
  exact ⟨rfl, hQ _ S' H' _ G' ((st.trans s4).trans st') R' (.ref y) q⟩
theorem je_mak (k : COk C fnm clm Γ N sc X W) {c i n : Nat} {oc : Oc} {x : Str} {e : Expr} {es : List Expr} {p pos : Pos} {ees : Es} (hc : C.ocs[c]? = some oc) (hi : oc.ini = some i) (hf : C.fns[i]? = some (x, n)) (hn : (e :: es).length + 1 = n)
    (hx : nameOk oc.x = true) (hg : Gl X oc.x) (h : JA fnm clm X W (e :: es) (wEs Γ ees)) : JE fnm clm X W (.Call (.Name oc.x p) (e :: es) [] pos) (wE Γ (.mak c i ees)) := by
  obtain ⟨ss, ta, pa, ra⟩ := h
  obtain ⟨l, hr, hk⟩ := k.fnk
  obtain ⟨ca, h1, h2, h3, h4, _, h6⟩ := (k.ocs c oc hc).ex
  obtain ⟨g, g1, M⟩ := h6 i hi
  obtain ⟨a, fd, ps, q0, q1, _, _, q4, q5⟩ := (hk i (x, n) hf).ex
  cases g1.symm.trans q1
  have s1 := star_no (ss e List.mem_cons_self) es X.env
  have s2 := star_all (fun y hy => ss y (List.mem_cons_of_mem _ hy)) pos X.env
  refine ⟨rfl, _, pe_makeD M q5 hr k.grd hg h2 q4 (fun σ => passAt k.tk σ) pa (name_debug hx).1 s1 s2, fun S σ σD H G Q QD XD R sl h hQ hX => ?_⟩
  refine ra S σ σD H G _ _ XD R sl h (fun vs S1 H1 ds G1 hlen st1 R1 r1 h5 => ?_) hX
  exact mak_ref k h1 (by rw [hlen]; exact hn) R1 r1 h5 st1 hQ hX
theorem js_setF (k : SOk C fnm clm Γ N sc X W) {c : Nat} {oc : Oc} {o e : Expr} {f : Str} {pos' pos : Pos} {eo ee : E} (hc : C.ocs[c]? = some oc) (hf : f ∈ oc.fds) (hs : isComp e = false) (ho : JE fnm clm X W o (wE Γ eo)) (he : JE fnm clm X W e (wE Γ ee)) :
    JS fnm clm X W (.Assign [.Attribute o f pos'] e pos) (wS Γ (.setF c eo f ee)) := by
  obtain ⟨_, ta, pa, ra⟩ := he
  obtain ⟨_, to, po, ro⟩ := ho
  obtain ⟨ca, h1, h2, h3, h4, _⟩ := (k.ocs c oc hc).ex
  refine ⟨_, ps_fld po pa (swap_no hs _ _ _), fun S σ σD H G D ED R sl h hP hX => ?_⟩
  refine ra S σ σD H G _ _ _ R sl h (fun v S1 H1 d G1 st1 R1 r1 h5 => ?_) (hX.at R sl)
  refine ro S1 σ σD H1 G1 _ _ _ R1 (sl.step R st1) h5 (fun vo S2 H2 x G2 st2 R2 r2 h6 => ?_) ((hX.at R sl).step st1)
  cases x <;> try exact h6.elim
  rename_i a
  cases dat_ref r2
  obtain ⟨c', fs, hg, ⟨rfl, hl⟩, q⟩ := ins_of (P := fun c' fs => (c' = c ∧ fs.length < 1000) ∧ ED.nx σD (updD G2 a (.ins c (putFD f d fs)))) h6
  obtain ⟨ca', dx, vs, g1, g2, g3⟩ := R2.cell a _ hg
  cases h1.symm.trans g1
  have ne : G2 a ≠ none := by rw [hg]; simp
  have st3 : Step S2 H2 G2 S2 (upd H2 a (.ins ca dx (putF f v vs))) (updD G2 a (.ins c' (putFD f d fs))) := .write ne
  have R3 := R2.putI h1 st3 (R2.live ne) (FsAll.put (r1.step R1 st2) g3)
  have st := (st1.trans st2).trans st3
  exact ⟨a, ca, dx, vs, rfl, g2, h3, h4 f hf, by rw [g3.length]; exact hl, hP.nx σ σD S2 _ _ st R3 (sl.step R st) q⟩
theorem js_augF (k : SOk C fnm clm Γ N sc X W) {c : Nat} {oc : Oc} {o e : Expr} {f : Str} {pos' pos : Pos} {eo ee : E} (hc : C.ocs[c]? = some oc) (hf : f ∈ oc.fds) (ho : JE fnm clm X W o (wE Γ eo)) (he : JE fnm clm X W e (wE Γ ee)) :
    JS fnm clm X W (.AugAssign (.Attribute o f pos') .Add e pos) (wS Γ (.augF c eo f ee)) := by
  obtain ⟨_, ta, pa, ra⟩ := he
  obtain ⟨_, to, po, ro⟩ := ho
  obtain ⟨ca, h1, h2, h3, h4, _⟩ := (k.ocs c oc hc).ex
  refine ⟨_, ps_fldaug po pa in_add, fun S σ σD H G D ED R sl h hP hX => ?_⟩
  refine ro S σ σD H G _ _ _ R sl h (fun vo S1 H1 x G1 st1 R1 r1 h5 => ?_) (hX.at R sl)
  obtain ⟨dv, e2, h6⟩ := ok_of h5
  obtain ⟨a, fs, rfl, hg, hl⟩ := attD_by e2
  cases dat_ref r1
  obtain ⟨ca', dx, vs, g1, g2, g3⟩ := R1.cell a _ hg
  cases h1.symm.trans g1
  obtain ⟨v2, l2, r2⟩ := g3.get hl
  refine ⟨a, ca, dx, vs, v2, rfl, g2, h3, h4 f hf, l2, ?_⟩
  refine ra S1 σ σD H1 G1 _ _ _ R1 (sl.step R st1) h6 (fun vy S2 H2 y G2 st2 R2 r3 h7 => ?_) ((hX.at R sl).step st1)
  cases dv <;> try exact h7.elim
  cases y <;> try exact h7.elim
  rename_i i j
  cases dat_int r2; cases dat_int r3
  obtain ⟨c', fs', hg2, ⟨rfl, hl2⟩, q⟩ := ins_of (P := fun c' fs => (c' = c ∧ fs.length < 1000) ∧ ED.nx σD (updD G2 a (.ins c (putFD f (.int (i + j)) fs)))) h7
  obtain ⟨ca', dx', vs', g1', g2', g3'⟩ := R2.cell a _ hg2
  cases h1.symm.trans g1'
  have ne : G2 a ≠ none := by rw [hg2]; simp
  have st3 : Step S2 H2 G2 S2 (upd H2 a (.ins ca dx' (putF f (.int (i + j)) vs'))) (updD G2 a (.ins c' (putFD f (.int (i + j)) fs'))) := .write ne
  have R3 := R2.putI h1 st3 (R2.live ne) (FsAll.put (.int _) g3')
  have st := (st1.trans st2).trans st3
  exact ⟨i, j, rfl, rfl, dx', vs', g2', by rw [g3'.length]; exact hl2, hP.nx σ σD S2 _ _ st R3 (sl.step R st) q⟩
end
end DL

namespace DL
open PySem PySem.Spec PyProof.Rows L2
/-! ## 11. Does the text match? -/
def visB (sc : Scope) (x : Str) : Bool := match sc.names.lookup x with | some .local => true | some .cell => true | some .free => true | _ => false
def glB (sc : Scope) (x : Str) : Bool := match sc.names.lookup x with | some .globalImplicit => true | _ => false
def conB (c : Const) (d : D) : Bool := match c, d with
  | .none, .non => true
  | .bool a, .bl b => decide (a = b)
  | .int i, .int j => decide (i = j)
  | .str s, .str l => decide (s = mkStr l) && PyData.strOk s && decide (l.length ≤ lim)
  | _, _ => false
def bopT (b : Bool) (op : BoolOp) : Bool := match b, op with
  | true, .And => true
  | false, .Or => true
  | _, _ => false
def notSet : Expr → Bool
  | .Set .. => false
  | _ => true
mutual
def mG (N : List Str) (sc : Scope) : Tgt → Expr → Bool
  | .n i, e => match e with
    | .Name x _ => decide (N[i]? = some x) && locB sc x
    | _ => false
  | .t ts, e => match e with
    | .Tuple es _ _ => mGs N sc ts es
    | _ => false
def mGs (N : List Str) (sc : Scope) : List Tgt → List Expr → Bool
  | [], es => es.isEmpty
  | t :: ts, es => match es with
    | e :: es => mG N sc t e && mGs N sc ts es
    | [] => false
end
def isTupT : Expr → Bool
  | .Tuple .. => true
  | _ => false
mutual
def mE (C : Cfg) (N : List Str) : E → Scope → Expr → Bool
  | .var i => fun sc e => match e with
    | .Name x _ => decide (N[i]? = some x) && visB sc x && nameOk x
    | _ => false
  | .con d => fun sc e => match e with
    | .Constant c _ _ => conB c d
    | _ => false
  | .glb i => fun sc e => match e with
    | .Name x _ => decide (i < 60 ∧ C.gls[i]? = some x) && glB sc x && nameOk x
    | _ => false
  | .bin _ o a b => fun sc e => match e with
    | .BinOp l op r _ => bopB o op && mE C N a sc l && mE C N b sc r
    | _ => false
  | .neg a => fun sc e => match e with
    | .UnaryOp .USub x _ => mE C N a sc x
    | _ => false
  | .nt a => fun sc e => match e with
    | .UnaryOp .Not x _ => mE C N a sc x
    | _ => false
  | .boo b es => fun sc e => match e with
    | .BoolOp op vs _ => bopT b op && mBo C N es sc vs
    | _ => false
  | .cmp o a b => fun sc e => match e with
    | .Compare l [op] [r] _ => copB o op && !behindInMarks op r && mE C N a sc l && mE C N b sc r
    | _ => false
  | .chn o p a b c => fun sc e => match e with
    | .Compare l [op, op'] [m, r] _ => copB o op && copB p op' && !lastMarks [op, op'] [m, r] && mE C N a sc l && mE C N b sc m && mE C N c sc r
    | _ => false
  | .ife t a b => fun sc e => match e with
    | .IfExp x y z _ => mT C N t sc x && mE C N a sc y && mE C N b sc z
    | _ => false
  | .tup es => fun sc e => match e with
    | .Tuple xs _ _ => decide (xs.length ≤ 1000) && mEs C N es sc xs
    | _ => false
  | .lst _ es => fun sc e => match e with
    | .List xs _ => decide (xs.length ≤ 1000) && mEs C N es sc xs
    | _ => false
  | .idx a b => fun sc e => match e with
    | .Subscript x y _ => !isSlice y && mE C N a sc x && mE C N b sc y
    | _ => false
  | .sl _ a lo hi => fun sc e => match e with
    | .Subscript x (.Slice l h none _) _ => mE C N a sc x && (match l with | none => isNo lo | some y => !isNo lo && mE C N lo sc y) && (match h with | none => isNo hi | some y => !isNo hi && mE C N hi sc y)
    | _ => false
  | .no => fun _ _ => false
  | .call f es => fun sc e => match e with
    | .Call (.Name x _) (y :: ys) [] _ => decide (C.fns[f]? = some (x, (y :: ys).length)) && nameOk x && glB sc x && mEs C N es sc (y :: ys)
    | _ => false
  | .bf _ f es => fun sc e => match e with
    | .Call (.Name x _) (y :: ys) [] _ => decide (bfName f = x) && glB sc x && mEs C N es sc (y :: ys)
    | _ => false
  | .isi a ts => fun sc e => match e with
    | .Call (.Name f _) [x, .Name t _] [] _ => (match ts with
      | [ty] => decide (f = "isinstance") && decide (tyStr ty = t) && decide (ty ≠ .non) && glB sc "isinstance" && glB sc t && mE C N a sc x
      | _ => false)
    | _ => false
  | .mt m o es => fun sc e => match e with
    | .Call (.Attribute ob x apos) args [] cpos => mtYes m && decide (mtName m = x) && okBase ob && (apos.endLine == cpos.line) && mE C N o sc ob && decide (args.length ≤ 1) && mEs C N es sc args
    | _ => false
  | .lc _ e g it c own => fun sc x => match x with
    | .ListComp elt [⟨tg, iter, ifs, a⟩] scope _ => decide (a = 0) && blkC N sc scope own && notSet iter && tIn g (own.map (·.2)) && mG N scope g tg && mI C N it sc tg iter && mC C N c (relS scope sc) ifs && mE C N e (relS scope sc) elt
    | _ => false
  | .dlen k v g it c own => fun sc x => match x with
    | .Call (.Name f _) [.DictComp kx vx [⟨tg, iter, ifs, a⟩] scope _] [] _ => decide (f = "len") && glB sc "len" && (decide (a = 0) && blkC N sc scope own && notSet iter && tIn g (own.map (·.2)) && mG N scope g tg && mI C N it sc tg iter && mC C N c (relS scope sc) ifs && mE C N k (relS scope sc) kx && mE C N v (relS scope sc) vx)
    | _ => false
  | .dix a b => fun sc e => match e with
    | .Subscript (.Call (.Name f _) [x] [] _) y _ => decide (f = "dict") && glB sc "dict" && !isSlice y && mE C N a sc x && mE C N b sc y
    | _ => false
  | .dcx ks es b => fun sc e => match e with
    | .Subscript (.Dict keys vals _) y _ => !isSlice y && (keyB ks keys && (decide ks.Nodup && (decide (ks.length ≤ 15) && (!ks.isEmpty && (decide (vals.length = ks.length) && (mEs C N es sc vals && mE C N b sc y))))))
    | _ => false
  | .gdx g b => fun sc e => match e with
    | .Subscript (.Name x _) y _ => !isSlice y && (decide (60 ≤ g ∧ C.gls[g]? = some x) && (glB sc x && (nameOk x && mE C N b sc y)))
    | _ => false
  | .isc _ _ => fun _ _ => false
  | .lcl _ e g it c own => fun sc x => match x with
    | .ListComp elt [⟨tg, iter, ifs, a⟩] scope _ => decide (a = 0) && blkC N sc scope own && notSet iter && tIn g (own.map (·.2)) && mG N scope g tg && mE C N it sc iter && mC C N c (relS scope sc) ifs && mE C N e (relS scope sc) elt
    | _ => false
  | .fld c a f => fun sc e => match e with
    | .Attribute ob x _ => decide (f = x) && okObj ob && (match C.ocs[c]? with | some oc => decide (f ∈ oc.fds) | none => false) && mE C N a sc ob
    | _ => false
  | .mcl c m i o es => fun sc e => match e with
    | .Call (.Attribute ob x apos) args [] cpos => decide (m = x) && okObj ob && (apos.endLine == cpos.line) && (match C.ocs[c]? with | some oc => decide ((m, i) ∈ oc.mts) | none => false) && (match C.fns[i]? with | some y => decide (args.length + 1 = y.2) | none => false) && decide (args.length < 30) && mE C N o sc ob && mEs C N es sc args
    | _ => false
  | .mak c i es => fun sc e => match e with
    | .Call (.Name x _) (y :: ys) [] _ => (match C.ocs[c]? with | some oc => decide (oc.x = x) && decide (oc.ini = some i) | none => false) && nameOk x && glB sc x && (match C.fns[i]? with | some z => decide ((y :: ys).length + 1 = z.2) | none => false) && mEs C N es sc (y :: ys)
    | _ => false
  | .rep a => fun sc e => match e with
    | .Call (.Name f _) [x] [] _ => C.rp && decide (f = "repr") && glB sc "repr" && mE C N a sc x
    | _ => false
  | .frz a => fun sc e => mE C N a sc e
  | .frD _ a => fun sc e => mE C N a sc e
  | .lzp _ es => fun sc e => match e with
    | .Call (.Name f _) [.Call (.Name g _) [x, y] [] _] [] _ => decide (f = "list") && decide (g = "zip") && glB sc "list" && glB sc "zip" && mEs C N es sc [x, y]
    | _ => false
  | .rg1 _ t a => fun sc e => match e with
    | .Call (.Name f _) [.Call (.Name g _) [x] [] _] [] _ => decide ((match t with | true => "tuple" | false => "list") = f) && decide (g = "range") && glB sc f && glB sc "range" && mE C N a sc x
    | _ => false
  | .rg2 _ t a b => fun sc e => match e with
    | .Call (.Name f _) [.Call (.Name g _) [x, y] [] _] [] _ => decide ((match t with | true => "tuple" | false => "list") = f) && decide (g = "range") && glB sc f && glB sc "range" && mE C N a sc x && mE C N b sc y
    | _ => false
def mEs (C : Cfg) (N : List Str) : Es → Scope → List Expr → Bool
  | .n => fun _ es => es.isEmpty
  | .c e es => fun sc xs => match xs with
    | x :: xs => mE C N e sc x && mEs C N es sc xs
    | [] => false
def mBo (C : Cfg) (N : List Str) : Es → Scope → List Expr → Bool
  | .n => fun _ _ => false
  | .c e .n => fun sc xs => match xs with
    | [x] => mE C N e sc x
    | _ => false
  | .c e (.c e' es) => fun sc xs => match xs with
    | x :: y :: ys => mE C N e sc x && mBo C N (.c e' es) sc (y :: ys)
    | _ => false
def mT (C : Cfg) (N : List Str) : T → Scope → Expr → Bool
  | .of e => fun sc x => plainT x && mE C N e sc x
  | .nt t => fun sc x => match x with
    | .UnaryOp .Not y _ => mT C N t sc y
    | _ => false
  | .bo b ts => fun sc x => match x with
    | .BoolOp op vs _ => bopT b op && mTs C N ts sc vs
    | _ => false
  | .cmp o a b => fun sc e => match e with
    | .Compare l [op] [r] _ => copB o op && !behindInMarks op r && mE C N a sc l && mE C N b sc r
    | _ => false
  | .chn o p a b c => fun sc e => match e with
    | .Compare l [op, op'] [m, r] _ => copB o op && copB p op' && !lastMarks [op, op'] [m, r] && mE C N a sc l && mE C N b sc m && mE C N c sc r
    | _ => false
  | .yes => fun _ _ => false
def mTs (C : Cfg) (N : List Str) : Ts → Scope → List Expr → Bool
  | .n => fun _ _ => false
  | .c e .n => fun sc xs => match xs with
    | [x] => mT C N e sc x
    | _ => false
  | .c e (.c e' es) => fun sc xs => match xs with
    | x :: y :: ys => mT C N e sc x && mTs C N (.c e' es) sc (y :: ys)
    | _ => false
/-- the condition of a comprehension -/
def mC (C : Cfg) (N : List Str) : T → Scope → List Expr → Bool
  | .yes => fun _ xs => xs.isEmpty
  | .of e => fun sc xs => match xs with | [x] => plainT x && mE C N e sc x | _ => false
  | .nt t => fun sc xs => match xs with | [.UnaryOp .Not y _] => mT C N t sc y | _ => false
  | .bo b ts => fun sc xs => match xs with | [.BoolOp op vs _] => bopT b op && mTs C N ts sc vs | _ => false
  | .cmp o a b => fun sc xs => match xs with
    | [.Compare l [op] [r] _] => copB o op && !behindInMarks op r && mE C N a sc l && mE C N b sc r
    | _ => false
  | .chn o p a b c => fun sc xs => match xs with
    | [.Compare l [op, op'] [m, r] _] => copB o op && copB p op' && !lastMarks [op, op'] [m, r] && mE C N a sc l && mE C N b sc m && mE C N c sc r
    | _ => false
def mI (C : Cfg) (N : List Str) : I → Scope → Expr → Expr → Bool
  | .of e => fun sc _ x => mE C N e sc x
  | .rng es => fun sc _ x => match x with
    | .Call (.Name f _) args [] _ => decide (f = "range") && glB sc "range" && decide (1 ≤ args.length) && decide (args.length ≤ 3) && mEs C N es sc args
    | _ => false
  | .enu e => fun sc tg x => match x with
    | .Call (.Name f _) [y] [] _ => decide (f = "enumerate") && glB sc "enumerate" && isTupT tg && mE C N e sc y
    | _ => false
  | .zip es => fun sc tg x => match x with
    | .Call (.Name f _) [y, y'] [] _ => decide (f = "zip") && glB sc "zip" && isTupT tg && mEs C N es sc [y, y']
    | _ => false
  | .rev e => fun sc _ x => match x with
    | .Call (.Name f _) [y] [] _ => decide (f = "reversed") && glB sc "reversed" && mE C N e sc y
    | _ => false
end
/-! an except clause's suite -/
mutual
def mU (C : Cfg) (N : List Str) : E → Scope → Expr → Bool
  | .var i => fun sc e => match e with
    | .Name x _ => decide (N[i]? = some x) && visB sc x && nameOk x
    | _ => false
  | .con d => fun _ e => match e with
    | .Constant c _ _ => conB c d
    | _ => false
  | .nt a => fun sc e => match e with
    | .UnaryOp .Not x _ => mU C N a sc x
    | _ => false
  | .boo b es => fun sc e => match e with
    | .BoolOp op vs _ => bopT b op && mUBo C N es sc vs
    | _ => false
  | .tup es => fun sc e => match e with
    | .Tuple xs _ _ => decide (xs.length ≤ 1000) && mUs C N es sc xs
    | _ => false
  | .cmp o a b => fun sc e => match e with
    | .Compare l [op] [r] _ => copB o op && !behindInMarks op r && mU C N a sc l && mU C N b sc r
    | _ => false
  | .isc i c => fun sc e => match e with
    | .Call (.Name f _) [.Name n _, .Name k _] [] _ => decide (f = "isinstance") && glB sc "isinstance" && decide (N[i]? = some n) && visB sc n && nameOk n && glB sc k && (match c with
      | none => decide (k = "ValueError")
      | some c => decide (C.cls[c]? = some k) && nameOk k)
    | _ => false
  | .bf _ f es => fun sc e => match e with
    | .Call (.Name g _) [x] [] _ => (match f with | .int => true | _ => false) && decide (g = "int") && glB sc "int" && mUs C N es sc [x]
    | _ => false
  | _ => fun _ _ => false
def mUs (C : Cfg) (N : List Str) : Es → Scope → List Expr → Bool
  | .n => fun _ es => es.isEmpty
  | .c e es => fun sc xs => match xs with
    | x :: xs => mU C N e sc x && mUs C N es sc xs
    | [] => false
def mUBo (C : Cfg) (N : List Str) : Es → Scope → List Expr → Bool
  | .n => fun _ _ => false
  | .c e .n => fun sc xs => match xs with
    | [x] => mU C N e sc x
    | _ => false
  | .c e (.c e' es) => fun sc xs => match xs with
    | x :: y :: ys => mU C N e sc x && mUBo C N (.c e' es) sc (y :: ys)
    | _ => false
end
mutual
def mUT (C : Cfg) (N : List Str) : T → Scope → Expr → Bool
  | .of e => fun sc x => plainT x && mU C N e sc x
  | .nt t => fun sc x => match x with
    | .UnaryOp .Not y _ => mUT C N t sc y
    | _ => false
  | .bo b ts => fun sc x => match x with
    | .BoolOp op vs _ => bopT b op && mUTs C N ts sc vs
    | _ => false
  | _ => fun _ _ => false
def mUTs (C : Cfg) (N : List Str) : Ts → Scope → List Expr → Bool
  | .n => fun _ _ => false
  | .c e .n => fun sc xs => match xs with
    | [x] => mUT C N e sc x
    | _ => false
  | .c e (.c e' es) => fun sc xs => match xs with
    | x :: y :: ys => mUT C N e sc x && mUTs C N (.c e' es) sc (y :: ys)
    | _ => false
end
def mSU (C : Cfg) (N : List Str) (sc : Scope) : SU → List Stmt → Bool
  | .n => fun ss => ss.isEmpty
  | .set i e r => fun ss => match ss with
    | .Assign [.Name x _] v _ :: ss => decide (N[i]? = some x) && locB sc x && !isComp v && mU C N e sc v && mSU C N sc r ss
    | _ => false
  | .ret e => fun ss => match ss with
    | [.Return (some v) _] => mU C N e sc v
    | _ => false
  | .ifr t e r => fun ss => match ss with
    | .If x [.Return (some v) _] [] _ :: ss => mUT C N t sc x && mU C N e sc v && mSU C N sc r ss
    | _ => false
/-- is a comprehension's target swapped in -/
def swB (sc scope : Scope) (x : Str) (px p : Pos) : Bool := (match sc.names.lookup x with | some .local => true | _ => false) && (px.line == p.line) && !(scope.names.any fun (n, k) => n == x && (k == .local || k == .cell))
mutual
def mS (C : Cfg) (N : List Str) (sc : Scope) : S → Stmt → Bool
  | .set i e => fun st => match st with
    | .Assign [.Name x px] v pos => decide (N[i]? = some x) && locB sc x && mE C N e sc v && (match v with
      | .ListComp _ [_] scope p => (match e with | .lc .. => true | _ => false) || !swB sc scope x px p
      | v => !isComp v)
    | _ => false
  | .asg g e => fun st => match st with
    | .Assign [tg] v _ => !isComp v && !isTupE v && mG N sc g tg && mE C N e sc v
    | _ => false
  | .setI o i e => fun st => match st with
    | .Assign [.Subscript ob ix _] v _ => !isSlice ix && !isComp v && mE C N o sc ob && mE C N i sc ix && mE C N e sc v
    | _ => false
  | .setF c o f e => fun st => match st with
    | .Assign [.Attribute ob x _] v _ => decide (f = x) && (match C.ocs[c]? with | some oc => decide (f ∈ oc.fds) | none => false) && !isComp v && mE C N o sc ob && mE C N e sc v
    | _ => false
  | .augF c o f e => fun st => match st with
    | .AugAssign (.Attribute ob x _) .Add v _ => decide (f = x) && (match C.ocs[c]? with | some oc => decide (f ∈ oc.fds) | none => false) && mE C N o sc ob && mE C N e sc v
    | _ => false
  | .aug i o e => fun st => match st with
    | .AugAssign (.Name x _) op v _ => augB o op && decide (N[i]? = some x) && locB sc x && mE C N e sc v
    | _ => false
  | .ex e => fun st => match st with
    | .Expr v _ => !isComp v && mE C N e sc v
    | _ => false
  | .ret e => fun st => match st with
    | .Return (some v) _ => mE C N e sc v
    | _ => false
  | .retN => fun st => match st with
    | .Return none _ => true
    | _ => false
  | .ite t a b => fun st => match st with
    | .If x p q _ => mT C N t sc x && mSs C N sc a p && mSs C N sc b q
    | _ => false
  | .for_ g it b => fun st => match st with
    | .For tg iter body [] _ => notSet iter && mG N sc g tg && mI C N it sc tg iter && mSs C N sc b body
    | _ => false
  | .forL g a b => fun st => match st with
    | .For tg iter body [] _ => notSet iter && mG N sc g tg && mE C N a sc iter && mSs C N sc b body
    | _ => false
  | .whl t b => fun st => match st with
    | .While x body [] _ => mT C N t sc x && mSs C N sc b body
    | _ => false
  | .brk => fun st => match st with | .Break _ => true | _ => false
  | .cnt => fun st => match st with | .Continue _ => true | _ => false
  | .pas => fun st => match st with | .Pass _ => true | _ => false
  | .rai i => fun st => match st with
    | .Raise (some (.Call (.Name x _) [.Constant (.str _) _ _] [] _)) none _ => decide (C.cls[i]? = some x) && nameOk x && glB sc x
    | _ => false
  | .fz _ => fun _ => false
  | .tri b x n h => fun st => match st with
    | .Try body [.ExceptHandler (some (.Name y _)) nm (b₀ :: suite) _] [] [] _ => decide (C.cls[x]? = some y) && nameOk y && glB sc y && mSs C N sc b body && mSU C N sc h (b₀ :: suite) && (match n, nm with
      | none, none => true
      | some i, some z => decide (N[i]? = some z) && (match sc.names.lookup z with | some .local => true | _ => false)
      | _, _ => false)
    | _ => false
def mSs (C : Cfg) (N : List Str) (sc : Scope) : Ss → List Stmt → Bool
  | .n => fun ss => ss.isEmpty
  | .c (.fz _) es => fun ss => mSs C N sc es ss
  | .c s es => fun ss => match ss with
    | st :: ss => mS C N sc s st && mSs C N sc es ss
    | [] => false
end
end DL

namespace DL
open PySem PySem.Spec PyProof.Rows L2
section
variable {C : Cfg} {fnm clm : Nat → Option Addr} {Γ : Gam} {N : List Str}
/-! ## 12. What matches is proved -/
theorem gl_by {sc : Scope} {X : Cx} {W : WX} (k : COk C fnm clm Γ N sc X W) {x : Str} (h : glB sc x = true) : Gl X x := gl_of k h
theorem vis_by {sc : Scope} {X : Cx} {W : WX} (k : COk C fnm clm Γ N sc X W) {x : Str} (h : visB sc x = true) : Vis X.env.scope x := vis_of k h
theorem bop_by {b : Bool} {op : BoolOp} (h : bopT b op = true) : op = bopE b := by
  cases b <;> cases op <;> first | rfl | cases h
theorem set_by {iter : Expr} (h : notSet iter = true) : ∀ elts kk p, iter ≠ .Set elts kk p := by
  rintro elts kk p rfl
  cases h
theorem con_by {c : Const} {d : D} : conB c d = true → (match c, d with | .none, .non => True | .bool a, .bl b => a = b | .int i, .int j => i = j | .str s, .str l => s = mkStr l ∧ PyData.strOk s = true ∧ l.length ≤ sizeLine | _, _ => False) := by
  intro h
  cases c <;> cases d <;> first | (cases h; done) | trivial | exact of_decide_eq_true h | skip
  have h : (decide (_ = mkStr _) && PyData.strOk _ && decide (_ ≤ lim)) = true := h
  simp only [Bool.and_eq_true, decide_eq_true_eq] at h
  exact ⟨h.1.1, h.1.2, by rw [lim_eq]; exact h.2⟩
mutual
theorem sG {scope sc : Scope} {X : Cx} {W : WX} (k : COk C fnm clm Γ N sc X W) (hl : ∀ x, locB scope x = true → L2.Loc X.env.scope x ∧ (X.fn x = true ∨ X.env.scope.names.lookup x = some .local)) : ∀ (g : Tgt) (e : Expr), mG N scope g e = true → JG fnm clm X e g ∧ isStar e = false
  | .n i, e, h => by
    unfold mG at h
    split at h
    · rename_i x p
      simp only [Bool.and_eq_true, decide_eq_true_eq] at h
      obtain ⟨h1, h2⟩ := hl x h.2
      exact ⟨jg_name (by rw [k.hN]; exact k.nd) (by rw [k.hN]; exact h.1) h1 h2, rfl⟩
    · cases h
  | .t ts, e, h => by
    unfold mG at h
    split at h
    · rename_i es kk p
      exact ⟨jg_tup k.calm (sGs k hl ts es h), rfl⟩
    · cases h
theorem sGs {scope sc : Scope} {X : Cx} {W : WX} (k : COk C fnm clm Γ N sc X W) (hl : ∀ x, locB scope x = true → L2.Loc X.env.scope x ∧ (X.fn x = true ∨ X.env.scope.names.lookup x = some .local)) : ∀ (g : List Tgt) (es : List Expr), mGs N scope g es = true → JGs fnm clm X es g
  | [], es, h => by
    unfold mGs at h
    cases es with
    | nil => exact jgs_nil
    | cons _ _ => cases h
  | t :: ts, es, h => by
    unfold mGs at h
    split at h
    · rename_i e es
      simp only [Bool.and_eq_true] at h
      obtain ⟨h1, h2⟩ := sG k hl t e h.1
      exact jgs_cons h2 h1 (sGs k hl ts es h.2)
    · cases h
end
theorem comp_loc {sc scope : Scope} {X' : Cx} {W : WX} (k : COk C fnm clm Γ N (relS scope sc) X' W) (hf : X'.fn = fun x => scope.names.lookup x == some .cell) (x : Str) (h : locB scope x = true) : L2.Loc X'.env.scope x ∧ (X'.fn x = true ∨ X'.env.scope.names.lookup x = some .local) := by
  unfold locB at h
  unfold L2.Loc
  rw [k.hsc]
  split at h
  · rename_i e
    have := lookup_relS_keep (sc := sc) (by decide) e
    exact ⟨.inl this, .inr this⟩
  · rename_i e
    have := lookup_relS_keep (sc := sc) (by decide) e
    exact ⟨.inr this, .inl (by rw [hf]; simp [e])⟩
  · cases h
theorem mC_by {c : T} {sc : Scope} {ifs : List Expr} (h : mC C N c sc ifs = true) : (ifs = [] ∧ c = .yes) ∨ ∃ cd, ifs = [cd] ∧ mT C N c sc cd = true := by
  cases c <;> unfold mC at h
  case yes =>
    cases ifs with
    | nil => exact .inl ⟨rfl, rfl⟩
    | cons _ _ => cases h
  all_goals
    split at h
    · exact .inr ⟨_, rfl, by unfold mT; exact h⟩
    · cases h
mutual
theorem sE : ∀ (e : E) {sc : Scope} {X : Cx} {W : WX} (k : COk C fnm clm Γ N sc X W) (x : Expr), mE C N e sc x = true → JE fnm clm X W x (wE Γ e)
  | .var i, sc, X, W, k, x, h => by
    unfold mE at h
    split at h
    · simp only [Bool.and_eq_true, decide_eq_true_eq] at h
      exact je_var k h.1.1 (vis_by k h.1.2) h.2
    · cases h
  | .con d, sc, X, W, k, x, h => by
    unfold mE at h
    split at h
    · exact je_con (con_by h)
    · cases h
  | .glb i, sc, X, W, k, x, h => by
    unfold mE at h
    split at h
    · simp only [Bool.and_eq_true, decide_eq_true_eq] at h
      exact je_glb k h.1.1.1 h.1.1.2 (gl_by k h.1.2) h.2
    · cases h
  | .bin z o a b, sc, X, W, k, x, h => by
    unfold mE at h
    split at h
    · simp only [Bool.and_eq_true] at h
      exact je_bin k h.1.1 (sE a k _ h.1.2) (sE b k _ h.2)
    · cases h
  | .neg a, sc, X, W, k, x, h => by
    unfold mE at h
    split at h
    · exact je_neg (sE a k _ h)
    · cases h
  | .nt a, sc, X, W, k, x, h => by
    unfold mE at h
    split at h
    · exact je_nt (sE a k _ h)
    · cases h
  | .isc _ _, sc, X, W, k, x, h => by unfold mE at h; cases h
  | .dix a b, sc, X, W, k, x, h => by
    unfold mE at h
    split at h
    · simp only [Bool.and_eq_true, decide_eq_true_eq, Bool.not_eq_true'] at h
      obtain ⟨⟨⟨⟨rfl, h2⟩, h3⟩, h4⟩, h5⟩ := h
      exact je_dix k (gl_by k h2) h3 (sE a k _ h4) (sE b k _ h5)
    · cases h
  | .dcx ks es b, sc, X, W, k, x, h => by
    unfold mE at h
    split at h
    · rename_i keys vals _ y _
      simp only [Bool.and_eq_true, decide_eq_true_eq, Bool.not_eq_true'] at h
      obtain ⟨h1, h2, h3, h4, h5, h6, h7, h8⟩ := h
      exact je_dcx k h1 h3 h4 (by simpa using h5) h6 (fun pos => sDs es k ks keys vals h2 h6 h7 pos) h2 (sE b k _ h8)
    · cases h
  | .gdx g b, sc, X, W, k, x, h => by
    unfold mE at h
    split at h
    · simp only [Bool.and_eq_true, decide_eq_true_eq, Bool.not_eq_true'] at h
      obtain ⟨h1, h2, h3, h4, h5⟩ := h
      exact je_gdx k h1 h2.1 h2.2 (gl_by k h3) h4 (sE b k _ h5)
    · cases h
  | .boo b es, sc, X, W, k, x, h => by
    unfold mE at h
    split at h
    · simp only [Bool.and_eq_true] at h
      cases bop_by h.1
      exact sBo es k _ h.2 b _
    · cases h
  | .cmp o a b, sc, X, W, k, x, h => by
    unfold mE at h
    split at h
    · simp only [Bool.and_eq_true, Bool.not_eq_true'] at h
      exact je_cmp k h.1.1.1 h.1.1.2 (sE a k _ h.1.2) (sE b k _ h.2)
    · cases h
  | .chn o p a b c, sc, X, W, k, x, h => by
    unfold mE at h
    split at h
    · simp only [Bool.and_eq_true, Bool.not_eq_true'] at h
      exact je_chn k h.1.1.1.1.1 h.1.1.1.1.2 h.1.1.1.2 (sE a k _ h.1.1.2) (sE b k _ h.1.2) (sE c k _ h.2)
    · cases h
  | .ife t a b, sc, X, W, k, x, h => by
    unfold mE at h
    split at h
    · simp only [Bool.and_eq_true] at h
      exact je_ife (sT t k _ h.1.1) (sE a k _ h.1.2) (sE b k _ h.2)
    · cases h
  | .tup es, sc, X, W, k, x, h => by
    unfold mE at h
    split at h
    · simp only [Bool.and_eq_true, decide_eq_true_eq] at h
      exact je_tup h.1 (sEs es k _ h.2)
    · cases h
  | .lst z es, sc, X, W, k, x, h => by
    unfold mE at h
    split at h
    · simp only [Bool.and_eq_true, decide_eq_true_eq] at h
      exact je_lst h.1 (sEs es k _ h.2)
    · cases h
  | .idx a b, sc, X, W, k, x, h => by
    unfold mE at h
    split at h
    · simp only [Bool.and_eq_true, Bool.not_eq_true'] at h
      exact je_idx h.1.1 (sE a k _ h.1.2) (sE b k _ h.2)
    · cases h
  | .sl z a lo hi, sc, X, W, k, x, h => by
    unfold mE at h
    split at h
    · rename_i y l u p p2
      simp only [Bool.and_eq_true] at h
      refine je_sl (sE a k _ h.1.1) ?_ ?_
      · have h1 := h.1.2
        cases l with
        | none => rw [show isNo lo = true from h1]; exact jo_none
        | some e =>
          have h1 : (!isNo lo && mE C N lo sc e) = true := h1
          simp only [Bool.and_eq_true, Bool.not_eq_true'] at h1
          rw [h1.1]
          exact jo_some (sE lo k _ h1.2)
      · have h1 := h.2
        cases u with
        | none => rw [show isNo hi = true from h1]; exact jo_none
        | some e =>
          have h1 : (!isNo hi && mE C N hi sc e) = true := h1
          simp only [Bool.and_eq_true, Bool.not_eq_true'] at h1
          rw [h1.1]
          exact jo_some (sE hi k _ h1.2)
    · cases h
  | .no, sc, X, W, k, x, h => by
    unfold mE at h
    cases h
  | .call f es, sc, X, W, k, x, h => by
    unfold mE at h
    split at h
    · simp only [Bool.and_eq_true, decide_eq_true_eq] at h
      exact je_call k h.1.1.1 rfl h.1.1.2 (gl_by k h.1.2) (sEs es k _ h.2)
    · cases h
  | .bf z f es, sc, X, W, k, x, h => by
    unfold mE at h
    split at h
    · simp only [Bool.and_eq_true, decide_eq_true_eq] at h
      exact je_bf k h.1.1 (gl_by k h.1.2) (sEs es k _ h.2)
    · cases h
  | .isi a ts, sc, X, W, k, x, h => by
    unfold mE at h
    split at h
    · split at h
      · simp only [Bool.and_eq_true, decide_eq_true_eq] at h
        obtain ⟨⟨⟨⟨⟨h1, h2⟩, h3⟩, h4⟩, h5⟩, h6⟩ := h
        subst h1
        exact je_isi k h3 h2 (gl_by k h4) (gl_by k h5) (sE a k _ h6)
      · cases h
    · cases h
  | .mt m o es, sc, X, W, k, x, h => by
    unfold mE at h
    split at h
    · rename_i ob y apos args cpos
      simp only [Bool.and_eq_true, decide_eq_true_eq] at h
      obtain ⟨⟨⟨⟨⟨⟨h1, h2⟩, h3⟩, h4⟩, h5⟩, h6⟩, h7⟩ := h
      have ja := sEs es k _ h7
      match args, h6, h7, ja with
      | [], _, h7, ja =>
        cases es with
        | n => exact je_mt0 k.hu h1 h2 h3 h4 (sE o k _ h5)
        | c _ _ => unfold mEs at h7; cases h7
      | [e], _, h7, ja => exact je_mt k.hu h1 h2 h3 h4 (sE o k _ h5) ja
      | _ :: _ :: _, h6, _, _ => exact absurd h6 (by simp)
    · cases h
  | .lc z e g it c own, sc, X, W, k, x, h => by
    unfold mE at h
    split at h
    · rename_i elt tg iter ifs a scope pos
      simp only [Bool.and_eq_true, decide_eq_true_eq] at h
      obtain ⟨⟨⟨⟨⟨⟨⟨h0, h1⟩, h2⟩, h3⟩, h4⟩, h5⟩, h6⟩, h7⟩ := h
      subst h0
      exact je_lc k (blkOk_by h1) (set_by h2) h3 (sI it k _ _ h5) (fun X' k' hf _ => (sG k' (comp_loc k' hf) g tg h4).1)
        (fun X' k' _ => by
          rcases mC_by h6 with q | ⟨cd, q, r⟩
          · exact .inl q
          · exact .inr ⟨cd, q, sT c k' _ r⟩) (fun X' k' _ => sE e k' _ h7)
    · cases h
  | .lcl z e g it c own, sc, X, W, k, x, h => by
    unfold mE at h
    split at h
    · rename_i elt tg iter ifs a scope pos
      simp only [Bool.and_eq_true, decide_eq_true_eq] at h
      obtain ⟨⟨⟨⟨⟨⟨⟨h0, h1⟩, h2⟩, h3⟩, h4⟩, h5⟩, h6⟩, h7⟩ := h
      subst h0
      exact je_lcl k (blkOk_by h1) (set_by h2) h3 (sE it k _ h5) (fun X' k' hf _ => (sG k' (comp_loc k' hf) g tg h4).1)
        (fun X' k' _ => by
          rcases mC_by h6 with q | ⟨cd, q, r⟩
          · exact .inl q
          · exact .inr ⟨cd, q, sT c k' _ r⟩) (fun X' k' _ => sE e k' _ h7)
    · cases h
  | .dlen ek ev g it c own, sc, X, W, k, x, h => by
    unfold mE at h
    split at h
    · rename_i f _ kx vx tg iter ifs a scope pos _
      simp only [Bool.and_eq_true, decide_eq_true_eq] at h
      obtain ⟨⟨hf, hgl⟩, ⟨⟨⟨⟨⟨⟨⟨h0, h1⟩, h2⟩, h3⟩, h4⟩, h5⟩, h6⟩, h7⟩, h8⟩ := h
      subst h0
      subst hf
      exact je_dlen k (gl_by k hgl) (blkOk_by h1) (set_by h2) h3 (sI it k _ _ h5) (fun X' k' hf _ => (sG k' (comp_loc k' hf) g tg h4).1)
        (fun X' k' _ => by
          rcases mC_by h6 with q | ⟨cd, q, r⟩
          · exact .inl q
          · exact .inr ⟨cd, q, sT c k' _ r⟩) (fun X' k' _ => sE ek k' _ h7) (fun X' k' _ => sE ev k' _ h8)
    · cases h
  | .fld c a f, sc, X, W, k, x, h => by
    unfold mE at h
    split at h
    · simp only [Bool.and_eq_true, decide_eq_true_eq] at h
      obtain ⟨⟨⟨rfl, h2⟩, h3⟩, h4⟩ := h
      split at h3
      · rename_i oc e
        exact je_fld k e (of_decide_eq_true h3) h2 (sE a k _ h4)
      · cases h3
    · cases h
  | .mcl c m i o es, sc, X, W, k, x, h => by
    unfold mE at h
    split at h
    · rename_i ob y apos args cpos
      simp only [Bool.and_eq_true, decide_eq_true_eq] at h
      obtain ⟨⟨⟨⟨⟨⟨⟨rfl, h2⟩, h3⟩, h4⟩, h5⟩, h6⟩, h7⟩, h8⟩ := h
      split at h4
      · rename_i oc e
        split at h5
        · rename_i z e2
          obtain ⟨zx, zn⟩ := z
          have ja := sEs es k _ h8
          match args, h5, h6, h8, ja with
          | [], h5, _, h8, _ =>
            cases es with
            | n => exact je_mcl0 k e (of_decide_eq_true h4) e2 (of_decide_eq_true h5) h3 h2 (sE o k _ h7)
            | c _ _ => unfold mEs at h8; cases h8
          | a :: as, h5, h6, _, ja => exact je_mcl k e (of_decide_eq_true h4) e2 (of_decide_eq_true h5) h3 h6 h2 (sE o k _ h7) ja
        · cases h5
      · cases h4
    · cases h
  | .mak c i es, sc, X, W, k, x, h => by
    unfold mE at h
    split at h
    · simp only [Bool.and_eq_true] at h
      obtain ⟨⟨⟨⟨h1, h2⟩, h3⟩, h4⟩, h5⟩ := h
      split at h1
      · rename_i oc e
        simp only [Bool.and_eq_true, decide_eq_true_eq] at h1
        obtain ⟨rfl, h1⟩ := h1
        split at h4
        · rename_i z e2
          obtain ⟨zx, zn⟩ := z
          exact je_mak k e h1 e2 (of_decide_eq_true h4) h2 (gl_by k h3) (sEs es k _ h5)
        · cases h4
      · cases h1
    · cases h
  | .rep a, sc, X, W, k, x, h => by
    unfold mE at h
    split at h
    · simp only [Bool.and_eq_true, decide_eq_true_eq] at h
      obtain ⟨⟨⟨h1, h2⟩, h3⟩, h4⟩ := h
      subst h2
      exact je_rep k h1 (gl_by k h3) (sE a k _ h4)
    · cases h
  | .frz a, sc, X, W, k, x, h => by
    unfold mE at h
    exact je_frz (sE a k x h)
  | .frD n a, sc, X, W, k, x, h => by
    unfold mE at h
    exact je_frD (sE a k x h)
  | .lzp z es, sc, X, W, k, x, h => by
    unfold mE at h
    split at h
    · simp only [Bool.and_eq_true, decide_eq_true_eq] at h
      obtain ⟨⟨⟨⟨h1, h2⟩, h3⟩, h4⟩, h5⟩ := h
      subst h1
      subst h2
      exact je_lzp k (gl_by k h3) (gl_by k h4) (sEs es k _ h5)
    · cases h
  | .rg1 z t a, sc, X, W, k, x, h => by
    unfold mE at h
    split at h
    · simp only [Bool.and_eq_true, decide_eq_true_eq] at h
      obtain ⟨⟨⟨⟨h1, h2⟩, h3⟩, h4⟩, h5⟩ := h
      subst h2
      exact je_rg1 k h1 (gl_by k h3) (gl_by k h4) (sE a k _ h5)
    · cases h
  | .rg2 z t a b, sc, X, W, k, x, h => by
    unfold mE at h
    split at h
    · simp only [Bool.and_eq_true, decide_eq_true_eq] at h
      obtain ⟨⟨⟨⟨⟨h1, h2⟩, h3⟩, h4⟩, h5⟩, h6⟩ := h
      subst h2
      exact je_rg2 k h1 (gl_by k h3) (gl_by k h4) (sE a k _ h5) (sE b k _ h6)
    · cases h
theorem sDs : ∀ (es : Es) {sc : Scope} {X : Cx} {W : WX} (k : COk C fnm clm Γ N sc X W) (ks : List (List Nat)) (keys : List (Option Expr)) (vals : List Expr), keyB ks keys = true → vals.length = ks.length → mEs C N es sc vals = true → ∀ pos, JPs fnm clm X W pos ks keys vals (wEs Γ es)
  | .n, sc, X, W, k, ks, keys, vals, hk, hl, h, pos => by
    unfold mEs at h
    cases vals with
    | nil =>
      cases ks with
      | nil =>
        cases keys with
        | nil => exact jps_nil
        | cons _ _ => cases hk
      | cons _ _ => cases hl
    | cons _ _ => cases h
  | .c e es, sc, X, W, k, ks, keys, vals, hk, hl, h, pos => by
    unfold mEs at h
    cases vals with
    | nil => cases h
    | cons v vals =>
      simp only [Bool.and_eq_true] at h
      cases ks with
      | nil => cases hl
      | cons s ks =>
        obtain ⟨key, keys', rfl, h1, h2⟩ := keyB_cons hk
        exact jps_cons h1 (sE e k v h.1) (sDs es k ks keys' vals h2 (by simpa using hl) h.2 pos)
theorem sEs : ∀ (es : Es) {sc : Scope} {X : Cx} {W : WX} (k : COk C fnm clm Γ N sc X W) (xs : List Expr), mEs C N es sc xs = true → JA fnm clm X W xs (wEs Γ es)
  | .n, sc, X, W, k, xs, h => by
    unfold mEs at h
    cases xs with
    | nil => exact ja_nil
    | cons _ _ => cases h
  | .c e es, sc, X, W, k, xs, h => by
    unfold mEs at h
    split at h
    · simp only [Bool.and_eq_true] at h
      exact ja_cons (sE e k _ h.1) (sEs es k _ h.2)
    · cases h
theorem sBo : ∀ (es : Es) {sc : Scope} {X : Cx} {W : WX} (k : COk C fnm clm Γ N sc X W) (xs : List Expr), mBo C N es sc xs = true → ∀ (b : Bool) (pos : Pos), JE fnm clm X W (.BoolOp (bopE b) xs pos) (wBo Γ b es)
  | .n, sc, X, W, k, xs, h, b, pos => by
    unfold mBo at h
    cases h
  | .c e .n, sc, X, W, k, xs, h, b, pos => by
    unfold mBo at h
    split at h
    · exact jb_one (sE e k _ h)
    · cases h
  | .c e (.c e' es), sc, X, W, k, xs, h, b, pos => by
    unfold mBo at h
    split at h
    · simp only [Bool.and_eq_true] at h
      exact jb_cons (sE e k _ h.1) (sBo (.c e' es) k _ h.2 b pos)
    · cases h
theorem sT : ∀ (t : T) {sc : Scope} {X : Cx} {W : WX} (k : COk C fnm clm Γ N sc X W) (x : Expr), mT C N t sc x = true → JT fnm clm X W x (wT Γ t)
  | .of e, sc, X, W, k, x, h => by
    unfold mT at h
    simp only [Bool.and_eq_true] at h
    exact jt_of h.1 (sE e k _ h.2)
  | .nt t, sc, X, W, k, x, h => by
    unfold mT at h
    split at h
    · exact jt_nt (sT t k _ h)
    · cases h
  | .bo b ts, sc, X, W, k, x, h => by
    unfold mT at h
    split at h
    · simp only [Bool.and_eq_true] at h
      cases bop_by h.1
      exact jt_bo (sTs ts k _ h.2 b)
    · cases h
  | .cmp o a b, sc, X, W, k, x, h => by
    unfold mT at h
    split at h
    · simp only [Bool.and_eq_true, Bool.not_eq_true'] at h
      exact jt_cmp k h.1.1.1 h.1.1.2 (sE a k _ h.1.2) (sE b k _ h.2)
    · cases h
  | .chn o p a b c, sc, X, W, k, x, h => by
    unfold mT at h
    split at h
    · simp only [Bool.and_eq_true, Bool.not_eq_true'] at h
      exact jt_chn k h.1.1.1.1.1 h.1.1.1.1.2 h.1.1.1.2 (sE a k _ h.1.1.2) (sE b k _ h.1.2) (sE c k _ h.2)
    · cases h
  | .yes, sc, X, W, k, x, h => by
    unfold mT at h
    cases h
theorem sTs : ∀ (ts : Ts) {sc : Scope} {X : Cx} {W : WX} (k : COk C fnm clm Γ N sc X W) (xs : List Expr), mTs C N ts sc xs = true → ∀ b, JTs fnm clm X W b xs (wTs Γ b ts)
  | .n, sc, X, W, k, xs, h, b => by
    unfold mTs at h
    cases h
  | .c t .n, sc, X, W, k, xs, h, b => by
    unfold mTs at h
    split at h
    · exact jts_one (sT t k _ h)
    · cases h
  | .c t (.c t' ts), sc, X, W, k, xs, h, b => by
    unfold mTs at h
    split at h
    · simp only [Bool.and_eq_true] at h
      exact jts_cons (sT t k _ h.1) (sTs (.c t' ts) k _ h.2 b)
    · cases h
theorem sI : ∀ (it : I) {sc : Scope} {X : Cx} {W : WX} (k : COk C fnm clm Γ N sc X W) (tg x : Expr), mI C N it sc tg x = true → JI fnm clm X W tg x (wI Γ it)
  | .of e, sc, X, W, k, tg, x, h => by
    unfold mI at h
    exact ji_of (sE e k _ h)
  | .rng es, sc, X, W, k, tg, x, h => by
    unfold mI at h
    split at h
    · simp only [Bool.and_eq_true, decide_eq_true_eq] at h
      obtain ⟨⟨⟨⟨h1, h2⟩, h3⟩, h4⟩, h5⟩ := h
      subst h1
      exact ji_rng k ⟨h3, h4⟩ (gl_by k h2) (sEs es k _ h5)
    · cases h
  | .enu e, sc, X, W, k, tg, x, h => by
    unfold mI at h
    split at h
    · simp only [Bool.and_eq_true, decide_eq_true_eq] at h
      obtain ⟨⟨⟨h1, h2⟩, h3⟩, h4⟩ := h
      subst h1
      cases tg <;> first | (cases h3; done) | skip
      exact ji_enu k (gl_by k h2) (sE e k _ h4)
    · cases h
  | .zip es, sc, X, W, k, tg, x, h => by
    unfold mI at h
    split at h
    · simp only [Bool.and_eq_true, decide_eq_true_eq] at h
      obtain ⟨⟨⟨h1, h2⟩, h3⟩, h4⟩ := h
      subst h1
      cases tg <;> first | (cases h3; done) | skip
      exact ji_zip k (gl_by k h2) (sEs es k _ h4)
    · cases h
  | .rev e, sc, X, W, k, tg, x, h => by
    unfold mI at h
    split at h
    · simp only [Bool.and_eq_true, decide_eq_true_eq] at h
      obtain ⟨⟨h1, h2⟩, h3⟩ := h
      subst h1
      exact ji_rev k (gl_by k h2) (sE e k _ h3)
    · cases h
end
end
end DL

namespace DL
open PySem PySem.Spec PyProof.Rows L2
/-! ### try .. except X as e: a short suite -/
section
variable {C : Cfg} {fnm clm : Nat → Option Addr} {Γ : Gam} {N : List Str} {sc : Scope} {X Y : Cx} {W : WX}
/-- what is asked of a context to read a suite in it: a handles the exception at a, of the class y -/
structure SuOk (C : Cfg) (fnm clm : Nat → Option Addr) (Γ : Gam) (N : List Str) (sc : Scope) (Y : Cx) : Prop where
  hN : Y.N = N
  nd : N.Nodup
  hsc : Y.env.scope = sc
  fnT : ∀ x, Y.fn x = true
  hu : Y.A.units + 64 < cLine
  blt : ∀ x ∈ bltNames, Y.mg x = none
  cls : ∀ i x, C.cls[i]? = some x → ∃ c, clm i = some c ∧ Y.mg x = some (.ref c)
  isi : ∃ a y c, Γ.xc = some (a, y) ∧ clm y = some c ∧ CallR Y (.builtin "isinstance") (rIsE Y.K c a) ∧ PySem.W.kitOne Y.K (.ref c) (.type "ValueError") = some true ∧ ∀ j d, clm j = some d → PySem.W.kitOne Y.K (.ref c) (.ref d) = some (Γ.sb y j)
def RefSU (K : PySem.W.Frag) (fnm clm : Nat → Option Addr) (ts : TS) (t : EndsD → StD → HD → Prop) : Prop :=
  ∀ S (σ : St') σD H G D ED, Hel K fnm clm S H G → SlotOk K fnm S H G σ σD → t ED σD G → PostS K fnm clm S H G ED D → ts D σ H
def JSU (fnm clm : Nat → Option Addr) (Y : Cx) (ss : List Stmt) (t : EndsD → StD → HD → Prop) : Prop := ∃ ts, PSs Y ss ts ∧ RefSU Y.K fnm clm ts t
theorem noPX {K : PySem.W.Frag} {σ : St'} {S : Addr → Option Bool} {H : Hp} {G : HD} : PostX K fnm clm W0 σ S H G fun _ _ => False := fun _ _ _ _ _ _ _ _ z => z.elim
theorem jsu_nil : JSU fnm clm Y [] (wSU Γ .n) := ⟨_, pss_nil, fun S σ σD H G D ED R sl h hP => hP.nx σ σD S H G .refl R sl h⟩
theorem jsu_set (k : SuOk C fnm clm Γ N sc Y) {i : Nat} {x : Str} {px pos : Pos} {e : Expr} {ee : E} {ss : List Stmt} {r : SU} (hi : N[i]? = some x) (hx : locB sc x = true) (hs : isComp e = false) (he : JE fnm clm Y W0 e (wE Γ ee)) (hr : JSU fnm clm Y ss (wSU Γ r)) :
    JSU fnm clm Y (.Assign [.Name x px] e pos :: ss) (wSU Γ (.set i ee r)) := by
  obtain ⟨_, ta, pa, ra⟩ := he
  obtain ⟨ts, ps, rs⟩ := hr
  have hl : L2.Loc Y.env.scope x := by
    rw [k.hsc]
    unfold locB at hx
    unfold L2.Loc
    split at hx <;> simp_all
  refine ⟨_, pss_cons (ps_set (by rw [k.hN]; exact k.nd) (by rw [k.hN]; exact hi) hl pa (swap_no hs _ _ _) (.inl (k.fnT x))) ps, fun S σ σD H G D ED R sl h hP => ?_⟩
  refine ra S σ σD H G _ _ _ R sl h (fun v S1 H1 d G1 st1 R1 r1 h1 => ?_) noPX
  exact rs S1 _ _ H1 G1 D ED R1 ((sl.step R st1).set r1 i) h1 (hP.step st1)
theorem jsu_ret {e : Expr} {pos : Pos} {ee : E} (he : JE fnm clm Y W0 e (wE Γ ee)) : JSU fnm clm Y [.Return (some e) pos] (wSU Γ (.ret ee)) := by
  obtain ⟨_, ta, pa, ra⟩ := he
  exact ⟨_, pss_one (ps_ret pa), fun S σ σD H G D ED R sl h hP => ra S σ σD H G _ _ _ R sl h hP.rt noPX⟩
theorem jsu_ifr {t e : Expr} {pos p2 : Pos} {et : T} {ee : E} {ss : List Stmt} {r : SU} (ht : JT fnm clm Y W0 t (wT Γ et)) (he : JE fnm clm Y W0 e (wE Γ ee)) (hr : JSU fnm clm Y ss (wSU Γ r)) :
    JSU fnm clm Y (.If t [.Return (some e) p2] [] pos :: ss) (wSU Γ (.ifr et ee r)) := by
  obtain ⟨tt, pt, rt⟩ := ht
  obtain ⟨_, ta, pa, ra⟩ := he
  obtain ⟨ts, ps, rs⟩ := hr
  refine ⟨_, pss_cons (ps_if pt (pss_one (ps_ret pa)) pss_nil) ps, fun S σ σD H G D ED R sl h hP => ?_⟩
  refine rt S σ σD H G _ _ _ R sl h (fun c S1 H1 G1 st1 R1 h1 => ?_) noPX
  cases c with
  | true => exact ra S1 σ σD H1 G1 _ _ _ R1 (sl.step R st1) h1 (hP.rt.step st1) noPX
  | false => exact rs S1 σ σD H1 G1 D ED R1 (sl.step R st1) h1 (hP.step st1)
theorem visU (k : SuOk C fnm clm Γ N sc Y) {x : Str} (hv : visB sc x = true) : Vis Y.env.scope x := by
  rw [k.hsc]
  unfold visB at hv
  unfold Vis
  split at hv <;> simp_all
theorem glU (k : SuOk C fnm clm Γ N sc Y) {x : Str} (h : glB sc x = true) : Gl Y x := by
  show Y.env.scope.names.lookup x = _
  rw [k.hsc]
  unfold glB at h
  split at h <;> simp_all
theorem jeu_var (k : SuOk C fnm clm Γ N sc Y) {i : Nat} {x : Str} {pos : Pos} (hi : N[i]? = some x) (hv : visB sc x = true) (hx : nameOk x = true) : JE fnm clm Y W (.Name x pos) (wE Γ (.var i)) := by
  obtain ⟨h1, h2, h3⟩ := name_debug hx
  refine ⟨rfl, _, pe_var (by rw [k.hN]; exact hi) (visU k hv) h1 h2, fun S σ σD H G Q QD XD R sl h hQ hX => ?_⟩
  obtain ⟨d, e, h⟩ := ok_of (show ok (σD.getD i none) fun d => QD d G from h)
  obtain ⟨_, v, e1, e2⟩ := slot_get sl e
  exact ⟨v, e1, hQ.here R e2 h⟩
theorem jeu_cmp (k : SuOk C fnm clm Γ N sc Y) {o : COp} {op : CmpOp} {a b : Expr} {pos : Pos} {ea eb : E} (ho : copB o op = true) (hm : behindInMarks op b = false) (ha : JE fnm clm Y W a (wE Γ ea)) (hb : JE fnm clm Y W b (wE Γ eb)) :
    JE fnm clm Y W (.Compare a [op] [b] pos) (wE Γ (.cmp o ea eb)) := by
  obtain ⟨r, h1, h2⟩ := cmp_ok (fnm := fnm) (clm := clm) (X := Y) k.hu ho
  obtain ⟨_, ta, pa, ra⟩ := ha
  obtain ⟨_, tb, pb, rb⟩ := hb
  refine ⟨rfl, _, pe_cmpR h1 pa pb hm, fun S σ σD H G Q QD XD R sl h hQ hX => ?_⟩
  exact ref2 ra rb R sl h (fun v v' S' H' d d' G' st R' r1 r2 h' => h2 v v' d d' S' H' G' Q QD R' r1 r2 h' (hQ.step st)) hX
theorem jeu_int (k : SuOk C fnm clm Γ N sc Y) {z : Bool} {a : Expr} {p pos : Pos} {ea : Es} (hg : Gl Y "int") (ha : JA fnm clm Y W [a] (wEs Γ ea)) : JE fnm clm Y W (.Call (.Name "int" p) [a] [] pos) (wE Γ (.bf z .int ea)) := by
  obtain ⟨ss, ta, pa, ra⟩ := ha
  obtain ⟨r, h1, h2⟩ := bf_int (fnm := fnm) (clm := clm) (X := Y)
  obtain ⟨b1, b2, b3⟩ := bf_names .int
  obtain ⟨n1, n2, n3⟩ := name_debug b2
  exact ⟨rfl, _, pe_callTy h1 hg (k.blt _ (by decide +kernel)) b3 pa n3 n1 (star_no (ss a List.mem_cons_self) _ _) rfl, fun S σ σD H G Q QD XD R sl h hQ hX =>
    ra S σ σD H G _ _ XD R sl h (fun vs S1 H1 ds G1 hl st1 R1 r1 h1 => h2 z vs ds S1 H1 G1 Q QD R1 r1 h1 (hQ.step st1)) hX⟩
theorem jeu_isc (k : SuOk C fnm clm Γ N sc Y) {i : Nat} {c : Option Nat} {n x : Str} {p p1 p2 pos : Pos} (hg : Gl Y "isinstance") (hi : N[i]? = some n) (hv : visB sc n = true) (hn : nameOk n = true) (hx : Gl Y x)
    (hc : match c with | none => x = "ValueError" | some c => C.cls[c]? = some x ∧ nameOk x = true) : JE fnm clm Y W (.Call (.Name "isinstance" p) [.Name n p1, .Name x p2] [] pos) (wE Γ (.isc i c)) := by
  obtain ⟨a, y, cy, hxc, hy, call, kv, ko⟩ := k.isi
  obtain ⟨m1, m2, m3⟩ := name_debug hn
  have pn : PE Y (.Name n p1) (tVar i) := pe_var (by rw [k.hN]; exact hi) (visU k hv) m1 m2
  obtain ⟨cv, u, pt, ru, kit⟩ : ∃ (cv : V) (u : Value), PE Y (.Name x p2) (tC cv) ∧ (∀ w, RelV cv w → w = u) ∧ PySem.W.kitOne Y.K (.ref cy) u = some (Γ.isb y c) := by
    cases c with
    | none =>
      obtain rfl : x = "ValueError" := hc
      exact ⟨.ty "ValueError", .type "ValueError", pe_bltn hx (k.blt _ (by decide +kernel)) (by decide +kernel) rfl, fun w r => r, kv⟩
    | some c =>
      obtain ⟨d, h1, h2⟩ := k.cls c x hc.1
      exact ⟨.ref d, .ref d, pe_glob hx h2 rfl (name_debug hc.2).1, fun w r => r, ko c d h1⟩
  refine ⟨rfl, _, pe_callB call hg (k.blt _ (by decide +kernel)) (by decide +kernel) (pa_cons pn (pa_cons pt pa_nil)), fun S σ σD H G Q QD XD R sl h hQ hX => ?_⟩
  have h : σD.getD i none = some (.ref a) ∧ QD (.bl (Γ.isb y c)) G := by
    have h : (match Γ.xc with | some (a, y) => σD.getD i none = some (D.ref a) ∧ QD (.bl (Γ.isb y c)) G | none => False) := h
    rw [hxc] at h
    exact h
  obtain ⟨_, v, e1, e2⟩ := slot_get sl h.1
  cases dat_ref e2
  exact ⟨_, e1, cv, u, _, rfl, ru, kit, hQ.here R (.bl _) h.2⟩
/-! what matches -/
mutual
theorem sU (k : SuOk C fnm clm Γ N sc Y) : ∀ (e : E) (x : Expr), mU C N e sc x = true → JE fnm clm Y W x (wE Γ e)
  | .var i, x, h => by
    unfold mU at h
    split at h
    · simp only [Bool.and_eq_true, decide_eq_true_eq] at h
      exact jeu_var k h.1.1 h.1.2 h.2
    · cases h
  | .con d, x, h => by
    unfold mU at h
    split at h
    · exact je_con (con_by h)
    · cases h
  | .nt a, x, h => by
    unfold mU at h
    split at h
    · exact je_nt (sU k a _ h)
    · cases h
  | .boo b es, x, h => by
    unfold mU at h
    split at h
    · simp only [Bool.and_eq_true] at h
      rw [bop_by h.1]
      exact sUBo k es _ h.2
    · cases h
  | .tup es, x, h => by
    unfold mU at h
    split at h
    · simp only [Bool.and_eq_true, decide_eq_true_eq] at h
      exact je_tup h.1 (sUs k es _ h.2)
    · cases h
  | .cmp o a b, x, h => by
    unfold mU at h
    split at h
    · simp only [Bool.and_eq_true, Bool.not_eq_true'] at h
      exact jeu_cmp k h.1.1.1 h.1.1.2 (sU k a _ h.1.2) (sU k b _ h.2)
    · cases h
  | .isc i c, x, h => by
    unfold mU at h
    split at h
    · simp only [Bool.and_eq_true, decide_eq_true_eq] at h
      obtain ⟨⟨⟨⟨⟨⟨h1, h2⟩, h3⟩, h4⟩, h5⟩, h6⟩, h7⟩ := h
      subst h1
      refine jeu_isc k (glU k h2) h3 h4 h5 (glU k h6) ?_
      cases c with
      | none => exact of_decide_eq_true h7
      | some c => simpa using h7
    · cases h
  | .bf z f es, x, h => by
    unfold mU at h
    split at h
    · simp only [Bool.and_eq_true, decide_eq_true_eq] at h
      obtain ⟨⟨⟨h1, rfl⟩, h2⟩, h3⟩ := h
      cases f <;> first | cases h1 | skip
      exact jeu_int k (glU k h2) (sUs k es _ h3)
    · cases h
  | .glb _, x, h => by unfold mU at h; cases h
  | .bin _ _ _ _, x, h => by unfold mU at h; cases h
  | .neg _, x, h => by unfold mU at h; cases h
  | .chn _ _ _ _ _, x, h => by unfold mU at h; cases h
  | .ife _ _ _, x, h => by unfold mU at h; cases h
  | .lst _ _, x, h => by unfold mU at h; cases h
  | .idx _ _, x, h => by unfold mU at h; cases h
  | .sl _ _ _ _, x, h => by unfold mU at h; cases h
  | .no, x, h => by unfold mU at h; cases h
  | .call _ _, x, h => by unfold mU at h; cases h
  | .isi _ _, x, h => by unfold mU at h; cases h
  | .mt _ _ _, x, h => by unfold mU at h; cases h
  | .lc _ _ _ _ _ _, x, h => by unfold mU at h; cases h
  | .frz _, x, h => by unfold mU at h; cases h
  | .frD _ _, x, h => by unfold mU at h; cases h
  | .lzp _ _, x, h => by unfold mU at h; cases h
  | .rg1 _ _ _, x, h => by unfold mU at h; cases h
  | .rg2 _ _ _ _, x, h => by unfold mU at h; cases h
  | .dlen _ _ _ _ _ _, x, h => by unfold mU at h; cases h
  | .rep _, x, h => by unfold mU at h; cases h
  | .dix _ _, x, h => by unfold mU at h; cases h
  | .dcx _ _ _, x, h => by unfold mU at h; cases h
  | .gdx _ _, x, h => by unfold mU at h; cases h
  | .lcl _ _ _ _ _ _, x, h => by unfold mU at h; cases h
  | .fld _ _ _, x, h => by unfold mU at h; cases h
  | .mcl _ _ _ _ _, x, h => by unfold mU at h; cases h
  | .mak _ _ _, x, h => by unfold mU at h; cases h
theorem sUs (k : SuOk C fnm clm Γ N sc Y) : ∀ (es : Es) (xs : List Expr), mUs C N es sc xs = true → JA fnm clm Y W xs (wEs Γ es)
  | .n, xs, h => by
    unfold mUs at h
    cases xs with
    | nil => exact ja_nil
    | cons _ _ => cases h
  | .c e es, xs, h => by
    unfold mUs at h
    split at h
    · simp only [Bool.and_eq_true] at h
      exact ja_cons (sU k e _ h.1) (sUs k es _ h.2)
    · cases h
theorem sUBo (k : SuOk C fnm clm Γ N sc Y) {b : Bool} {pos : Pos} : ∀ (es : Es) (xs : List Expr), mUBo C N es sc xs = true → JE fnm clm Y W (.BoolOp (bopE b) xs pos) (wBo Γ b es)
  | .n, xs, h => by unfold mUBo at h; cases h
  | .c e .n, xs, h => by
    unfold mUBo at h
    split at h
    · exact jb_one (sU k e _ h)
    · cases h
  | .c e (.c e' es), xs, h => by
    unfold mUBo at h
    split at h
    · simp only [Bool.and_eq_true] at h
      exact jb_cons (sU k e _ h.1) (sUBo k (.c e' es) _ h.2)
    · cases h
end
mutual
theorem sUT (k : SuOk C fnm clm Γ N sc Y) : ∀ (t : T) (x : Expr), mUT C N t sc x = true → JT fnm clm Y W x (wT Γ t)
  | .of e, x, h => by
    unfold mUT at h
    simp only [Bool.and_eq_true] at h
    exact jt_of h.1 (sU k e _ h.2)
  | .nt t, x, h => by
    unfold mUT at h
    split at h
    · exact jt_nt (sUT k t _ h)
    · cases h
  | .bo b ts, x, h => by
    unfold mUT at h
    split at h
    · simp only [Bool.and_eq_true] at h
      rw [bop_by h.1]
      exact jt_bo (sUTs k ts _ h.2)
    · cases h
  | .cmp _ _ _, x, h => by unfold mUT at h; cases h
  | .chn _ _ _ _ _, x, h => by unfold mUT at h; cases h
  | .yes, x, h => by unfold mUT at h; cases h
theorem sUTs (k : SuOk C fnm clm Γ N sc Y) {b : Bool} : ∀ (ts : Ts) (xs : List Expr), mUTs C N ts sc xs = true → JTs fnm clm Y W b xs (wTs Γ b ts)
  | .n, xs, h => by unfold mUTs at h; cases h
  | .c e .n, xs, h => by
    unfold mUTs at h
    split at h
    · exact jts_one (sUT k e _ h)
    · cases h
  | .c e (.c e' es), xs, h => by
    unfold mUTs at h
    split at h
    · simp only [Bool.and_eq_true] at h
      exact jts_cons (sUT k e _ h.1) (sUTs k (.c e' es) _ h.2)
    · cases h
end
theorem sSU (k : SuOk C fnm clm Γ N sc Y) : ∀ (h : SU) (ss : List Stmt), mSU C N sc h ss = true → JSU fnm clm Y ss (wSU Γ h)
  | .n, ss, h => by
    unfold mSU at h
    cases ss with
    | nil => exact jsu_nil
    | cons _ _ => cases h
  | .set i e r, ss, h => by
    unfold mSU at h
    split at h
    · simp only [Bool.and_eq_true, decide_eq_true_eq, Bool.not_eq_true'] at h
      obtain ⟨⟨⟨⟨h1, h2⟩, h3⟩, h4⟩, h5⟩ := h
      exact jsu_set k h1 h2 h3 (sU k e _ h4) (sSU k r _ h5)
    · cases h
  | .ret e, ss, h => by
    unfold mSU at h
    split at h
    · exact jsu_ret (sU k e _ h)
    · cases h
  | .ifr t e r, ss, h => by
    unfold mSU at h
    split at h
    · simp only [Bool.and_eq_true] at h
      exact jsu_ifr (sUT k t _ h.1.1) (sU k e _ h.1.2) (sSU k r _ h.2)
    · cases h
/-! ### the statement -/
/-- a try's body, read in whatever context it stands -/
def tryB (K : PySem.W.Frag) (fnm clm : Nat → Option Addr) (t : EndsD → StD → HD → Prop) : WX → TS := fun W D σ H => ∃ S σD G ED, Hel K fnm clm S H G ∧ SlotOk K fnm S H G σ σD ∧ t ED σD G ∧ PostS K fnm clm S H G ED D ∧ PostXS K fnm clm W S H G ED.ex
/-- its suite, for an exception of a class of ours -/
def tryS (K : PySem.W.Frag) (fnm clm : Nat → Option Addr) (t : Addr → Nat → EndsD → StD → HD → Prop) : Addr → Value → Option Addr → TS := fun a cls d D σ H =>
  ∃ y c S σD G ED, cls = .ref c ∧ d = none ∧ clm y = some c ∧ Hel K fnm clm S H G ∧ SlotOk K fnm S H G σ σD ∧ t a y ED σD G ∧ PostS K fnm clm S H G ED D
theorem suite_ok (k : SOk C fnm clm Γ N sc X W) {h : SU} {b₀ : Stmt} {suite : List Stmt} (hm : mSU C N sc h (b₀ :: suite) = true) (a : Addr) (oe : Obj) (cls : Value) (d : Option Addr) (pn : List (Addr × Obj)) (hz : Zc cls d oe) (hf : ∃ vs, oe.data = .fields vs) :
    PSs (X.suite a ((a, oe) :: pn)) (b₀ :: suite) (tryS X.K fnm clm (fun a y => wSU { Γ with xc := some (a, y) } h) a cls d) := by
  refine ⟨fun pins s σ H D I ⟨y, c, S, σD, G, ED, e1, e2, hc, R, sl, w, hP⟩ => ?_⟩
  subst e1; subst e2
  have su : SuOk C fnm clm { Γ with xc := some (a, y) } N sc (X.suite a ((a, oe) :: pn)) := {
    hN := k.hN, nd := k.nd, hsc := k.hsc, fnT := k.fnT, hu := k.toCOk.hu, blt := k.blt
    cls := fun i x e => by
      obtain ⟨c, h1, h2, _⟩ := k.cls i x e
      exact ⟨c, h1, h2⟩
    isi := by
      obtain ⟨q1, q2, q3⟩ := k.isx y c hc
      exact ⟨a, y, c, rfl, hc, call_isE q1 hz hf, q2, q3⟩ }
  obtain ⟨ts, ps, rs⟩ := sSU su h _ hm
  exact ps.run pins s σ H D I (rs S σ σD H G D ED R sl w hP)
theorem ends_off {K : PySem.W.Frag} {S : Addr → Option Bool} {H : Hp} {G : HD} {ED : EndsD} {D : Ends} {i : Nat} (hP : PostS K fnm clm S H G ED D) :
    PostS K fnm clm S H G (offD (some i) ED) { nx := fun σ' H' => D.nx (σ'.set i none) H', rt := D.rt, bk := fun σ' H' => D.bk (σ'.set i none) H', ct := fun σ' H' => D.ct (σ'.set i none) H' } := by
  have off : ∀ {S' H' G' σ' σD'}, SlotOk K fnm S' H' G' σ' σD' → SlotOk K fnm S' H' G' (σ'.set i none) (σD'.set i none) := fun {S' H' G' σ' σD'} sl => sl.wipe1 i
  exact ⟨fun σ' σD' S' H' G' st R sl q => hP.nx _ _ S' H' G' st R (off sl) q, fun σ' σD' S' H' G' st R sl q => hP.bk _ _ S' H' G' st R (off sl) q, fun σ' σD' S' H' G' st R sl q => hP.ct _ _ S' H' G' st R (off sl) q, hP.rt⟩
theorem js_tri (k : SOk C fnm clm Γ N sc X W) {body suite : List Stmt} {b₀ : Stmt} {x : Str} {xi : Nat} {nm : Option Str} {n : Option Nat} {np pos pos' : Pos} {eb : Ss} {h : SU} (hi : C.cls[xi]? = some x) (hx : nameOk x = true) (hg : Gl X x)
    (hb : ∀ (pn : List (Addr × Obj)) (xe : Value → Shared → Prop) (W' : WX), SOk C fnm clm Γ N sc (X.tr pn xe) W' → JSs fnm clm (X.tr pn xe) W' body (wSs Γ eb)) (hm : mSU C N sc h (b₀ :: suite) = true)
    (hn : match n, nm with | none, none => True | some i, some z => N[i]? = some z ∧ sc.names.lookup z = some .local | _, _ => False) :
    JS fnm clm X W (.Try body [.ExceptHandler (some (.Name x np)) nm (b₀ :: suite) pos'] [] [] pos) (wS Γ (.tri eb xi n h)) := by
  obtain ⟨c, h1, h2, h3, h4, h5⟩ := k.cls xi x hi
  have nms : Names X x (.ref c) := ⟨hg, (name_debug hx).1, .inl h2⟩
  have body_ok : ∀ (W' : WX) (pn : List (Addr × Obj)) (xe : Value → Shared → Prop), Takes (X.tr pn xe) W' → PassesOwn (model X.prog X.w) X.A X.env xe → PSs (X.tr pn xe) body (tryB X.K fnm clm (wSs Γ eb) W') := fun W' pn xe tk po => by
    have k' : SOk C fnm clm Γ N sc (X.tr pn xe) W' := { hN := k.hN, nd := k.nd, hsc := k.hsc, calm := k.calm, tk := tk, po := po, fnk := k.fnk, blt := k.blt, gls := k.gls, dct := k.dct, cls := k.cls, grd := k.grd, exm := k.exm, ocs := k.ocs, isx := k.isx, fnT := k.fnT, kindF := k.kindF, stk := k.stk, frm := k.frm }
    obtain ⟨tb, pb, rb⟩ := hb pn xe W' k'
    exact ⟨fun pins s σ H D I ⟨S, σD, G, ED, R, sl, w, hP, hX⟩ => pb.run pins s σ H D I (rb S σ σD H G D ED R sl w hP hX)⟩
  have suite_ := fun a oe cls d pn hz hf => suite_ok (W := W) k hm a oe cls d pn hz hf
  cases n with
  | none =>
    cases nm with
    | some _ => exact hn.elim
    | none =>
      refine ⟨_, ps_try_only k.stk k.frm nms k.tk body_ok suite_, fun S σ σD H G D ED R sl w hP hX => ?_⟩
      refine ⟨S, σD, G, _, R, sl, w, ⟨hP.nx, hP.bk, hP.ct, hP.rt⟩, fun y cy σ' σD' S' H' G' st R' sl' hc q => ?_⟩
      have e := k.exm y xi cy c hc h1
      refine ⟨_, e, fun hb a hn' => ?_, fun hb => ?_⟩
      · simp only [hb] at q
        exact ⟨y, cy, S', σD', G', ED, rfl, rfl, hc, R', sl', q a (R'.free hn').1, hP.step st⟩
      · simp only [hb] at q
        exact hX y cy σ' σD' S' H' G' st R' sl' hc q
  | some i =>
    cases nm with
    | none => exact hn.elim
    | some z =>
      obtain ⟨n1, n2⟩ := hn
      refine ⟨_, ps_try_as k.stk k.frm (by rw [k.hN]; exact k.nd) (by rw [k.hN]; exact n1) (by show X.env.scope.names.lookup z = _; rw [k.hsc]; exact n2) nms k.tk body_ok suite_, fun S σ σD H G D ED R sl w hP hX => ?_⟩
      refine ⟨S, σD, G, _, R, sl, w, ⟨hP.nx, hP.bk, hP.ct, hP.rt⟩, fun y cy σ' σD' S' H' G' st R' sl' hc q => ?_⟩
      have e := k.exm y xi cy c hc h1
      refine ⟨_, e, fun hb a hn' => ?_, fun hb => ?_⟩
      · simp only [hb] at q
        exact ⟨y, cy, S', σD'.set i (some (.ref a)), G', offD (some i) ED, rfl, rfl, hc, R', sl'.set (.ref a) i, q a (R'.free hn').1, ends_off (hP.step st)⟩
      · simp only [hb] at q
        exact hX y cy σ' σD' S' H' G' st R' sl' hc q
end
end DL

namespace DL
open PySem PySem.Spec PyProof.Rows L2
section
variable {C : Cfg} {fnm clm : Nat → Option Addr} {Γ : Gam} {N : List Str}
theorem swap_lc {elt : Expr} {gens : List Comprehension} {scope : Scope} {p px : Pos} {x : Str} {l : Nat} {env : Env} (hk : env.scope.kind = .function) :
    swapsWith (.ListComp elt gens scope p) (some (.Name x px)) l env = pure (swB env.scope scope x px p) := by
  have hb : (env.blockKind == ScopeKind.function) = true := by
    unfold Env.blockKind
    rw [hk]
    rfl
  have hl : (env.kindOf x == some NameKind.local) = (match env.scope.names.lookup x with | some .local => true | _ => false) := by
    unfold Env.kindOf
    cases env.scope.names.lookup x with
    | none => rfl
    | some kd => cases kd <;> rfl
  show (pure (env.blockKind == .function && env.kindOf x == some .local && px.line == p.line && !(scope.names.any fun (n, k) => n == x && (k == .local || k == .cell))) : Sem Bool) = _
  unfold swB
  rw [hb, hl, Bool.true_and]
  all_goals rfl
theorem js_setLc {sc : Scope} {X : Cx} {W : WX} (k : SOk C fnm clm Γ N sc X W) {i : Nat} {y : Str} {z : Bool} {elt tg iter : Expr} {ifs : List Expr} {scope : Scope} {own : List (Str × Nat)} {py pos spos : Pos} {e : E} {g : Tgt} {it : I} {c : T}
    (hy : X.N[i]? = some y) (hyl : X.env.scope.names.lookup y = some .local) (hsw : swapsWith (.ListComp elt [⟨tg, iter, ifs, 0⟩] scope pos) (some (.Name y py)) spos.line X.env = pure true)
    (hok : BlkOk N sc scope own) (hset : ∀ elts kk p, iter ≠ .Set elts kk p) (hin : tIn g (own.map (·.2)) = true) (hi : JI fnm clm X W tg iter (wI Γ it))
    (hg : ∀ X', COk C fnm clm Γ N (relS scope sc) X' W0 → (X'.fn = fun x => scope.names.lookup x == some .cell) → X'.K = X.K → JG fnm clm X' tg g)
    (ht : ∀ X', COk C fnm clm Γ N (relS scope sc) X' W0 → X'.K = X.K → (ifs = [] ∧ c = .yes) ∨ ∃ cd, ifs = [cd] ∧ JT fnm clm X' W0 cd (wT Γ c))
    (he : ∀ X', COk C fnm clm Γ N (relS scope sc) X' W0 → X'.K = X.K → JE fnm clm X' W0 elt (wE Γ e)) :
    JS fnm clm X W (.Assign [.Name y py] (.ListComp elt [⟨tg, iter, ifs, 0⟩] scope pos) spos) (wS Γ (.set i (.lc z e g it c own))) := by
  obtain ⟨wi, pi, ri⟩ := hi
  refine ⟨_, ps_setLc (g := canG X.K fnm clm g) (tt := canT X.K fnm clm W0 (wT Γ c)) (te := canE X.K fnm clm W0 (wE Γ e)) k.calm (by rw [k.hN]; exact k.nd) hy hyl hsw pi (by rw [k.hN, k.hsc]; exact hok) (fun s H C' cl fp => (hg _ (k.blk s H scope cl C' fp) rfl rfl).can)
    (fun s H C' cl fp => ?_) (fun s H C' cl fp => (he _ (k.blk s H scope cl C' fp) rfl).can) ?_, fun S σ σD H G D ED R sl h hP hX => ?_⟩
  · rcases ht _ (k.blk s H scope cl C' fp) rfl with ⟨rfl, rfl⟩ | ⟨cd, rfl, h⟩
    · refine ⟨fun pins s σ H Q I ⟨S, σD, G, QD, XD, R, sl, h, hQ, hX⟩ => pts_nil.run pins s σ H Q I (hQ true S H G .refl R h)⟩
    · exact pts_one h.can
  · intro x
    cases iter <;> first | rfl | exact absurd rfl (hset _ _ _)
  · refine lc_ref (z := z) ri hin S σ σD H G _ _ _ R sl h (fun v S1 H1 d G1 st1 R1 r1 h1 => ?_) (hX.at R sl)
    exact hP.nx _ _ S1 H1 G1 st1 R1 ((sl.step R st1).set r1 i) h1
mutual
theorem sS {sc : Scope} {X : Cx} {W : WX} (k : SOk C fnm clm Γ N sc X W) : ∀ (s : S) (x : Stmt), mS C N sc s x = true → JS fnm clm X W x (wS Γ s)
  | .set i e, x, h => by
    unfold mS at h
    split at h
    · rename_i y px v pos
      simp only [Bool.and_eq_true, decide_eq_true_eq] at h
      obtain ⟨⟨⟨h1, h2⟩, h3⟩, h4⟩ := h
      split at h4
      · rename_i elt gen scope p
        have sw := swap_lc (elt := elt) (gens := [gen]) (scope := scope) (p := p) (px := px) (x := y) (l := pos.line) (env := X.env) (by rw [k.hsc]; exact k.kindF)
        cases hs : swB X.env.scope scope y px p with
        | false => rw [hs] at sw; exact js_set k h1 h2 sw (sE e k.toCOk _ h3)
        | true =>
          rw [hs] at sw
          rw [k.hsc] at hs
          rw [hs] at h4
          have hyl : X.env.scope.names.lookup y = some .local := by
            rw [k.hsc]
            unfold swB at hs
            simp only [Bool.and_eq_true] at hs
            have := hs.1.1
            split at this
            · assumption
            · cases this
          cases e <;> first | exact absurd (show false = true from h4) Bool.false_ne_true | skip
          rename_i z e g it c own
          obtain ⟨tg, iter, ifs, a⟩ := gen
          have h3 : (decide (a = 0) && blkC N sc scope own && notSet iter && tIn g (own.map (·.2)) && mG N scope g tg && mI C N it sc tg iter && mC C N c (relS scope sc) ifs && mE C N e (relS scope sc) elt) = true := h3
          · simp only [Bool.and_eq_true, decide_eq_true_eq] at h3
            obtain ⟨⟨⟨⟨⟨⟨⟨h0, m1⟩, m2⟩, m3⟩, m4⟩, m5⟩, m6⟩, m7⟩ := h3
            subst h0
            exact js_setLc k (by rw [k.hN]; exact h1) hyl sw (blkOk_by m1) (set_by m2) m3 (sI it k.toCOk _ _ m5) (fun X' k' hf _ => (sG k' (comp_loc k' hf) g tg m4).1)
              (fun X' k' _ => by
                rcases mC_by m6 with q | ⟨cd, q, r⟩
                · exact .inl q
                · exact .inr ⟨cd, q, sT c k' _ r⟩) (fun X' k' _ => sE e k' _ m7)
      · simp only [Bool.not_eq_true'] at h4
        exact js_set k h1 h2 (swap_no h4 _ _ _) (sE e k.toCOk _ h3)
    · cases h
  | .asg g e, x, h => by
    unfold mS at h
    split at h
    · simp only [Bool.and_eq_true, Bool.not_eq_true'] at h
      obtain ⟨j1, j2⟩ := sG k.toCOk (scope := sc) (fun x hx => ⟨loc_of k.toCOk hx, .inl (k.fnT x)⟩) g _ h.1.2
      exact js_asg k j2 h.1.1.1 h.1.1.2 j1 (sE e k.toCOk _ h.2)
    · cases h
  | .setI o i e, x, h => by
    unfold mS at h
    split at h
    · simp only [Bool.and_eq_true, Bool.not_eq_true'] at h
      obtain ⟨⟨⟨⟨h1, h2⟩, h4⟩, h5⟩, h6⟩ := h
      exact js_setI k h1 h2 (sE o k.toCOk _ h4) (sE i k.toCOk _ h5) (sE e k.toCOk _ h6)
    · cases h
  | .setF c o f e, x, h => by
    unfold mS at h
    split at h
    · simp only [Bool.and_eq_true, decide_eq_true_eq, Bool.not_eq_true'] at h
      obtain ⟨⟨⟨⟨rfl, h2⟩, h3⟩, h4⟩, h5⟩ := h
      split at h2
      · rename_i oc q
        exact js_setF k q (of_decide_eq_true h2) h3 (sE o k.toCOk _ h4) (sE e k.toCOk _ h5)
      · cases h2
    · cases h
  | .augF c o f e, x, h => by
    unfold mS at h
    split at h
    · simp only [Bool.and_eq_true, decide_eq_true_eq] at h
      obtain ⟨⟨⟨rfl, h2⟩, h4⟩, h5⟩ := h
      split at h2
      · rename_i oc q
        exact js_augF k q (of_decide_eq_true h2) (sE o k.toCOk _ h4) (sE e k.toCOk _ h5)
      · cases h2
    · cases h
  | .aug i o e, x, h => by
    unfold mS at h
    split at h
    · simp only [Bool.and_eq_true, decide_eq_true_eq] at h
      obtain ⟨⟨⟨h1, h2⟩, h3⟩, h4⟩ := h
      exact js_aug k h1 h2 h3 (sE e k.toCOk _ h4)
    · cases h
  | .ex e, x, h => by
    unfold mS at h
    split at h
    · simp only [Bool.and_eq_true, Bool.not_eq_true'] at h
      exact js_ex k h.1 (sE e k.toCOk _ h.2)
    · cases h
  | .ret e, x, h => by
    unfold mS at h
    split at h
    · exact js_ret k (sE e k.toCOk _ h)
    · cases h
  | .retN, x, h => by
    unfold mS at h
    split at h
    · exact js_retN
    · cases h
  | .ite t a b, x, h => by
    unfold mS at h
    split at h
    · simp only [Bool.and_eq_true] at h
      exact js_ite (sT t k.toCOk _ h.1.1) (sSs k a _ h.1.2) (sSs k b _ h.2)
    · cases h
  | .for_ g it b, x, h => by
    unfold mS at h
    split at h
    · simp only [Bool.and_eq_true] at h
      obtain ⟨⟨⟨h1, h2⟩, h3⟩, h4⟩ := h
      exact js_for k (set_by h1) (sI it k.toCOk _ _ h3) (sG k.toCOk (scope := sc) (fun x hx => ⟨loc_of k.toCOk hx, .inl (k.fnT x)⟩) g _ h2).1 (sSs k b _ h4)
    · cases h
  | .forL g e b, x, h => by
    unfold mS at h
    split at h
    · simp only [Bool.and_eq_true] at h
      obtain ⟨⟨⟨h1, h2⟩, h3⟩, h4⟩ := h
      exact js_forL k (set_by h1) (sE e k.toCOk _ h3) (sG k.toCOk (scope := sc) (fun x hx => ⟨loc_of k.toCOk hx, .inl (k.fnT x)⟩) g _ h2).1 (sSs k b _ h4)
    · cases h
  | .whl t b, x, h => by
    unfold mS at h
    split at h
    · simp only [Bool.and_eq_true] at h
      exact js_whl k (sT t k.toCOk _ h.1) (sSs k b _ h.2)
    · cases h
  | .brk, x, h => by
    unfold mS at h
    split at h
    · exact js_brk
    · cases h
  | .cnt, x, h => by
    unfold mS at h
    split at h
    · exact js_cnt
    · cases h
  | .pas, x, h => by
    unfold mS at h
    split at h
    · exact js_pas
    · cases h
  | .rai i, x, h => by
    unfold mS at h
    split at h
    · simp only [Bool.and_eq_true, decide_eq_true_eq] at h
      exact js_rai k h.1.1 h.1.2 (gl_by k.toCOk h.2)
    · cases h
  | .fz _, x, h => by
    unfold mS at h
    cases h
  | .tri b xi n hh, x, h => by
    unfold mS at h
    split at h
    · simp only [Bool.and_eq_true, decide_eq_true_eq] at h
      obtain ⟨⟨⟨⟨⟨h1, h2⟩, h3⟩, h4⟩, h5⟩, h6⟩ := h
      refine js_tri k h1 h2 (gl_by k.toCOk h3) (fun pn xe W' k' => sSs k' b _ h4) h5 ?_
      split at h6
      · trivial
      · simp only [Bool.and_eq_true, decide_eq_true_eq] at h6
        refine ⟨h6.1, ?_⟩
        have := h6.2
        split at this
        · assumption
        · cases this
      · cases h6
    · cases h
theorem sSs {sc : Scope} {X : Cx} {W : WX} (k : SOk C fnm clm Γ N sc X W) : ∀ (s : Ss) (x : List Stmt), mSs C N sc s x = true → JSs fnm clm X W x (wSs Γ s)
  | .n, x, h => by
    unfold mSs at h
    cases x with
    | nil => exact jss_nil
    | cons _ _ => cases h
  | .c (.fz i) es, x, h => by
    unfold mSs at h
    exact jss_fz (sSs k es x h)
  | .c (.set i e) es, x, h => by
    unfold mSs at h
    split at h
    · simp only [Bool.and_eq_true] at h; exact jss_cons (sS k _ _ h.1) (sSs k es _ h.2)
    · cases h
  | .c (.asg g e) es, x, h => by
    unfold mSs at h
    split at h
    · simp only [Bool.and_eq_true] at h; exact jss_cons (sS k _ _ h.1) (sSs k es _ h.2)
    · cases h
  | .c (.setI o i e) es, x, h => by
    unfold mSs at h
    split at h
    · simp only [Bool.and_eq_true] at h; exact jss_cons (sS k _ _ h.1) (sSs k es _ h.2)
    · cases h
  | .c (.augF c o f e) es, x, h => by
    unfold mSs at h
    split at h
    · simp only [Bool.and_eq_true] at h; exact jss_cons (sS k _ _ h.1) (sSs k es _ h.2)
    · cases h
  | .c (.setF c o f e) es, x, h => by
    unfold mSs at h
    split at h
    · simp only [Bool.and_eq_true] at h; exact jss_cons (sS k _ _ h.1) (sSs k es _ h.2)
    · cases h
  | .c (.aug i o e) es, x, h => by
    unfold mSs at h
    split at h
    · simp only [Bool.and_eq_true] at h; exact jss_cons (sS k _ _ h.1) (sSs k es _ h.2)
    · cases h
  | .c (.ex e) es, x, h => by
    unfold mSs at h
    split at h
    · simp only [Bool.and_eq_true] at h; exact jss_cons (sS k _ _ h.1) (sSs k es _ h.2)
    · cases h
  | .c (.ret e) es, x, h => by
    unfold mSs at h
    split at h
    · simp only [Bool.and_eq_true] at h; exact jss_cons (sS k _ _ h.1) (sSs k es _ h.2)
    · cases h
  | .c .retN es, x, h => by
    unfold mSs at h
    split at h
    · simp only [Bool.and_eq_true] at h; exact jss_cons (sS k _ _ h.1) (sSs k es _ h.2)
    · cases h
  | .c (.ite t a b) es, x, h => by
    unfold mSs at h
    split at h
    · simp only [Bool.and_eq_true] at h; exact jss_cons (sS k _ _ h.1) (sSs k es _ h.2)
    · cases h
  | .c (.for_ g it b) es, x, h => by
    unfold mSs at h
    split at h
    · simp only [Bool.and_eq_true] at h; exact jss_cons (sS k _ _ h.1) (sSs k es _ h.2)
    · cases h
  | .c (.forL g e b) es, x, h => by
    unfold mSs at h
    split at h
    · simp only [Bool.and_eq_true] at h; exact jss_cons (sS k _ _ h.1) (sSs k es _ h.2)
    · cases h
  | .c (.whl t b) es, x, h => by
    unfold mSs at h
    split at h
    · simp only [Bool.and_eq_true] at h; exact jss_cons (sS k _ _ h.1) (sSs k es _ h.2)
    · cases h
  | .c .brk es, x, h => by
    unfold mSs at h
    split at h
    · simp only [Bool.and_eq_true] at h; exact jss_cons (sS k _ _ h.1) (sSs k es _ h.2)
    · cases h
  | .c .cnt es, x, h => by
    unfold mSs at h
    split at h
    · simp only [Bool.and_eq_true] at h; exact jss_cons (sS k _ _ h.1) (sSs k es _ h.2)
    · cases h
  | .c .pas es, x, h => by
    unfold mSs at h
    split at h
    · simp only [Bool.and_eq_true] at h; exact jss_cons (sS k _ _ h.1) (sSs k es _ h.2)
    · cases h
  | .c (.tri b xi n hh) es, x, h => by
    unfold mSs at h
    split at h
    · simp only [Bool.and_eq_true] at h; exact jss_cons (sS k _ _ h.1) (sSs k es _ h.2)
    · cases h
  | .c (.rai i) es, x, h => by
    unfold mSs at h
    split at h
    · simp only [Bool.and_eq_true] at h; exact jss_cons (sS k _ _ h.1) (sSs k es _ h.2)
    · cases h
end
end
end DL

namespace DL
open PySem PySem.Spec PyProof.Rows L2
/-! ## 12R. One call of a def, told by its body -/
section
variable {CX : CXT} {P : Program} {w : World} {K : PySem.W.Frag} {mg : Str → Option Value} {base : Heap}
/-- one call of a def, told by its body -/
theorem run_at {x qual : Str} {pars : Arguments} {bd : List Stmt} {scp : Scope} {dv : List V} {kw : List (Str × V)} {f : Addr} {fd : FuncData} {N ps : List Str} {k : Nat} {A : Around} {out : List Env} {s : Shared} {H : Hp} {args : Args} {us : List Value} {vs : List V} {Q : VK} {E : XK}
    (F : FunD K x qual pars bd scp dv kw f fd) (S : FnScope N ps scp) (room : Room (k + 1) A) (z : Env0 P w K mg base A out s H) (bind : BindsTo s fd args (ps.zip us)) (r : Vals vs us) (lv : vs.length = ps.length)
    (go : ∀ cdv : Value, ∃ t, PSs (cxOf CX P w K mg base N qual scp f cdv A out s H E) bd t ∧ t { nx := fun _ G => Q .non G, rt := Q } (start N vs) H) :
    codeAny (model P w) A (.call (.ref f) args) (CR CX out P w H s Q E) s := by
  obtain ⟨oc, od, dV, kV, doc, pm, an, cdv, ct, osl, rfl, lk, code, _, _⟩ := F.ex
  have below : ∀ b o, base.get? b = some o → s.heap.get? b = some o := fun b o e => (z.bs b o e).1
  have inS : K.In s.heap := z.mod.kin.keeps below
  refine codeAny_call_function room.depth (inS _ _ lk) rfl S.co S.gen rfl (PySem.W.codeRec_of inS code) (bind _ _ _ _ ?_)
  refine wpAny_newFunctionEnv_cells S.kind (fun p hp => ?_) fun env ee s1 made => ?_
  · rcases S.par p.1 (List.of_mem_zip (a := p.1) (b := p.2) hp).1 with q | q
    · exact .inl q
    · exact .inr ⟨q, PySem.W.cellsFrom_some _ _ _ (.inl q)⟩
  · cases ee
    refine ⟨(z.mod.nolimit.keeps below).keeps made.toInCall.keep, codeAny_func ?_⟩
    obtain ⟨t, walk, h⟩ := go cdv
    have J0 := inv_start (CX := CX) (E := E) S room.hd z lv r made
    refine wpAny_mono (walk.run [] s1 (start N vs) H _ J0 h) (fun fl s2 y => ?_) fun _ _ y => y
    have back : ∀ {σ : L2.St} {G : Hp} {v : V} {u : Value}, Inv (cxOf CX P w K mg base N qual scp f cdv A out s H E) [] σ G s2 → RelV v u → Q v G → CE out P w H s Q u s2 :=
      fun J rv q => ⟨_, _, J.os, J.bare, J.base, J.hok, rv, q⟩
    match fl, y with
    | .ret _, ⟨_, _, _, J, rv, q⟩ => exact back J rv q
    | .next, ⟨_, _, J, q⟩ => exact back (v := V.non) (u := Value.none) J rfl q
    | .brk, ⟨_, _, _, q⟩ => exact False.elim q
    | .cont, ⟨_, _, _, q⟩ => exact False.elim q
end
end DL

namespace DL
open PySem PySem.Spec PyProof.Rows L2
/-! ## 13. Defs -/
def startD (n : Nat) (ds : List D) : StD := ds.map some ++ List.replicate (n - ds.length) none
/-- a def: its names, its body in the short language -/
structure Df where
  x : Str
  ps : List Str
  N : List Str
  st : Stmt
  b : Ss
/-- a method's x is class.name: its class, its name there -/
def Df.m (d : Df) : Option (Str × Str) := match dotted d.x with
  | false => none
  | true => some (⟨(d.x.cps.toList.takeWhile fun c => c != 46).toArray⟩, ⟨((d.x.cps.toList.dropWhile fun c => c != 46).drop 1).toArray⟩)
def Df.nm (d : Df) : Str := match d.m with | none => d.x | some p => p.2
def Df.at_ (d : Df) : Str × Option Str := match d.m with | none => (d.x, none) | some p => (p.1, some p.2)
/-- what the world holds besides defs -/
structure Wd (P : Program) (w : World) (K : PySem.W.Frag) (mg : Str → Option Value) (clm : Nat → Option Addr) (gl : Nat → D) (sb : Nat → Nat → Bool) (gls cls : List Str) : Prop where
  exm : ∀ i j c d, clm i = some c → clm j = some d → PySem.W.exmOne K (.ref c) (.ref d) = some (sb i j)
  isx : ∀ i c, clm i = some c → L2.ExcC K c ∧ PySem.W.kitOne K (.ref c) (.type "ValueError") = some true ∧ ∀ j d, clm j = some d → PySem.W.kitOne K (.ref c) (.ref d) = some (sb i j)
  blt : ∀ x ∈ bltNames, mg x = none
  dct : ∀ i x, 60 ≤ i → gls[i]? = some x → ∃ d, mg x = some (.ref d) ∧ ∀ s y, dctD (gl i) (.str s) = some y → ∃ v, KDct K w d (mkStr s) v ∧ ∀ fnm S H G, Dat K fnm S H G v y
  gls : ∀ i x, i < 60 → gls[i]? = some x → ∃ u v, mg x = some u ∧ RelV v u ∧ ∀ fnm S H G, Dat K fnm S H G v (gl i)
  cls : ∀ i x, cls[i]? = some x → ∃ c, clm i = some c ∧ mg x = some (.ref c) ∧ PySem.W.excIn K c He.veBase "ValueError.__new__" = true ∧ PySem.W.keepIn K (.ref c) = true ∧ PySem.W.subIn K (.ref c) (.type "BaseException") = some true ∧ PySem.W.typeIn K (.ref c) = some (.type "type")
section
variable {P : Program} {w : World} {K : PySem.W.Frag} {mg : Str → Option Value} {base : Heap} {fnm clm : Nat → Option Addr} {C : Cfg} {Γ : Gam}
theorem start_ok {S : Addr → Option Bool} {H : Hp} {G : HD} {N : List Str} {vs : List V} {ds : List D} (r : DatAll K fnm S H G vs ds) : SlotOk K fnm S H G (L2.start N vs) (startD N.length ds) := by
  have hl := r.length
  refine ⟨by unfold L2.start startD; simp [hl], fun i d e => ?_⟩
  unfold startD at e
  unfold L2.start
  by_cases h : i < ds.length
  · rw [List.getElem?_append_left (by simpa using h), List.getElem?_map] at e
    obtain ⟨d', e1, e2⟩ := Option.map_eq_some_iff.mp e
    cases e2
    obtain ⟨v, e3, rv⟩ := r.get e1
    refine ⟨v, ?_, rv⟩
    rw [List.getElem?_append_left (by simpa using (List.getElem?_eq_some_iff.mp e3).1), List.getElem?_map, e3]
    rfl
  · rw [List.getElem?_append_right (by simpa using h)] at e
    have := (List.getElem?_eq_some_iff.mp e).2
    simp at this
theorem fn_good (W : Wd P w K mg clm Γ.gl Γ.sb C.gls C.cls) {k : Nat} {d : Df} {f : Addr} {fd : FuncData} {sp : SpD} (F : FunD K d.nm d.x (defArgs d.st) (defBody d.st) (defScope d.st) [] [] f fd) (S : FnScope d.N d.ps (defScope d.st)) (hm : mSs C.yes d.N (defScope d.st) d.b (defBody d.st) = true)
    (hoc : ∀ j o, C.ocs[j]? = some o → OcAt K mg fnm j o) (hfn : ∀ base : Heap, K.In base → base.Ns mainGlobals mg → ∀ i x, C.fns[i]? = some x → FnGood P w K mg base fnm clm k i x (Γ.sp i))
    (hsp : ∀ ds G QD XD, ds.length = d.ps.length → sp ds G QD XD → wSs Γ d.b { nx := fun _ H => QD .non H, rt := QD, ex := fun x _ H => XD x H } (startD d.N.length ds) G)
    (hb : K.In base) (hg : base.Ns mainGlobals mg) : FnOkG P w K mg base (L2.CX P w) (k + 1) f fd d.ps (lift K fnm clm d.ps.length sp) := by
  refine ⟨fun vs H Q E h => h.1, fun A outer s H args us vs Q E room gd e0 bind rv ⟨hl, S0, G, ds, QD, XD, R, r, h, hQ, hX⟩ => run_at F S room e0 bind rv hl fun cdv => ?_⟩
  have k0 : SOk C.yes fnm clm Γ d.N (defScope d.st) (cxOf (L2.CX P w) P w K mg base d.N d.x (defScope d.st) f cdv A outer s H E) (fun cls d _ H => E cls d H) := {
    hN := rfl, nd := S.nd, hsc := rfl, calm := rfl, tk := takes_of rfl rfl rfl rfl, po := passes_of rfl, fnk := ⟨k, RoomM.of room _, hfn base hb hg⟩, ocs := hoc, blt := W.blt,
    gls := fun i x l e => by
      obtain ⟨u, v, h1, h2, h3⟩ := W.gls i x l e
      exact ⟨u, v, h1, h2, h3 fnm⟩
    dct := fun i x l e => by
      obtain ⟨d, h1, h2⟩ := W.dct i x l e
      exact ⟨d, h1, fun s y q => let ⟨v, q1, q2⟩ := h2 s y q; ⟨v, q1, q2 fnm⟩⟩
    cls := fun i x e => by
      obtain ⟨c, h1, h2, h3, h4, h5, h6⟩ := W.cls i x e
      exact ⟨c, h1, h2, h3, h4, raises_own h5 h6⟩
    grd := gd, exm := W.exm, isx := W.isx, fnT := fun _ => rfl, kindF := S.kind, stk := rfl, frm := rfl }
  obtain ⟨t, p, rf⟩ := sSs k0 d.b _ hm
  refine ⟨t, p, rf S0 _ _ H G _ _ R (start_ok r) (hsp ds G QD XD (by rw [← r.length]; exact hl) h) ?_ fun x c σ' σD' S' H' G' st R' sl hc hx => hX x c S' H' G' st R' hc hx⟩
  exact ⟨fun σ' σD' S' H' G' st R' sl h => hQ _ S' H' _ G' st R' .non h, fun _ _ _ _ _ _ _ _ h => h.elim, fun _ _ _ _ _ _ _ _ h => h.elim, hQ⟩
end
end DL

namespace DL
open PySem PySem.Spec PyProof.Rows L2
/-! ## 14. The defs of a world, one behind another -/
/-- does a def's text match? -/
def defC (C : Cfg) (d : Df) : Bool := mSs C.yes d.N (defScope d.st) d.b (defBody d.st) && C8.scC d.N d.ps (defScope d.st)
def bot : SpD := fun _ _ _ _ => False
def upS (f : Nat → SpD) (i : Nat) (s : SpD) : Nat → SpD := fun j => bif Nat.beq j i then s else f j
def Gam.up (Γ : Gam) (i : Nat) (s : SpD) : Gam := { Γ with sp := upS Γ.sp i s }
theorem up_same {Γ : Gam} {i : Nat} {s : SpD} : (Γ.up i s).sp i = s := by
  show (bif Nat.beq i i then s else Γ.sp i) = s
  rw [Nat.beq_refl]; rfl
theorem up_ne {Γ : Gam} {i j : Nat} {s : SpD} (h : j ≠ i) : (Γ.up i s).sp j = Γ.sp j := by
  show (bif Nat.beq j i then s else Γ.sp j) = Γ.sp j
  cases e : Nat.beq j i with
  | true => exact absurd (Nat.eq_of_beq_eq_true e) h
  | false => rfl
theorem up_up {Γ : Gam} {i : Nat} {s t : SpD} : (Γ.up i s).up i t = Γ.up i t := by
  show Gam.mk _ _ _ _ = Gam.mk _ _ _ _
  congr 1
  funext j
  show (bif Nat.beq j i then t else (bif Nat.beq j i then s else Γ.sp j)) = (bif Nat.beq j i then t else Γ.sp j)
  cases Nat.beq j i <;> rfl
theorem up_comm {Γ : Gam} {i j : Nat} {s t : SpD} (h : i ≠ j) : (Γ.up i s).up j t = (Γ.up j t).up i s := by
  show Gam.mk _ _ _ _ = Gam.mk _ _ _ _
  congr 1
  funext k
  show (bif Nat.beq k j then t else (bif Nat.beq k i then s else Γ.sp k)) = (bif Nat.beq k i then s else (bif Nat.beq k j then t else Γ.sp k))
  cases e : Nat.beq k j with
  | false => rfl
  | true =>
    cases e2 : Nat.beq k i with
    | false => rfl
    | true => exact absurd ((Nat.eq_of_beq_eq_true e2).symm.trans (Nat.eq_of_beq_eq_true e)) h
/-- a def stands in the world -/
def DfAt (K : PySem.W.Frag) (mg : Str → Option Value) (fnm : Nat → Option Addr) (i : Nat) (d : Df) : Prop :=
  ∃ f fd, fnm i = some f ∧ (dotted d.x = false → mg d.x = some (.ref f)) ∧ Binds K fd d.ps [] ∧ FunD K d.nm d.x (defArgs d.st) (defBody d.st) (defScope d.st) [] [] f fd
def AllOk (P : Program) (w : World) (K : PySem.W.Frag) (mg : Str → Option Value) (fnm clm : Nat → Option Addr) (C : Cfg) (Γ : Gam) (k : Nat) : Prop :=
  (∀ base : Heap, K.In base → base.Ns mainGlobals mg → ∀ i x, C.fns[i]? = some x → FnGood P w K mg base fnm clm k i x (Γ.sp i)) ∧ ∀ j o, C.ocs[j]? = some o → OcAt K mg fnm j o
section
variable {P : Program} {w : World} {K : PySem.W.Frag} {mg : Str → Option Value} {fnm clm : Nat → Option Addr} {C : Cfg} {Γ : Gam} {k : Nat}
theorem all_bot {gl : Nat → D} {sb : Nat → Nat → Bool} (hd : ∀ i x, C.fns[i]? = some x → ∃ d : Df, x = (d.x, d.ps.length) ∧ DfAt K mg fnm i d) (ho : ∀ j o, C.ocs[j]? = some o → OcAt K mg fnm j o) : AllOk P w K mg fnm clm C { sp := fun _ => bot, gl := gl, sb := sb } 0 := by
  refine ⟨fun base hb hg i x e => ?_, ho⟩
  obtain ⟨d, rfl, f, fd, h1, h2, h3, h4⟩ := hd i x e
  exact ⟨f, fd, d.ps, rfl, h1, h2, h4.kp, h3, fun vs H Q E h => h.1, fun _ _ _ _ _ _ _ _ _ _ _ _ _ _ ⟨_, _, _, _, _, _, _, _, h, _⟩ => h.elim⟩
theorem FnGood.mono {base : Heap} {k' i : Nat} {x : Str × Nat} {sp : SpD} (h : FnGood P w K mg base fnm clm k i x sp) (hk : k ≤ k') : FnGood P w K mg base fnm clm k' i x sp := by
  obtain ⟨f, fd, ps, h1, h2, h3, h4, h5, h6⟩ := h.ex
  exact ⟨f, fd, ps, h1, h2, h3, h4, h5, h6.mono hk⟩
theorem AllOk.mono {k' : Nat} (h : AllOk P w K mg fnm clm C Γ k) (hk : k ≤ k') : AllOk P w K mg fnm clm C Γ k' := ⟨fun base hb hg i x e => (h.1 base hb hg i x e).mono hk, h.2⟩
/-- one def more, by whatever proof -/
theorem all_raw {k' i : Nat} {d : Df} {s : SpD} (h : AllOk P w K mg fnm clm C Γ k) (hk : k ≤ k') (hx : C.fns[i]? = some (d.x, d.ps.length)) (hd : DfAt K mg fnm i d)
    (F : ∀ f fd, FunD K d.nm d.x (defArgs d.st) (defBody d.st) (defScope d.st) [] [] f fd → ∀ base : Heap, K.In base → base.Ns mainGlobals mg → FnOkG P w K mg base (L2.CX P w) k' f fd d.ps (lift K fnm clm d.ps.length s)) :
    AllOk P w K mg fnm clm C (Γ.up i s) k' := by
  refine ⟨fun base hb hg j x e => ?_, h.2⟩
  by_cases q : j = i
  · subst q
    rw [hx] at e; cases e
    obtain ⟨f, fd, h1, h2, h3, h4⟩ := hd
    rw [up_same]
    exact ⟨f, fd, d.ps, rfl, h1, h2, h4.kp, h3, F f fd h4 base hb hg⟩
  · rw [up_ne q]
    exact (h.1 base hb hg j x e).mono hk
/-- one def more, by its text -/
theorem all_up {i : Nat} {d : Df} {s : SpD} (h : AllOk P w K mg fnm clm C Γ k) (W : Wd P w K mg clm Γ.gl Γ.sb C.gls C.cls) (hx : C.fns[i]? = some (d.x, d.ps.length)) (hd : DfAt K mg fnm i d) (hm : defC C d = true)
    (hsp : ∀ ds G QD XD, ds.length = d.ps.length → s ds G QD XD → wSs Γ d.b { nx := fun _ H => QD .non H, rt := QD, ex := fun x _ H => XD x H } (startD d.N.length ds) G) :
    AllOk P w K mg fnm clm C (Γ.up i s) (k + 1) := by
  have hm2 : (mSs C.yes d.N (defScope d.st) d.b (defBody d.st) && C8.scC d.N d.ps (defScope d.st)) = true := hm
  rw [Bool.and_eq_true] at hm2
  exact all_raw h (Nat.le_succ _) hx hd fun f fd F base hb hg => fn_good (Γ := Γ) W F (C8.fnScope_by hm2.2) hm2.1 h.2 h.1 hsp hb hg
/-- a def that calls itself: s n, what it promises with so much fuel -/
theorem all_rec {i : Nat} {d : Df} {s : Nat → SpD} (h : AllOk P w K mg fnm clm C Γ k) (W : Wd P w K mg clm Γ.gl Γ.sb C.gls C.cls) (hx : C.fns[i]? = some (d.x, d.ps.length)) (hd : DfAt K mg fnm i d) (hm : defC C d = true)
    (h0 : ∀ ds G QD XD, ¬ s 0 ds G QD XD)
    (hsp : ∀ n ds G QD XD, ds.length = d.ps.length → s (n + 1) ds G QD XD → wSs (Γ.up i (s n)) d.b { nx := fun _ H => QD .non H, rt := QD, ex := fun x _ H => XD x H } (startD d.N.length ds) G) :
    ∀ n, AllOk P w K mg fnm clm C (Γ.up i (s n)) (k + n)
  | 0 => all_raw h (Nat.le_refl _) hx hd fun f fd F base hb hg => ⟨fun vs H Q E h => h.1, fun _ _ _ _ _ _ _ _ _ _ _ _ _ _ ⟨_, _, _, _, _, _, _, _, h, _⟩ => (h0 _ _ _ _ h).elim⟩
  | n + 1 => by
    have := all_up (s := s (n + 1)) (all_rec h W hx hd hm h0 hsp n) W hx hd hm (hsp n)
    rw [up_up] at this
    exact this
end
section
variable {P : Program} {w : World} {K : PySem.W.Frag} {mg : Str → Option Value} {fnm clm : Nat → Option Addr} {C : Cfg} {Γ : Gam} {k : Nat}
/-- a promise that is never asked -/
theorem all_void {i : Nat} {d : Df} {s : SpD} (h : AllOk P w K mg fnm clm C Γ k) (hx : C.fns[i]? = some (d.x, d.ps.length)) (hd : DfAt K mg fnm i d) (h0 : ∀ ds G QD XD, ¬ s ds G QD XD) : AllOk P w K mg fnm clm C (Γ.up i s) k :=
  all_raw h (Nat.le_refl _) hx hd fun f fd F base hb hg => ⟨fun vs H Q E h => h.1, fun _ _ _ _ _ _ _ _ _ _ _ _ _ _ ⟨_, _, _, _, _, _, _, _, h, _⟩ => (h0 _ _ _ _ h).elim⟩
/-- two defs that call each other: j's n-th promise leans on i's n-th, i's next on both -/
theorem all_rec2 {i j : Nat} {d e : Df} {s t : Nat → SpD} (hij : i ≠ j) (h : AllOk P w K mg fnm clm C Γ k) (W : Wd P w K mg clm Γ.gl Γ.sb C.gls C.cls) (hx : C.fns[i]? = some (d.x, d.ps.length)) (hd : DfAt K mg fnm i d) (hm : defC C d = true)
    (hy : C.fns[j]? = some (e.x, e.ps.length)) (he : DfAt K mg fnm j e) (hn : defC C e = true) (h0 : ∀ ds G QD XD, ¬ s 0 ds G QD XD) (h1 : ∀ ds G QD XD, ¬ t 0 ds G QD XD)
    (hs : ∀ n ds G QD XD, ds.length = d.ps.length → s (n + 1) ds G QD XD → wSs ((Γ.up i (s n)).up j (t n)) d.b { nx := fun _ H => QD .non H, rt := QD, ex := fun x _ H => XD x H } (startD d.N.length ds) G)
    (ht : ∀ n ds G QD XD, ds.length = e.ps.length → t (n + 1) ds G QD XD → wSs ((Γ.up i (s (n + 1))).up j (t n)) e.b { nx := fun _ H => QD .non H, rt := QD, ex := fun x _ H => XD x H } (startD e.N.length ds) G) :
    ∀ n, AllOk P w K mg fnm clm C ((Γ.up i (s n)).up j (t n)) (k + 2 * n)
  | 0 => all_void (all_void h hx hd h0) hy he h1
  | n + 1 => by
    have a1 := all_up (s := s (n + 1)) (all_rec2 hij h W hx hd hm hy he hn h0 h1 hs ht n) W hx hd hm (hs n)
    rw [up_comm (Γ := Γ.up i (s n)) hij.symm, up_up] at a1
    have a2 := all_up (s := t (n + 1)) a1 W hy he hn (ht n)
    rw [up_up] at a2
    exact a2
end
/-! ### the walk over data: helps -/
theorem wFor_ind {g : Tgt} {body : EndsD → StD → HD → Prop} {E : EndsD} (I : List D → StD → HD → Prop) (stop : ∀ σ H, I [] σ H → E.nx σ H)
    (step : ∀ x xs, (∀ σ H, I xs σ H → wFor g body E xs σ H) → ∀ σ H, I (x :: xs) σ H → ok (asg g x σ) fun σ' => body { E with nx := wFor g body E xs, ct := wFor g body E xs, bk := E.nx } σ' H) :
    ∀ xs σ H, I xs σ H → wFor g body E xs σ H
  | [], σ, H, h => stop σ H h
  | x :: xs, σ, H, h => step x xs (wFor_ind I stop step xs) σ H h
theorem lcD_ind {step : D → HD → (Option D → HD → Prop) → Prop} {Q : List D → HD → Prop} (I : List D → List D → HD → Prop) (stop : ∀ acc H, I [] acc H → Q acc H)
    (turn : ∀ x xs acc, (∀ acc H, I xs acc H → lcD step Q xs acc H) → ∀ H, I (x :: xs) acc H → step x H fun r H1 => lcD step Q xs (match r with | some d => acc ++ [d] | none => acc) H1) :
    ∀ xs acc H, I xs acc H → lcD step Q xs acc H
  | [], acc, H, h => stop acc H h
  | x :: xs, acc, H, h => turn x xs acc (lcD_ind I stop turn xs) H h
end DL

namespace DL
open PySem PySem.Spec PyProof.Rows L2
/-! ## 15. Equations, for simp -/
/-! what is known of lists, tests, truths -/
section
variable {α β : Type} {x y d : α} {xs ys : List α} {n : Nat}
theorem c_getD0 : (x :: xs).getD 0 d = x := rfl
theorem c_getDS : (x :: xs).getD (n + 1) d = xs.getD n d := rfl
theorem c_set0 : (x :: xs).set 0 y = y :: xs := rfl
theorem c_setS : (x :: xs).set (n + 1) y = x :: xs.set n y := rfl
theorem c_lenC : (x :: xs).length = xs.length + 1 := rfl
theorem c_lenN : ([] : List α).length = 0 := rfl
theorem c_mapC {f : α → β} : (x :: xs).map f = f x :: xs.map f := rfl
theorem c_mapN {f : α → β} : ([] : List α).map f = [] := rfl
theorem c_get0 : (x :: xs)[0]? = some x := rfl
theorem c_getS : (x :: xs)[n + 1]? = xs[n]? := rfl
theorem c_appC : (x :: xs) ++ ys = x :: (xs ++ ys) := rfl
theorem c_appN : [] ++ ys = ys := rfl
theorem c_repS : List.replicate (n + 1) x = x :: List.replicate n x := rfl
theorem c_rep0 : List.replicate 0 x = [] := rfl
theorem c_anyC {f : α → Bool} : (x :: xs).any f = (f x || xs.any f) := rfl
theorem c_anyN {f : α → Bool} : ([] : List α).any f = false := rfl
theorem c_decT (h : Decidable True) : @decide True h = true := decide_true h
theorem c_decF (h : Decidable False) : @decide False h = false := decide_false h
theorem c_orF (b : Bool) : (b || false) = b := Bool.or_false b
theorem c_orT (b : Bool) : (b || true) = true := Bool.or_true b
theorem c_Tor (b : Bool) : (true || b) = true := rfl
theorem c_For (b : Bool) : (false || b) = b := Bool.false_or b
theorem c_nT : (!true) = false := rfl
theorem c_nF : (!false) = true := rfl
theorem c_Tand (p : Prop) : (True ∧ p) = p := true_and p
theorem c_andT (p : Prop) : (p ∧ True) = p := and_true p
theorem c_decE {p : Prop} [Decidable p] : (decide p = true) = p := decide_eq_true_eq
theorem c_oms {f : α → β} : Option.map f (some x) = some (f x) := rfl
theorem c_ifT {h : Decidable True} : @ite α True h x y = x := if_true x y
theorem c_ifF {h : Decidable False} : @ite α False h x y = y := if_false x y
theorem c_fT : (false = true) = False := Bool.false_eq_true
end
section
variable {z : Bool} {i j : Int} {s t : List Nat} {ds es : List D} {x y d : D} {H : HD} {Q : KD} {a : Addr} {b c : Bool} {n : Nat}
theorem q_add_ii : binD z .add (.int i) (.int j) H Q = Q (.int (i + j)) H := rfl
theorem q_add_ss : binD z .add (.str s) (.str t) H Q = (s.length + t.length ≤ lim ∧ Q (.str (s ++ t)) H) := rfl
theorem q_add_tt : binD z .add (.tup ds) (.tup es) H Q = (ds.length + es.length ≤ lim ∧ Q (.tup (ds ++ es)) H) := rfl
theorem q_add_l : binD z .add (.lst ds) y H Q = ok (seqH (.lst ds) H) fun a => ok (seqH y H) fun b => a.length + b.length ≤ lim ∧ newL z (a ++ b) H Q := by cases y <;> rfl
theorem q_add_r : binD z .add (.ref a) y H Q = ok (seqH (.ref a) H) fun a => ok (seqH y H) fun b => a.length + b.length ≤ lim ∧ newL z (a ++ b) H Q := by cases y <;> rfl
theorem q_sub : binD z .sub (.int i) (.int j) H Q = Q (.int (i - j)) H := rfl
theorem q_mul : binD z .mul (.int i) (.int j) H Q = (((-18446744073709551616 < i ∧ i < 18446744073709551616) ∨ (-18446744073709551616 < j ∧ j < 18446744073709551616)) ∧ Q (.int (i * j)) H) := rfl
theorem q_mul_l : binD z .mul (.lst ds) (.int j) H Q = ((0 ≤ j ∧ j ≤ lim) ∧ ds.length * j.toNat ≤ lim ∧ newL z (List.replicate j.toNat ds).flatten H Q) := rfl
theorem q_mul_s : binD z .mul (.str s) (.int j) H Q = ((0 ≤ j ∧ j ≤ lim) ∧ s.length * j.toNat ≤ lim ∧ Q (.str (List.replicate j.toNat s).flatten) H) := rfl
theorem q_fdiv : binD z .fdiv (.int i) (.int j) H Q = ((0 < j ∧ j < 2 ^ 200) ∧ Q (.int (i / j)) H) := rfl
theorem q_mod : binD z .mod (.int i) (.int j) H Q = (0 < j ∧ Q (.int (i % j)) H) := rfl
theorem q_pow : binD z .pow (.int i) (.int j) H Q = ((0 ≤ j ∧ j ≤ 1000000 ∧ i.natAbs < 2 ^ 64) ∧ Q (.int (i ^ j.toNat)) H) := rfl
theorem q_xor : binD z .xor (.int i) (.int j) H Q = Q (.int (Builtin.bitXor i j)) H := rfl
theorem q_bor : binD z .bor (.int i) (.int j) H Q = Q (.int (Builtin.bitOr i j)) H := rfl
theorem q_band : binD z .band (.int i) (.int j) H Q = Q (.int (Builtin.bitAnd i j)) H := rfl
theorem q_seqH_l : seqH (.lst ds) H = some ds := rfl
theorem q_seqH_r : seqH (.ref a) H = (match H a with | some (.lst ds) => some ds | _ => none) := rfl
theorem q_seq_l : seqOf (.lst ds) H = some ds := rfl
theorem q_seq_s : seqOf (.scr ds) H = some ds := rfl
theorem q_seq_r : seqOf (.ref a) H = (match H a with | some (.lst ds) => some ds | _ => none) := rfl
theorem q_seq_t : seqOf (.tup ds) H = none := rfl
theorem q_itm_t : itms (.tup ds) H = some ds := rfl
theorem q_itm_l : itms (.lst ds) H = some ds := rfl
theorem q_itm_s : itms (.scr ds) H = some ds := rfl
theorem q_itm_r : itms (.ref a) H = (match H a with | some (.lst ds) => some ds | _ => none) := rfl
theorem q_len_str : lenD (.str s) H = some s.length := rfl
theorem q_len_t : lenD (.tup ds) H = some ds.length := rfl
theorem q_len_l : lenD (.lst ds) H = some ds.length := rfl
theorem q_len_s : lenD (.scr ds) H = some ds.length := rfl
theorem q_len_r : lenD (.ref a) H = (match H a with | some (.lst ds) => some ds.length | some (.dct kvs) => some kvs.length | _ => none) := by
  simp only [lenD, seqOf]; cases H a with
  | none => rfl
  | some c => cases c <;> rfl
theorem q_tr_n : truth .non H = some false := rfl
theorem q_tr_b : truth (.bl b) H = some b := rfl
theorem q_tr_i : truth (.int i) H = some (i != 0) := rfl
theorem q_tr_str : truth (.str s) H = some (s.length != 0) := rfl
theorem q_tr_t : truth (.tup ds) H = some (ds.length != 0) := rfl
theorem q_tr_l : truth (.lst ds) H = some (ds.length != 0) := rfl
theorem q_tr_s : truth (.scr ds) H = some (ds.length != 0) := rfl
theorem q_tr_r : truth (.ref a) H = (match H a with | some (.lst ds) => some (ds.length != 0) | some (.dct kvs) => some (kvs.length != 0) | _ => none) := by
  simp only [truth, q_len_r]; cases H a with
  | none => rfl
  | some c => cases c <;> rfl
theorem q_eq : cmpD .eq x y H = eqD x y H := rfl
theorem q_ne : cmpD .ne x y H = (eqD x y H).map (!·) := rfl
theorem q_lt : cmpD .lt (.int i) (.int j) H = some (decide (i < j)) := rfl
theorem q_le : cmpD .le (.int i) (.int j) H = some (decide (i ≤ j)) := rfl
theorem q_gt : cmpD .gt (.int i) (.int j) H = some (decide (j < i)) := rfl
theorem q_ge : cmpD .ge (.int i) (.int j) H = some (decide (j ≤ i)) := rfl
theorem q_inn : cmpD .inn x y H = inD x y H := rfl
theorem q_ind : cmpD .ind x y H = indD x y := rfl
theorem q_nind : cmpD .nind x y H = (indD x y).map (!·) := rfl
theorem q_nin : cmpD .nin x y H = (inD x y H).map (!·) := rfl
theorem q_is_n : cmpD .isn .non .non H = some true := rfl
theorem q_is_b : cmpD .isn (.bl b) .non H = some false := rfl
theorem q_is_i : cmpD .isn (.int i) .non H = some false := rfl
theorem q_is_str : cmpD .isn (.str s) .non H = some false := rfl
theorem q_is_t : cmpD .isn (.tup ds) .non H = some false := rfl
theorem q_is_l : cmpD .isn (.lst ds) .non H = some false := rfl
theorem q_is_r : cmpD .isn (.ref a) .non H = some false := rfl
theorem q_is_bb : cmpD .isn (.bl b) (.bl c) H = some (decide (b = c)) := rfl
theorem q_ns_bb : cmpD .nisn (.bl b) (.bl c) H = some (!decide (b = c)) := rfl
theorem q_ns_n : cmpD .nisn .non .non H = some false := rfl
theorem q_ns_b : cmpD .nisn (.bl b) .non H = some true := rfl
theorem q_ns_i : cmpD .nisn (.int i) .non H = some true := rfl
theorem q_ns_str : cmpD .nisn (.str s) .non H = some true := rfl
theorem q_ns_t : cmpD .nisn (.tup ds) .non H = some true := rfl
theorem q_ns_l : cmpD .nisn (.lst ds) .non H = some true := rfl
theorem q_ns_r : cmpD .nisn (.ref a) .non H = some true := rfl
theorem mkStr_eq : (mkStr s == mkStr t) = (s == t) := str_beq s t
theorem q_eq_ii : eqD (.int i) (.int j) H = some (i == j) := by simp [eqD, pyT, py, PyData.eqv, PyData.depth]
theorem q_eq_ss : eqD (.str s) (.str t) H = some (s == t) := by simp [eqD, pyT, py, PyData.eqv, PyData.depth, mkStr_eq]
theorem q_eq_bb : eqD (.bl b) (.bl c) H = some (b == c) := by cases b <;> cases c <;> simp [eqD, pyT, py, PyData.eqv, PyData.depth]
theorem q_eq_nn : eqD .non .non H = some true := by simp [eqD, pyT, py, PyData.eqv, PyData.depth]
theorem q_idx_t : idxD (.tup ds) (.int i) H = atI ds i := rfl
theorem q_idx_l : idxD (.lst ds) (.int i) H = atI ds i := rfl
theorem q_idx_s : idxD (.scr ds) (.int i) H = atI ds i := rfl
theorem q_idx_str : idxD (.str s) (.int i) H = (atI s i).map fun c => .str [c] := rfl
theorem q_idx_r : idxD (.ref a) (.int i) H = (match H a with | some (.lst ds) => atI ds i | _ => none) := by
  simp only [idxD, q_itm_r]; cases H a with
  | none => rfl
  | some c => cases c <;> rfl
theorem at_nat {α : Type} {xs : List α} {k : Nat} : atI xs (k : Int) = xs[k]? := by
  unfold atI ixN
  rw [if_pos (Int.natCast_nonneg k)]
  by_cases h : k < xs.length
  · rw [if_pos (by exact_mod_cast h)]; rfl
  · rw [if_neg (by intro q; exact h (by exact_mod_cast q)), List.getElem?_eq_none (by omega)]; rfl
theorem at_0 {α : Type} {xs : List α} : atI xs 0 = xs[0]? := at_nat (k := 0)
theorem at_1 {α : Type} {xs : List α} : atI xs 1 = xs[1]? := at_nat (k := 1)
theorem at_2 {α : Type} {xs : List α} : atI xs 2 = xs[2]? := at_nat (k := 2)
theorem at_3 {α : Type} {xs : List α} : atI xs 3 = xs[3]? := at_nat (k := 3)
theorem at_4 {α : Type} {xs : List α} : atI xs 4 = xs[4]? := at_nat (k := 4)
theorem at_5 {α : Type} {xs : List α} : atI xs 5 = xs[5]? := at_nat (k := 5)
theorem at_pos {α : Type} {xs : List α} {i : Int} (h0 : 0 ≤ i) : atI xs i = xs[i.toNat]? := by
  obtain ⟨k, rfl⟩ := Int.eq_ofNat_of_zero_le h0
  exact at_nat
theorem q_bf_len : bfD z .len [x] H Q = ok (lenD x H) fun n => Q (.int n) H := rfl
theorem q_bf_abs : bfD z .abs [.int i] H Q = Q (.int i.natAbs) H := rfl
theorem q_bf_int : bfD z .int [.int i] H Q = Q (.int i) H := rfl
theorem q_bf_intb : bfD z .int [.bl b] H Q = Q (.int (if b then 1 else 0)) H := rfl
theorem q_bf_bool : bfD z .bool [.bl b] H Q = Q (.bl b) H := rfl
theorem q_bf_tup : bfD z .tuple [x] H Q = ok (itmT x H) fun ds => Q (.tup ds) H := rfl
theorem q_imT_t : itmT (.tup ds) H = some ds := rfl
theorem q_imT_l : itmT (.lst ds) H = some ds := rfl
theorem q_imT_s : itmT (.scr ds) H = some ds := rfl
theorem q_imT_r : itmT (.ref a) H = (match H a with | some (.lst ds) => some ds | _ => none) := rfl
theorem q_itm_p : itms (.tpl ds) H = some ds := rfl
theorem q_len_p : lenD (.tpl ds) H = some ds.length := rfl
theorem q_idx_p : idxD (.tpl ds) (.int i) H = atI ds i := rfl
theorem q_walk_p : walkD (.tpl ds) = some ds := rfl
theorem q_asg_p {σ : StD} {ts : List Tgt} : asg (.t ts) (.tpl ds) σ = asgs ts ds σ := rfl
theorem q_bf_lst : bfD z .list [x] H Q = ok (itms x H) fun ds => newL z ds H Q := rfl
theorem q_bf_all : bfD z .all [x] H Q = ok (seqOf x H) fun ds => ok (blsOf ds) fun bs => Q (.bl (bs.all id)) H := rfl
theorem q_bf_any : bfD z .any [x] H Q = ok (seqOf x H) fun ds => ok (blsOf ds) fun bs => Q (.bl (bs.any id)) H := rfl
theorem q_bf_allT : bfD z .allT [x] H Q = ok (seqOf x H) fun ds => ok (lsbOf ds H) fun bs => Q (.bl (bs.all id)) H := rfl
theorem q_bf_min2 : bfD z .min [.int i, .int j] H Q = Q (.int (if j < i then j else i)) H := rfl
theorem q_bf_max2 : bfD z .max [.int i, .int j] H Q = Q (.int (if j > i then j else i)) H := rfl
theorem q_bf_sum : bfD z .sum [x] H Q = ok (seqOf x H) fun ds => ok (intsOf ds) fun ns => Q (.int ns.sum) H := rfl
theorem q_bf_ord {c : Nat} : bfD z .ord [.str [c]] H Q = Q (.int c) H := rfl
theorem q_ty_n : tyD .non H = some .non := rfl
theorem q_ty_b : tyD (.bl b) H = some .bool := rfl
theorem q_ty_i : tyD (.int i) H = some .int := rfl
theorem q_ty_str : tyD (.str s) H = some .str := rfl
theorem q_ty_t : tyD (.tup ds) H = some .tuple := rfl
theorem q_ty_l : tyD (.lst ds) H = some .list := rfl
theorem q_ty_s : tyD (.scr ds) H = some .list := rfl
theorem q_ty_r : tyD (.ref a) H = (match H a with | some (.lst _) => some .list | some (.dct _) => some .dict | _ => none) := rfl
theorem q_app : mtD .append (.ref a) [d] H Q = (match H a with | some (.lst ds) => ds.length < lim ∧ Q .non (updD H a (.lst (ds ++ [d]))) | _ => False) := rfl
theorem q_ext : mtD .extend (.ref a) [x] H Q = (match H a with | some (.lst ds) => ok (seqH x H) fun es => ds.length + es.length ≤ lim ∧ Q .non (updD H a (.lst (ds ++ es))) | _ => False) := rfl
theorem q_pop : mtD .pop (.ref a) [] H Q = (match H a with | some (.lst ds) => ok ds.getLast? fun d => Q d (updD H a (.lst ds.dropLast)) | _ => False) := rfl
theorem q_popI : mtD .pop (.ref a) [.int i] H Q = (match H a with | some (.lst ds) => (0 ≤ i ∧ i < ds.length) ∧ ok (ds[i.toNat]?) fun d => Q d (updD H a (.lst (ds.eraseIdx i.toNat))) | _ => False) := rfl
theorem q_join : mtD .join (.str s) [x] H Q = ok (itms x H) fun ds => ok (strsOf ds) fun ss => (ss.map List.length).sum + ss.length * s.length ≤ lim ∧ Q (.str (joinL s ss)) H := rfl
theorem q_rcv_app : (rcv .append (.ref a) H = true) = (match H a with | some (.lst _) => True | _ => False) := by
  simp only [rcv, seqOf]; cases H a with
  | none => simp
  | some c => cases c <;> simp
theorem q_rcv_ext : (rcv .extend (.ref a) H = true) = (match H a with | some (.lst _) => True | _ => False) := by
  simp only [rcv, seqOf]; cases H a with
  | none => simp
  | some c => cases c <;> simp
theorem q_rcv_pop : (rcv .pop (.ref a) H = true) = (match H a with | some (.lst _) => True | _ => False) := by
  simp only [rcv, seqOf]; cases H a with
  | none => simp
  | some c => cases c <;> simp
theorem q_rcv_join : (rcv .join (.str s) H = true) = True := by simp [rcv]
theorem q_rcv_sidx : (rcv .sindex (.str s) H = true) = True := by simp [rcv]
theorem q_rcv_scnt : (rcv .scount (.str s) H = true) = True := by simp [rcv]
theorem q_rcv_tcnt {es : List D} : (rcv .tcount (.tup es) H = true) = True := by simp [rcv]
theorem q_tcnt {es : List D} {d : D} : mtD .tcount (.tup es) [d] H Q = ok (pys es) fun xs => ok (py d) fun e => min (PyData.depthAll xs) e.depth ≤ 60 ∧ Q (.int ((xs.countP fun z => PyData.eqv z e : Nat) : Int)) H := rfl
theorem q_rcv_idxD {es : List D} : (rcv .indexD (.lst es) H = true) = True := by simp [rcv, seqOf]
theorem q_idxD {es : List D} {d : D} : mtD .indexD (.lst es) [d] H Q = ok (pys es) fun xs => ok (py d) fun e => min (PyData.depthAll xs) e.depth ≤ 60 ∧ ok (xs.findIdx? fun z => PyData.eqv z e) fun i => Q (.int (i : Nat)) H := rfl
theorem q_rcv_sfnd : (rcv .sfind (.str s) H = true) = True := by simp [rcv]
theorem q_sidx : mtD .sindex (.str s) [.str t] H Q = ok (Txt.index0 (mkStr s) (mkStr t)) fun i => Q (.int (i : Nat)) H := rfl
theorem q_scnt : mtD .scount (.str s) [.str t] H Q = Q (.int (Txt.count (mkStr s) (mkStr t))) H := rfl
theorem q_sfnd : mtD .sfind (.str s) [.str t] H Q = Q (.int (Txt.find (mkStr s) (mkStr t))) H := rfl
theorem q_sl_str {lo hi : Option Int} : slD z (.str s) lo hi H Q = Q (.str (cutL s lo hi)) H := rfl
theorem q_sl_t {lo hi : Option Int} : slD z (.tup ds) lo hi H Q = Q (.tup (cutL ds lo hi)) H := rfl
theorem q_sl_l {lo hi : Option Int} : slD z (.lst ds) lo hi H Q = newL z (cutL ds lo hi) H Q := rfl
theorem q_sl_r {lo hi : Option Int} : slD z (.ref a) lo hi H Q = (match H a with | some (.lst ds) => newL z (cutL ds lo hi) H Q | _ => False) := by
  show ok (match H a with | some (.lst ds) => some ds | _ => none) _ = _
  cases H a with
  | none => rfl
  | some c => cases c <;> rfl
theorem q_sl_s {lo hi : Option Int} : slD z (.scr ds) lo hi H Q = newL z (cutL ds lo hi) H Q := rfl
theorem q_frz_r : frzD (.ref a) H Q = (match H a with | some (.lst ds) => Q (.lst ds) (delD H a) | _ => False) := rfl
theorem q_frz_l : frzD (.lst ds) H Q = Q (.lst ds) H := rfl
theorem q_frz_str : frzD (.str s) H Q = Q (.str s) H := rfl
theorem q_frz_t : frzD (.tup ds) H Q = Q (.tup ds) H := rfl
theorem q_frz_b : frzD (.bl b) H Q = Q (.bl b) H := rfl
theorem q_frz_n : frzD .non H Q = Q .non H := rfl
theorem q_frz_i : frzD (.int i) H Q = Q (.int i) H := rfl
theorem q_walk_t : walkD (.tup ds) = some ds := rfl
theorem q_walk_l : walkD (.lst ds) = some ds := rfl
theorem q_walk_s : walkD (.scr ds) = some ds := rfl
theorem q_walk_str : walkD (.str s) = some (s.map fun c => .str [c]) := rfl
theorem q_fix_t : fixD (.tup ds) = some ds := rfl
theorem q_fix_l : fixD (.lst ds) = some ds := rfl
theorem q_asg_n {σ : StD} {k : Nat} : asg (.n k) d σ = some (σ.set k (some d)) := rfl
theorem q_asg_t {σ : StD} {ts : List Tgt} : asg (.t ts) (.tup ds) σ = asgs ts ds σ := rfl
theorem q_asgs_n {σ : StD} : asgs [] [] σ = some σ := rfl
theorem q_asgs_c {σ : StD} {g : Tgt} {gs : List Tgt} : asgs (g :: gs) (d :: ds) σ = (match asg g d σ with | some σ' => asgs gs ds σ' | none => none) := rfl
theorem q_rg_t {i j : Int} : rgD z true i j H Q = (((-4611686018427387904 ≤ i ∧ i < 4611686018427387904) ∧ (-4611686018427387904 ≤ j ∧ j < 4611686018427387904)) ∧ (j - i).toNat ≤ lim ∧ Q (.tup (rngL (i, (j - i).toNat, 1))) H) := rfl
theorem q_rg_f {i j : Int} : rgD z false i j H Q = (((-4611686018427387904 ≤ i ∧ i < 4611686018427387904) ∧ (-4611686018427387904 ≤ j ∧ j < 4611686018427387904)) ∧ (j - i).toNat ≤ lim ∧ newL z (rngL (i, (j - i).toNat, 1)) H Q) := rfl
/-- range -/
theorem q_rng1 {j : Int} (h : -4611686018427387904 ≤ j ∧ j < 4611686018427387904) : rngD [.int j] = some (0, j.toNat, 1) := by simp only [rngD, h, and_self, if_true]
theorem q_rng2 {i j : Int} (h : (-4611686018427387904 ≤ i ∧ i < 4611686018427387904) ∧ (-4611686018427387904 ≤ j ∧ j < 4611686018427387904)) : rngD [.int i, .int j] = some (i, (j - i).toNat, 1) := by simp only [rngD, h, and_self, if_true]
end
end DL

local macro_rules
  | `(tactic| simp_arith [$ls,*]) => `(tactic| simp -implicitDefEqProofs only [DL.Gam.isb, DL.ok_some, DL.ok_none, DL.newL_t, DL.newL_f, DL.isTy, DL.wipeD, DL.isNo, DL.wPart, DL.wE, DL.wEs, DL.wBo, DL.wT, DL.wTs, DL.wI, DL.wSU, DL.offD, DL.onD, DL.wS, DL.wSs, DL.startD, DL.c_getD0, DL.c_getDS, DL.c_set0, DL.c_setS, DL.c_lenC, DL.c_lenN, DL.c_mapC, DL.c_mapN, DL.c_get0, DL.c_getS, DL.c_appC, DL.c_appN, DL.c_repS, DL.c_rep0, DL.c_anyC, DL.c_anyN, DL.c_decT, DL.c_decF, DL.c_orF, DL.c_orT, DL.c_Tor, DL.c_For, DL.c_nT, DL.c_nF, DL.c_Tand, DL.c_andT, DL.c_decE, DL.c_oms, DL.c_ifT, DL.c_ifF, DL.c_fT, DL.q_add_ii, DL.q_add_ss, DL.q_add_tt, DL.q_add_l, DL.q_add_r, DL.q_sub, DL.q_mul, DL.q_mul_l, DL.q_mul_s, DL.q_fdiv, DL.q_mod, DL.q_pow, DL.q_xor, DL.q_bor, DL.q_band, DL.q_seqH_l, DL.q_seqH_r, DL.q_seq_l, DL.q_seq_s, DL.q_seq_r, DL.q_seq_t, DL.q_itm_t, DL.q_itm_l, DL.q_itm_s, DL.q_itm_r, DL.q_len_str, DL.q_len_t, DL.q_len_l, DL.q_len_s, DL.q_len_r, DL.q_tr_n, DL.q_tr_b, DL.q_tr_i, DL.q_tr_str, DL.q_tr_t, DL.q_tr_l, DL.q_tr_s, DL.q_tr_r, DL.q_eq, DL.q_ne, DL.q_lt, DL.q_le, DL.q_gt, DL.q_ge, DL.q_inn, DL.q_ind, DL.q_nind, DL.q_nin, DL.q_is_n, DL.q_is_b, DL.q_is_i, DL.q_is_str, DL.q_is_t, DL.q_is_l, DL.q_is_r, DL.q_is_bb, DL.q_ns_bb, DL.q_ns_n, DL.q_ns_b, DL.q_ns_i, DL.q_ns_str, DL.q_ns_t, DL.q_ns_l, DL.q_ns_r, DL.q_eq_ii, DL.q_eq_ss, DL.q_eq_bb, DL.q_eq_nn, DL.q_idx_t, DL.q_idx_l, DL.q_idx_s, DL.q_idx_str, DL.q_idx_r, DL.at_0, DL.at_1, DL.at_2, DL.at_3, DL.at_4, DL.at_5, DL.q_bf_len, DL.q_bf_abs, DL.q_bf_int, DL.q_bf_intb, DL.q_bf_bool, DL.q_bf_tup, DL.q_imT_t, DL.q_imT_l, DL.q_imT_s, DL.q_imT_r, DL.q_itm_p, DL.q_len_p, DL.q_idx_p, DL.q_walk_p, DL.q_asg_p, DL.q_bf_lst, DL.q_bf_all, DL.q_bf_any, DL.q_bf_allT, DL.q_bf_min2, DL.q_bf_max2, DL.q_bf_sum, DL.q_bf_ord, DL.q_ty_n, DL.q_ty_b, DL.q_ty_i, DL.q_ty_str, DL.q_ty_t, DL.q_ty_l, DL.q_ty_s, DL.q_ty_r, DL.q_app, DL.q_ext, DL.q_pop, DL.q_popI, DL.q_join, DL.q_rcv_app, DL.q_rcv_ext, DL.q_rcv_pop, DL.q_rcv_join, DL.q_rcv_sidx, DL.q_rcv_scnt, DL.q_rcv_tcnt, DL.q_tcnt, DL.q_rcv_idxD, DL.q_idxD, DL.q_rcv_sfnd, DL.q_sidx, DL.q_scnt, DL.q_sfnd, DL.q_sl_str, DL.q_sl_t, DL.q_sl_l, DL.q_sl_r, DL.q_sl_s, DL.q_frz_r, DL.q_frz_l, DL.q_frz_str, DL.q_frz_t, DL.q_frz_b, DL.q_frz_n, DL.q_frz_i, DL.q_walk_t, DL.q_walk_l, DL.q_walk_s, DL.q_walk_str, DL.q_fix_t, DL.q_fix_l, DL.q_asg_n, DL.q_asg_t, DL.q_asgs_n, DL.q_asgs_c, DL.q_rg_t, DL.q_rg_f, Nat.reduceAdd, Nat.reduceSub, reduceCtorEq, Int.reduceToNat, Int.reduceLT, Int.reduceLE, Int.reduceNeg, $ls,*])
  | `(tactic| simp_arith [$ls,*] $loc:location) => `(tactic| simp -implicitDefEqProofs only [DL.Gam.isb, DL.ok_some, DL.ok_none, DL.newL_t, DL.newL_f, DL.isTy, DL.wipeD, DL.isNo, DL.wPart, DL.wE, DL.wEs, DL.wBo, DL.wT, DL.wTs, DL.wI, DL.wSU, DL.offD, DL.onD, DL.wS, DL.wSs, DL.startD, DL.c_getD0, DL.c_getDS, DL.c_set0, DL.c_setS, DL.c_lenC, DL.c_lenN, DL.c_mapC, DL.c_mapN, DL.c_get0, DL.c_getS, DL.c_appC, DL.c_appN, DL.c_repS, DL.c_rep0, DL.c_anyC, DL.c_anyN, DL.c_decT, DL.c_decF, DL.c_orF, DL.c_orT, DL.c_Tor, DL.c_For, DL.c_nT, DL.c_nF, DL.c_Tand, DL.c_andT, DL.c_decE, DL.c_oms, DL.c_ifT, DL.c_ifF, DL.c_fT, DL.q_add_ii, DL.q_add_ss, DL.q_add_tt, DL.q_add_l, DL.q_add_r, DL.q_sub, DL.q_mul, DL.q_mul_l, DL.q_mul_s, DL.q_fdiv, DL.q_mod, DL.q_pow, DL.q_xor, DL.q_bor, DL.q_band, DL.q_seqH_l, DL.q_seqH_r, DL.q_seq_l, DL.q_seq_s, DL.q_seq_r, DL.q_seq_t, DL.q_itm_t, DL.q_itm_l, DL.q_itm_s, DL.q_itm_r, DL.q_len_str, DL.q_len_t, DL.q_len_l, DL.q_len_s, DL.q_len_r, DL.q_tr_n, DL.q_tr_b, DL.q_tr_i, DL.q_tr_str, DL.q_tr_t, DL.q_tr_l, DL.q_tr_s, DL.q_tr_r, DL.q_eq, DL.q_ne, DL.q_lt, DL.q_le, DL.q_gt, DL.q_ge, DL.q_inn, DL.q_ind, DL.q_nind, DL.q_nin, DL.q_is_n, DL.q_is_b, DL.q_is_i, DL.q_is_str, DL.q_is_t, DL.q_is_l, DL.q_is_r, DL.q_is_bb, DL.q_ns_bb, DL.q_ns_n, DL.q_ns_b, DL.q_ns_i, DL.q_ns_str, DL.q_ns_t, DL.q_ns_l, DL.q_ns_r, DL.q_eq_ii, DL.q_eq_ss, DL.q_eq_bb, DL.q_eq_nn, DL.q_idx_t, DL.q_idx_l, DL.q_idx_s, DL.q_idx_str, DL.q_idx_r, DL.at_0, DL.at_1, DL.at_2, DL.at_3, DL.at_4, DL.at_5, DL.q_bf_len, DL.q_bf_abs, DL.q_bf_int, DL.q_bf_intb, DL.q_bf_bool, DL.q_bf_tup, DL.q_imT_t, DL.q_imT_l, DL.q_imT_s, DL.q_imT_r, DL.q_itm_p, DL.q_len_p, DL.q_idx_p, DL.q_walk_p, DL.q_asg_p, DL.q_bf_lst, DL.q_bf_all, DL.q_bf_any, DL.q_bf_allT, DL.q_bf_min2, DL.q_bf_max2, DL.q_bf_sum, DL.q_bf_ord, DL.q_ty_n, DL.q_ty_b, DL.q_ty_i, DL.q_ty_str, DL.q_ty_t, DL.q_ty_l, DL.q_ty_s, DL.q_ty_r, DL.q_app, DL.q_ext, DL.q_pop, DL.q_popI, DL.q_join, DL.q_rcv_app, DL.q_rcv_ext, DL.q_rcv_pop, DL.q_rcv_join, DL.q_rcv_sidx, DL.q_rcv_scnt, DL.q_rcv_tcnt, DL.q_tcnt, DL.q_rcv_idxD, DL.q_idxD, DL.q_rcv_sfnd, DL.q_sidx, DL.q_scnt, DL.q_sfnd, DL.q_sl_str, DL.q_sl_t, DL.q_sl_l, DL.q_sl_r, DL.q_sl_s, DL.q_frz_r, DL.q_frz_l, DL.q_frz_str, DL.q_frz_t, DL.q_frz_b, DL.q_frz_n, DL.q_frz_i, DL.q_walk_t, DL.q_walk_l, DL.q_walk_s, DL.q_walk_str, DL.q_fix_t, DL.q_fix_l, DL.q_asg_n, DL.q_asg_t, DL.q_asgs_n, DL.q_asgs_c, DL.q_rg_t, DL.q_rg_f, Nat.reduceAdd, Nat.reduceSub, reduceCtorEq, Int.reduceToNat, Int.reduceLT, Int.reduceLE, Int.reduceNeg, $ls,*] $loc)

namespace DL
open PySem PySem.Spec PyProof.Rows L2
/-! ## 16. A law's stream -/
def b_draw : Ss :=
 (.c (.ite (.bo true (.c (.cmp .eq (.idx (.var 0) (.con (.int 1))) (.con (.int 0))) (.c (.cmp .lt (.idx (.var 0) (.con (.int 2))) (.bf true .len (.c (.idx (.var 0) (.con (.int 0))) .n))) .n))) (.c (.setI (.var 0) (.con (.int 1)) (.bf true .abs (.c (.bf true .int (.c (.idx (.idx (.var 0) (.con (.int 0))) (.idx (.var 0) (.con (.int 2)))) .n)) .n)))
 (.c (.setI (.var 0) (.con (.int 2)) (.bin true .add (.idx (.var 0) (.con (.int 2))) (.con (.int 1))))
 .n)) .n)
 (.c (.ite (.cmp .eq (.idx (.var 0) (.con (.int 1))) (.con (.int 0))) (.c (.setI (.var 0) (.con (.int 3)) (.bin true .mod (.bf true .int (.c (.bin true .add (.bin true .mul (.idx (.var 0) (.con (.int 3))) (.con (.int 48271))) (.con (.int 11))) .n)) (.con (.int 2147483647))))
 (.c (.ret (.bin true .mod (.bf true .int (.c (.bin true .fdiv (.idx (.var 0) (.con (.int 3))) (.con (.int 97))) .n)) (.var 1)))
 .n)) .n)
 (.c (.set 2 (.bin true .mod (.bf true .int (.c (.idx (.var 0) (.con (.int 1))) .n)) (.var 1)))
 (.c (.setI (.var 0) (.con (.int 1)) (.bin true .fdiv (.idx (.var 0) (.con (.int 1))) (.var 1)))
 (.c (.ret (.var 2))
 .n)))))
def b_stream : Ss :=
 (.c (.set 1 (.con (.int 17)))
 (.c (.for_ (.n 2) (.of (.var 0)) (.c (.set 1 (.bin true .mod (.bf true .int (.c (.bin true .add (.bin true .add (.bin true .mul (.var 1) (.con (.int 48271))) (.bin true .mod (.bf true .int (.c (.var 2) .n)) (.con (.int 65521)))) (.con (.int 1))) .n)) (.con (.int 2147483647))))
 .n))
 (.c (.ret (.lst false (.c (.bf false .list (.c (.var 0) .n)) (.c (.con (.int 0)) (.c (.con (.int 0)) (.c (.var 1) .n))))))
 .n)))
/-- a stream laid bare -/
def rawG (a q : Addr) (ns : List D) (x k m : Int) : HD := updD (updD emp q (.lst ns)) a (.lst [.ref q, .int x, .int k, .int m])
theorem draw_run {Γ : Gam} {a q : Addr} {ns : List D} {x k m n : Int} {E : EndsD} (hq : q ≠ a) (hns : ∀ d ∈ ns, ∃ i, d = .int i) (hn : 0 < n ∧ n < 2 ^ 200) (hx : 0 ≤ x) (hk : 0 ≤ k ∧ k ≤ ns.length) (hm : 0 ≤ m ∧ m < 2147483647)
    (h : ∀ (r x' k' m' : Int), 0 ≤ r → r < n → 0 ≤ x' → 0 ≤ k' → k' ≤ ns.length → 0 ≤ m' → m' < 2147483647 → E.rt (.int r) (rawG a q ns x' k' m')) :
    wSs Γ b_draw E [some (.ref a), some (.int n), none] (rawG a q ns x k m) := by
  have ga : ∀ x k m, rawG a q ns x k m a = some (.lst [.ref q, .int x, .int k, .int m]) := fun x k m => updD_same
  have gq : ∀ x k m, rawG a q ns x k m q = some (.lst ns) := fun x k m => (updD_ne hq).trans updD_same
  have gu : ∀ x k m x' k' m', updD (rawG a q ns x k m) a (.lst [.ref q, .int x', .int k', .int m']) = rawG a q ns x' k' m' := fun x k m x' k' m' => updD_updD
  have rest : ∀ (x k : Int), 0 ≤ x → 0 ≤ k → k ≤ ns.length → wSs Γ (match b_draw with | .c _ r => r | .n => .n) E [some (.ref a), some (.int n), none] (rawG a q ns x k m) := by
    intro x k hx hk hk2
    simp only [b_draw, Gam.isb, ok_some, ok_none, newL_t, newL_f, isTy, wipeD, isNo, wPart, wE, wEs, wBo, wT, wTs, wI, wSU, offD, onD, wS, wSs, startD, c_getD0, c_getDS, c_set0, c_setS, c_lenC, c_lenN, c_mapC, c_mapN, c_get0, c_getS, c_appC, c_appN, c_repS, c_rep0, c_anyC, c_anyN, c_decT, c_decF, c_orF, c_orT, c_Tor, c_For, c_nT, c_nF, c_Tand, c_andT, c_decE, c_oms, c_ifT, c_ifF, c_fT, q_add_ii, q_add_ss, q_add_tt, q_add_l, q_add_r, q_sub, q_mul, q_mul_l, q_mul_s, q_fdiv, q_mod, q_pow, q_xor, q_bor, q_band, q_seqH_l, q_seqH_r, q_seq_l, q_seq_s, q_seq_r, q_seq_t, q_itm_t, q_itm_l, q_itm_s, q_itm_r, q_len_str, q_len_t, q_len_l, q_len_s, q_len_r, q_tr_n, q_tr_b, q_tr_i, q_tr_str, q_tr_t, q_tr_l, q_tr_s, q_tr_r, q_eq, q_ne, q_lt, q_le, q_gt, q_ge, q_inn, q_ind, q_nind, q_nin, q_is_n, q_is_b, q_is_i, q_is_str, q_is_t, q_is_l, q_is_r, q_is_bb, q_ns_bb, q_ns_n, q_ns_b, q_ns_i, q_ns_str, q_ns_t, q_ns_l, q_ns_r, q_eq_ii, q_eq_ss, q_eq_bb, q_eq_nn, q_idx_t, q_idx_l, q_idx_s, q_idx_str, q_idx_r, at_0, at_1, at_2, at_3, at_4, at_5, q_bf_len, q_bf_abs, q_bf_int, q_bf_intb, q_bf_bool, q_bf_tup, q_imT_t, q_imT_l, q_imT_s, q_imT_r, q_itm_p, q_len_p, q_idx_p, q_walk_p, q_asg_p, q_bf_lst, q_bf_all, q_bf_any, q_bf_allT, q_bf_min2, q_bf_max2, q_bf_sum, q_bf_ord, q_ty_n, q_ty_b, q_ty_i, q_ty_str, q_ty_t, q_ty_l, q_ty_s, q_ty_r, q_app, q_ext, q_pop, q_popI, q_join, q_rcv_app, q_rcv_ext, q_rcv_pop, q_rcv_join, q_rcv_sidx, q_rcv_scnt, q_rcv_tcnt, q_tcnt, q_rcv_idxD, q_idxD, q_rcv_sfnd, q_sidx, q_scnt, q_sfnd, q_sl_str, q_sl_t, q_sl_l, q_sl_r, q_sl_s, q_frz_r, q_frz_l, q_frz_str, q_frz_t, q_frz_b, q_frz_n, q_frz_i, q_walk_t, q_walk_l, q_walk_s, q_walk_str, q_fix_t, q_fix_l, q_asg_n, q_asg_t, q_asgs_n, q_asgs_c, q_rg_t, q_rg_f, Nat.reduceAdd, Nat.reduceSub, reduceCtorEq, Int.reduceToNat, Int.reduceLT, Int.reduceLE, Int.reduceNeg, ga, gq, gu]
    cases h0 : (x == 0) with
    | true =>
      have hm2 : 0 ≤ (m * 48271 + 11) % 2147483647 ∧ (m * 48271 + 11) % 2147483647 < 2147483647 := ⟨Int.emod_nonneg _ (by decide), Int.emod_lt_of_pos _ (by decide)⟩
      have : 0 < n := hn.1
      refine ⟨by omega, by decide, by decide, this, ?_⟩
      exact h _ _ _ _ (Int.emod_nonneg _ (by omega)) (Int.emod_lt_of_pos _ this) hx hk hk2 hm2.1 hm2.2
    | false =>
      exact ⟨hn.1, hn, by omega, h _ _ _ _ (Int.emod_nonneg _ (by omega)) (Int.emod_lt_of_pos _ hn.1) (Int.ediv_nonneg hx (by omega)) hk hk2 hm.1 hm.2⟩
  simp only [b_draw, Gam.isb, ok_some, ok_none, newL_t, newL_f, isTy, wipeD, isNo, wPart, wE, wEs, wBo, wT, wTs, wI, wSU, offD, onD, wS, wSs, startD, c_getD0, c_getDS, c_set0, c_setS, c_lenC, c_lenN, c_mapC, c_mapN, c_get0, c_getS, c_appC, c_appN, c_repS, c_rep0, c_anyC, c_anyN, c_decT, c_decF, c_orF, c_orT, c_Tor, c_For, c_nT, c_nF, c_Tand, c_andT, c_decE, c_oms, c_ifT, c_ifF, c_fT, q_add_ii, q_add_ss, q_add_tt, q_add_l, q_add_r, q_sub, q_mul, q_mul_l, q_mul_s, q_fdiv, q_mod, q_pow, q_xor, q_bor, q_band, q_seqH_l, q_seqH_r, q_seq_l, q_seq_s, q_seq_r, q_seq_t, q_itm_t, q_itm_l, q_itm_s, q_itm_r, q_len_str, q_len_t, q_len_l, q_len_s, q_len_r, q_tr_n, q_tr_b, q_tr_i, q_tr_str, q_tr_t, q_tr_l, q_tr_s, q_tr_r, q_eq, q_ne, q_lt, q_le, q_gt, q_ge, q_inn, q_ind, q_nind, q_nin, q_is_n, q_is_b, q_is_i, q_is_str, q_is_t, q_is_l, q_is_r, q_is_bb, q_ns_bb, q_ns_n, q_ns_b, q_ns_i, q_ns_str, q_ns_t, q_ns_l, q_ns_r, q_eq_ii, q_eq_ss, q_eq_bb, q_eq_nn, q_idx_t, q_idx_l, q_idx_s, q_idx_str, q_idx_r, at_0, at_1, at_2, at_3, at_4, at_5, q_bf_len, q_bf_abs, q_bf_int, q_bf_intb, q_bf_bool, q_bf_tup, q_imT_t, q_imT_l, q_imT_s, q_imT_r, q_itm_p, q_len_p, q_idx_p, q_walk_p, q_asg_p, q_bf_lst, q_bf_all, q_bf_any, q_bf_allT, q_bf_min2, q_bf_max2, q_bf_sum, q_bf_ord, q_ty_n, q_ty_b, q_ty_i, q_ty_str, q_ty_t, q_ty_l, q_ty_s, q_ty_r, q_app, q_ext, q_pop, q_popI, q_join, q_rcv_app, q_rcv_ext, q_rcv_pop, q_rcv_join, q_rcv_sidx, q_rcv_scnt, q_rcv_tcnt, q_tcnt, q_rcv_idxD, q_idxD, q_rcv_sfnd, q_sidx, q_scnt, q_sfnd, q_sl_str, q_sl_t, q_sl_l, q_sl_r, q_sl_s, q_frz_r, q_frz_l, q_frz_str, q_frz_t, q_frz_b, q_frz_n, q_frz_i, q_walk_t, q_walk_l, q_walk_s, q_walk_str, q_fix_t, q_fix_l, q_asg_n, q_asg_t, q_asgs_n, q_asgs_c, q_rg_t, q_rg_f, Nat.reduceAdd, Nat.reduceSub, reduceCtorEq, Int.reduceToNat, Int.reduceLT, Int.reduceLE, Int.reduceNeg, ga, gq, gu]
  simp only [b_draw, Gam.isb, ok_some, ok_none, newL_t, newL_f, isTy, wipeD, isNo, wPart, wE, wEs, wBo, wT, wTs, wI, wSU, offD, onD, wS, wSs, startD, c_getD0, c_getDS, c_set0, c_setS, c_lenC, c_lenN, c_mapC, c_mapN, c_get0, c_getS, c_appC, c_appN, c_repS, c_rep0, c_anyC, c_anyN, c_decT, c_decF, c_orF, c_orT, c_Tor, c_For, c_nT, c_nF, c_Tand, c_andT, c_decE, c_oms, c_ifT, c_ifF, c_fT, q_add_ii, q_add_ss, q_add_tt, q_add_l, q_add_r, q_sub, q_mul, q_mul_l, q_mul_s, q_fdiv, q_mod, q_pow, q_xor, q_bor, q_band, q_seqH_l, q_seqH_r, q_seq_l, q_seq_s, q_seq_r, q_seq_t, q_itm_t, q_itm_l, q_itm_s, q_itm_r, q_len_str, q_len_t, q_len_l, q_len_s, q_len_r, q_tr_n, q_tr_b, q_tr_i, q_tr_str, q_tr_t, q_tr_l, q_tr_s, q_tr_r, q_eq, q_ne, q_lt, q_le, q_gt, q_ge, q_inn, q_ind, q_nind, q_nin, q_is_n, q_is_b, q_is_i, q_is_str, q_is_t, q_is_l, q_is_r, q_is_bb, q_ns_bb, q_ns_n, q_ns_b, q_ns_i, q_ns_str, q_ns_t, q_ns_l, q_ns_r, q_eq_ii, q_eq_ss, q_eq_bb, q_eq_nn, q_idx_t, q_idx_l, q_idx_s, q_idx_str, q_idx_r, at_0, at_1, at_2, at_3, at_4, at_5, q_bf_len, q_bf_abs, q_bf_int, q_bf_intb, q_bf_bool, q_bf_tup, q_imT_t, q_imT_l, q_imT_s, q_imT_r, q_itm_p, q_len_p, q_idx_p, q_walk_p, q_asg_p, q_bf_lst, q_bf_all, q_bf_any, q_bf_allT, q_bf_min2, q_bf_max2, q_bf_sum, q_bf_ord, q_ty_n, q_ty_b, q_ty_i, q_ty_str, q_ty_t, q_ty_l, q_ty_s, q_ty_r, q_app, q_ext, q_pop, q_popI, q_join, q_rcv_app, q_rcv_ext, q_rcv_pop, q_rcv_join, q_rcv_sidx, q_rcv_scnt, q_rcv_tcnt, q_tcnt, q_rcv_idxD, q_idxD, q_rcv_sfnd, q_sidx, q_scnt, q_sfnd, q_sl_str, q_sl_t, q_sl_l, q_sl_r, q_sl_s, q_frz_r, q_frz_l, q_frz_str, q_frz_t, q_frz_b, q_frz_n, q_frz_i, q_walk_t, q_walk_l, q_walk_s, q_walk_str, q_fix_t, q_fix_l, q_asg_n, q_asg_t, q_asgs_n, q_asgs_c, q_rg_t, q_rg_f, Nat.reduceAdd, Nat.reduceSub, reduceCtorEq, Int.reduceToNat, Int.reduceLT, Int.reduceLE, Int.reduceNeg, ga, gq, gu] at rest
  by_cases h0 : (x == 0) = true
  · rw [if_pos h0]
    by_cases h1 : k < ns.length
    · rw [decide_eq_true h1]
      obtain ⟨i, hi⟩ : ∃ i, atI ns k = some (.int i) := by
        rw [at_pos hk.1]
        have hl : k.toNat < ns.length := by omega
        obtain ⟨i, hi⟩ := hns _ (List.getElem_mem hl)
        exact ⟨i, by rw [List.getElem?_eq_getElem hl, hi]⟩
      simp only [hi, Gam.isb, ok_some, ok_none, newL_t, newL_f, isTy, wipeD, isNo, wPart, wE, wEs, wBo, wT, wTs, wI, wSU, offD, onD, wS, wSs, startD, c_getD0, c_getDS, c_set0, c_setS, c_lenC, c_lenN, c_mapC, c_mapN, c_get0, c_getS, c_appC, c_appN, c_repS, c_rep0, c_anyC, c_anyN, c_decT, c_decF, c_orF, c_orT, c_Tor, c_For, c_nT, c_nF, c_Tand, c_andT, c_decE, c_oms, c_ifT, c_ifF, c_fT, q_add_ii, q_add_ss, q_add_tt, q_add_l, q_add_r, q_sub, q_mul, q_mul_l, q_mul_s, q_fdiv, q_mod, q_pow, q_xor, q_bor, q_band, q_seqH_l, q_seqH_r, q_seq_l, q_seq_s, q_seq_r, q_seq_t, q_itm_t, q_itm_l, q_itm_s, q_itm_r, q_len_str, q_len_t, q_len_l, q_len_s, q_len_r, q_tr_n, q_tr_b, q_tr_i, q_tr_str, q_tr_t, q_tr_l, q_tr_s, q_tr_r, q_eq, q_ne, q_lt, q_le, q_gt, q_ge, q_inn, q_ind, q_nind, q_nin, q_is_n, q_is_b, q_is_i, q_is_str, q_is_t, q_is_l, q_is_r, q_is_bb, q_ns_bb, q_ns_n, q_ns_b, q_ns_i, q_ns_str, q_ns_t, q_ns_l, q_ns_r, q_eq_ii, q_eq_ss, q_eq_bb, q_eq_nn, q_idx_t, q_idx_l, q_idx_s, q_idx_str, q_idx_r, at_0, at_1, at_2, at_3, at_4, at_5, q_bf_len, q_bf_abs, q_bf_int, q_bf_intb, q_bf_bool, q_bf_tup, q_imT_t, q_imT_l, q_imT_s, q_imT_r, q_itm_p, q_len_p, q_idx_p, q_walk_p, q_asg_p, q_bf_lst, q_bf_all, q_bf_any, q_bf_allT, q_bf_min2, q_bf_max2, q_bf_sum, q_bf_ord, q_ty_n, q_ty_b, q_ty_i, q_ty_str, q_ty_t, q_ty_l, q_ty_s, q_ty_r, q_app, q_ext, q_pop, q_popI, q_join, q_rcv_app, q_rcv_ext, q_rcv_pop, q_rcv_join, q_rcv_sidx, q_rcv_scnt, q_rcv_tcnt, q_tcnt, q_rcv_idxD, q_idxD, q_rcv_sfnd, q_sidx, q_scnt, q_sfnd, q_sl_str, q_sl_t, q_sl_l, q_sl_r, q_sl_s, q_frz_r, q_frz_l, q_frz_str, q_frz_t, q_frz_b, q_frz_n, q_frz_i, q_walk_t, q_walk_l, q_walk_s, q_walk_str, q_fix_t, q_fix_l, q_asg_n, q_asg_t, q_asgs_n, q_asgs_c, q_rg_t, q_rg_f, Nat.reduceAdd, Nat.reduceSub, reduceCtorEq, Int.reduceToNat, Int.reduceLT, Int.reduceLE, Int.reduceNeg, ga, gq, gu]
      refine ⟨by omega, by omega, ?_⟩
      exact rest _ _ (by omega) (by omega) (by omega)
    · rw [decide_eq_false h1]
      exact rest _ _ hx hk.1 hk.2
  · rw [if_neg h0]
    exact rest _ _ hx hk.1 hk.2
theorem allInts {ns : List Int} : ∀ d ∈ ns.map D.int, ∃ i, d = .int i := by
  intro d h
  obtain ⟨i, _, rfl⟩ := List.mem_map.mp h
  exact ⟨i, rfl⟩
theorem stream_run {Γ : Gam} {ns : List D} {G : HD} {E : EndsD} (hns : ∀ d ∈ ns, ∃ i, d = .int i)
    (h : ∀ p q m, G q = none → (updD G q (.lst ns)) p = none → 0 ≤ m → m < 2147483647 → E.rt (.ref p) (updD (updD G q (.lst ns)) p (.lst [.ref q, .int 0, .int 0, .int m]))) :
    wSs Γ b_stream E [some (.scr ns), none, none] G := by
  simp only [b_stream, Gam.isb, ok_some, ok_none, newL_t, newL_f, isTy, wipeD, isNo, wPart, wE, wEs, wBo, wT, wTs, wI, wSU, offD, onD, wS, wSs, startD, c_getD0, c_getDS, c_set0, c_setS, c_lenC, c_lenN, c_mapC, c_mapN, c_get0, c_getS, c_appC, c_appN, c_repS, c_rep0, c_anyC, c_anyN, c_decT, c_decF, c_orF, c_orT, c_Tor, c_For, c_nT, c_nF, c_Tand, c_andT, c_decE, c_oms, c_ifT, c_ifF, c_fT, q_add_ii, q_add_ss, q_add_tt, q_add_l, q_add_r, q_sub, q_mul, q_mul_l, q_mul_s, q_fdiv, q_mod, q_pow, q_xor, q_bor, q_band, q_seqH_l, q_seqH_r, q_seq_l, q_seq_s, q_seq_r, q_seq_t, q_itm_t, q_itm_l, q_itm_s, q_itm_r, q_len_str, q_len_t, q_len_l, q_len_s, q_len_r, q_tr_n, q_tr_b, q_tr_i, q_tr_str, q_tr_t, q_tr_l, q_tr_s, q_tr_r, q_eq, q_ne, q_lt, q_le, q_gt, q_ge, q_inn, q_ind, q_nind, q_nin, q_is_n, q_is_b, q_is_i, q_is_str, q_is_t, q_is_l, q_is_r, q_is_bb, q_ns_bb, q_ns_n, q_ns_b, q_ns_i, q_ns_str, q_ns_t, q_ns_l, q_ns_r, q_eq_ii, q_eq_ss, q_eq_bb, q_eq_nn, q_idx_t, q_idx_l, q_idx_s, q_idx_str, q_idx_r, at_0, at_1, at_2, at_3, at_4, at_5, q_bf_len, q_bf_abs, q_bf_int, q_bf_intb, q_bf_bool, q_bf_tup, q_imT_t, q_imT_l, q_imT_s, q_imT_r, q_itm_p, q_len_p, q_idx_p, q_walk_p, q_asg_p, q_bf_lst, q_bf_all, q_bf_any, q_bf_allT, q_bf_min2, q_bf_max2, q_bf_sum, q_bf_ord, q_ty_n, q_ty_b, q_ty_i, q_ty_str, q_ty_t, q_ty_l, q_ty_s, q_ty_r, q_app, q_ext, q_pop, q_popI, q_join, q_rcv_app, q_rcv_ext, q_rcv_pop, q_rcv_join, q_rcv_sidx, q_rcv_scnt, q_rcv_tcnt, q_tcnt, q_rcv_idxD, q_idxD, q_rcv_sfnd, q_sidx, q_scnt, q_sfnd, q_sl_str, q_sl_t, q_sl_l, q_sl_r, q_sl_s, q_frz_r, q_frz_l, q_frz_str, q_frz_t, q_frz_b, q_frz_n, q_frz_i, q_walk_t, q_walk_l, q_walk_s, q_walk_str, q_fix_t, q_fix_l, q_asg_n, q_asg_t, q_asgs_n, q_asgs_c, q_rg_t, q_rg_f, Nat.reduceAdd, Nat.reduceSub, reduceCtorEq, Int.reduceToNat, Int.reduceLT, Int.reduceLE, Int.reduceNeg]
  refine wFor_ind (fun xs σ H => (∀ d ∈ xs, ∃ i, d = .int i) ∧ H = G ∧ ∃ m o, σ = [some (.scr ns), some (.int m), o] ∧ 0 ≤ m ∧ m < 2147483647) ?_ ?_ _ _ _ ⟨hns, rfl, 17, none, rfl, by decide, by decide⟩
  · rintro σ H ⟨_, rfl, m, o, rfl, h1, h2⟩
    simp only [Gam.isb, ok_some, ok_none, newL_t, newL_f, isTy, wipeD, isNo, wPart, wE, wEs, wBo, wT, wTs, wI, wSU, offD, onD, wS, wSs, startD, c_getD0, c_getDS, c_set0, c_setS, c_lenC, c_lenN, c_mapC, c_mapN, c_get0, c_getS, c_appC, c_appN, c_repS, c_rep0, c_anyC, c_anyN, c_decT, c_decF, c_orF, c_orT, c_Tor, c_For, c_nT, c_nF, c_Tand, c_andT, c_decE, c_oms, c_ifT, c_ifF, c_fT, q_add_ii, q_add_ss, q_add_tt, q_add_l, q_add_r, q_sub, q_mul, q_mul_l, q_mul_s, q_fdiv, q_mod, q_pow, q_xor, q_bor, q_band, q_seqH_l, q_seqH_r, q_seq_l, q_seq_s, q_seq_r, q_seq_t, q_itm_t, q_itm_l, q_itm_s, q_itm_r, q_len_str, q_len_t, q_len_l, q_len_s, q_len_r, q_tr_n, q_tr_b, q_tr_i, q_tr_str, q_tr_t, q_tr_l, q_tr_s, q_tr_r, q_eq, q_ne, q_lt, q_le, q_gt, q_ge, q_inn, q_ind, q_nind, q_nin, q_is_n, q_is_b, q_is_i, q_is_str, q_is_t, q_is_l, q_is_r, q_is_bb, q_ns_bb, q_ns_n, q_ns_b, q_ns_i, q_ns_str, q_ns_t, q_ns_l, q_ns_r, q_eq_ii, q_eq_ss, q_eq_bb, q_eq_nn, q_idx_t, q_idx_l, q_idx_s, q_idx_str, q_idx_r, at_0, at_1, at_2, at_3, at_4, at_5, q_bf_len, q_bf_abs, q_bf_int, q_bf_intb, q_bf_bool, q_bf_tup, q_imT_t, q_imT_l, q_imT_s, q_imT_r, q_itm_p, q_len_p, q_idx_p, q_walk_p, q_asg_p, q_bf_lst, q_bf_all, q_bf_any, q_bf_allT, q_bf_min2, q_bf_max2, q_bf_sum, q_bf_ord, q_ty_n, q_ty_b, q_ty_i, q_ty_str, q_ty_t, q_ty_l, q_ty_s, q_ty_r, q_app, q_ext, q_pop, q_popI, q_join, q_rcv_app, q_rcv_ext, q_rcv_pop, q_rcv_join, q_rcv_sidx, q_rcv_scnt, q_rcv_tcnt, q_tcnt, q_rcv_idxD, q_idxD, q_rcv_sfnd, q_sidx, q_scnt, q_sfnd, q_sl_str, q_sl_t, q_sl_l, q_sl_r, q_sl_s, q_frz_r, q_frz_l, q_frz_str, q_frz_t, q_frz_b, q_frz_n, q_frz_i, q_walk_t, q_walk_l, q_walk_s, q_walk_str, q_fix_t, q_fix_l, q_asg_n, q_asg_t, q_asgs_n, q_asgs_c, q_rg_t, q_rg_f, Nat.reduceAdd, Nat.reduceSub, reduceCtorEq, Int.reduceToNat, Int.reduceLT, Int.reduceLE, Int.reduceNeg]
    intro q hq p hp
    exact h p q m hq hp h1 h2
  · rintro x xs ih σ H ⟨hx, rfl, m, o, rfl, h1, h2⟩
    obtain ⟨i, rfl⟩ := hx x List.mem_cons_self
    simp only [Gam.isb, ok_some, ok_none, newL_t, newL_f, isTy, wipeD, isNo, wPart, wE, wEs, wBo, wT, wTs, wI, wSU, offD, onD, wS, wSs, startD, c_getD0, c_getDS, c_set0, c_setS, c_lenC, c_lenN, c_mapC, c_mapN, c_get0, c_getS, c_appC, c_appN, c_repS, c_rep0, c_anyC, c_anyN, c_decT, c_decF, c_orF, c_orT, c_Tor, c_For, c_nT, c_nF, c_Tand, c_andT, c_decE, c_oms, c_ifT, c_ifF, c_fT, q_add_ii, q_add_ss, q_add_tt, q_add_l, q_add_r, q_sub, q_mul, q_mul_l, q_mul_s, q_fdiv, q_mod, q_pow, q_xor, q_bor, q_band, q_seqH_l, q_seqH_r, q_seq_l, q_seq_s, q_seq_r, q_seq_t, q_itm_t, q_itm_l, q_itm_s, q_itm_r, q_len_str, q_len_t, q_len_l, q_len_s, q_len_r, q_tr_n, q_tr_b, q_tr_i, q_tr_str, q_tr_t, q_tr_l, q_tr_s, q_tr_r, q_eq, q_ne, q_lt, q_le, q_gt, q_ge, q_inn, q_ind, q_nind, q_nin, q_is_n, q_is_b, q_is_i, q_is_str, q_is_t, q_is_l, q_is_r, q_is_bb, q_ns_bb, q_ns_n, q_ns_b, q_ns_i, q_ns_str, q_ns_t, q_ns_l, q_ns_r, q_eq_ii, q_eq_ss, q_eq_bb, q_eq_nn, q_idx_t, q_idx_l, q_idx_s, q_idx_str, q_idx_r, at_0, at_1, at_2, at_3, at_4, at_5, q_bf_len, q_bf_abs, q_bf_int, q_bf_intb, q_bf_bool, q_bf_tup, q_imT_t, q_imT_l, q_imT_s, q_imT_r, q_itm_p, q_len_p, q_idx_p, q_walk_p, q_asg_p, q_bf_lst, q_bf_all, q_bf_any, q_bf_allT, q_bf_min2, q_bf_max2, q_bf_sum, q_bf_ord, q_ty_n, q_ty_b, q_ty_i, q_ty_str, q_ty_t, q_ty_l, q_ty_s, q_ty_r, q_app, q_ext, q_pop, q_popI, q_join, q_rcv_app, q_rcv_ext, q_rcv_pop, q_rcv_join, q_rcv_sidx, q_rcv_scnt, q_rcv_tcnt, q_tcnt, q_rcv_idxD, q_idxD, q_rcv_sfnd, q_sidx, q_scnt, q_sfnd, q_sl_str, q_sl_t, q_sl_l, q_sl_r, q_sl_s, q_frz_r, q_frz_l, q_frz_str, q_frz_t, q_frz_b, q_frz_n, q_frz_i, q_walk_t, q_walk_l, q_walk_s, q_walk_str, q_fix_t, q_fix_l, q_asg_n, q_asg_t, q_asgs_n, q_asgs_c, q_rg_t, q_rg_f, Nat.reduceAdd, Nat.reduceSub, reduceCtorEq, Int.reduceToNat, Int.reduceLT, Int.reduceLE, Int.reduceNeg]
    refine ⟨.inr trivial, ih _ _ ⟨fun d hd => hx d (List.mem_cons_of_mem _ hd), rfl, _, _, rfl, Int.emod_nonneg _ (by decide), Int.emod_lt_of_pos _ (by decide)⟩⟩
def spDraw : SpD := fun ds G Q _ => ∃ n : Int, ds = [.rnd, .int n] ∧ (0 < n ∧ n < 2 ^ 200) ∧ ∀ r, 0 ≤ r → r < n → Q (.int r) G
def spStream : SpD := fun ds G Q _ => ∃ ns : List Int, ds = [.scr (ns.map .int)] ∧ Q .rnd G
def spDraw0 : SpD := fun ds G Q _ => ∃ (a q : Addr) (ns : List Int) (x k m n : Int), ds = [.ref a, .int n] ∧ q ≠ a ∧ G = rawG a q (ns.map .int) x k m ∧ (0 < n ∧ n < 2 ^ 200) ∧ 0 ≤ x ∧ (0 ≤ k ∧ k ≤ (ns.map D.int).length) ∧ (0 ≤ m ∧ m < 2147483647) ∧
  ∀ (r x' k' m' : Int), 0 ≤ r → r < n → 0 ≤ x' → 0 ≤ k' → k' ≤ (ns.map D.int).length → 0 ≤ m' → m' < 2147483647 → Q (.int r) (rawG a q (ns.map .int) x' k' m')
def spStream0 : SpD := fun ds G Q _ => ∃ ns : List Int, ds = [.scr (ns.map .int)] ∧ G = emp ∧ ∀ p q m, p ≠ q → 0 ≤ m → m < 2147483647 → Q (.ref p) (rawG p q (ns.map .int) 0 0 m)
def d_stream (st : Stmt) : Df := ⟨"_law_stream", ["script"], ["script", "mixed", "cell"], st, b_stream⟩
def d_draw (st : Stmt) : Df := ⟨"_law_draw", ["stream", "many"], ["stream", "many", "value"], st, b_draw⟩
theorem draw0_ok {Γ : Gam} {st : Stmt} (ds : List D) (G : HD) (QD : KD) (XD : KX) (h : spDraw0 ds G QD XD) :
    wSs Γ (d_draw st).b { nx := fun _ H => QD .non H, rt := QD, ex := fun x _ H => XD x H } (startD (d_draw st).N.length ds) G := by
  obtain ⟨a, q, ns, x, k, m, n, rfl, h1, rfl, h2, h3, h4, h5, h6⟩ := h
  exact draw_run h1 allInts h2 h3 h4 h5 h6
theorem stream0_ok {Γ : Gam} {st : Stmt} (ds : List D) (G : HD) (QD : KD) (XD : KX) (h : spStream0 ds G QD XD) :
    wSs Γ (d_stream st).b { nx := fun _ H => QD .non H, rt := QD, ex := fun x _ H => XD x H } (startD (d_stream st).N.length ds) G := by
  obtain ⟨ns, rfl, rfl, h⟩ := h
  exact stream_run allInts fun p q m hq hp h1 h2 => h p q m (fun e => by rw [e, updD_same] at hp; cases hp) h1 h2
section
variable {K : PySem.W.Frag} {fnm clm : Nat → Option Addr} {S S' : Addr → Option Bool} {H H' : Hp} {G G' : HD}
abbrev noS : Addr → Option Bool := fun _ => none
theorem ints_dat : ∀ {ns : List Int}, DatAll K fnm S H G (ns.map V.int) (ns.map D.int)
  | [] => .nil
  | n :: ns => .cons (.int n) ints_dat
theorem ints_back : ∀ {ns : List Int} {vs : List V}, DatAll K fnm S H G vs (ns.map D.int) → vs = ns.map V.int
  | [], _, .nil => rfl
  | n :: ns, _, .cons r t => by cases r; rw [ints_back t]; rfl
/-- a piece of code that saw the stream bare: back into the whole -/
theorem frame_draw {a q : Addr} {ns : List Int} {x k m : Int} (R : Hel K fnm clm S H G) (ha : S a = some true) (hq : G q = none) (sq : S q = none) (hz : ns.length ≤ sizeLine)
    {x' k' m' : Int} (hx : 0 ≤ x') (hk : 0 ≤ k') (hk2 : k' ≤ (ns.map D.int).length) (hm : 0 ≤ m') (hm2 : m' < 2147483647) (hqa : q ≠ a) (Hq : H q = some (.lst (ns.map V.int)))
    (st : Step noS H (rawG a q (ns.map .int) x k m) S' H' (rawG a q (ns.map .int) x' k' m')) (R' : Hel K fnm clm S' H' (rawG a q (ns.map .int) x' k' m')) : Step S H G S H' G ∧ Hel K fnm clm S H' G := by
  have g0 : ∀ b, b ≠ a → b ≠ q → rawG a q (ns.map .int) x k m b = none := fun b h1 h2 => (updD_ne h1).trans ((updD_ne h2).trans rfl)
  have stay : ∀ b o, b ≠ a → H b = some o → H' b = some o := fun b o h1 e => by
    by_cases h2 : b = q
    · subst h2
      obtain ⟨vs, e1, e2, e3⟩ := R'.cell b (.lst (ns.map .int)) ((updD_ne h1).trans updD_same)
      rw [e1, ints_back e3, ← Hq, e]
    · exact st.stay b o e (g0 b h1 h2) (by simp [noS])
  have S0 : Step S H G S H' G := ⟨fun b o e g s => stay b o (fun z => by rw [z] at s; exact s ha) e, fun _ _ h => h, fun _ h => h.elim .inl fun x => .inr (.inl x), fun _ h => .inl h, st.there⟩
  refine ⟨S0, fun b c e => ?_, fun b e => ?_, fun b e => ?_⟩
  · have h1 : b ≠ a := fun z => by rw [z, (R.rnd a ha).1] at e; cases e
    have hb := R.there (a := b) (.inl (by rw [e]; simp))
    refine (R.cell b c e).step R S0 ?_
    cases hh : H b with
    | none => exact absurd hh hb
    | some o => rw [stay b o h1 hh]
  · refine ⟨(R.rnd b e).1, ?_⟩
    by_cases h1 : b = a
    · subst h1
      obtain ⟨vs, e1, e2, e3⟩ := R'.cell b _ updD_same
      cases e3 with
      | cons r1 t =>
        cases t with
        | cons r2 t =>
          cases t with
          | cons r3 t =>
            cases t with
            | cons r4 t =>
              cases t
              cases r1; cases r2; cases r3; cases r4
              refine ⟨q, ns, x', k', m', e1, stay q _ hqa Hq, hq, sq, hx, hk, by simpa using hk2, hm, hm2, hz⟩
    · have hb := R.there (a := b) (.inr (by rw [e]; simp))
      refine (R.rnd b e).2.step R S0 ?_
      cases hh : H b with
      | none => exact absurd hh hb
      | some o => rw [stay b o h1 hh]
  · obtain ⟨g, r⟩ := R.res b e
    exact ⟨g, fun z => r (st.there b z)⟩
def addS (S : Addr → Option Bool) (p : Addr) : Addr → Option Bool := fun a => if a = p then some true else S a
theorem frame_stream {p q : Addr} {ns : List Int} {m : Int} (R : Hel K fnm clm S H G) (hz : ns.length ≤ sizeLine) (hm : 0 ≤ m) (hm2 : m < 2147483647) (hpq : p ≠ q)
    (st : Step noS H emp S' H' (rawG p q (ns.map .int) 0 0 m)) (R' : Hel K fnm clm S' H' (rawG p q (ns.map .int) 0 0 m)) : Step S H G (addS S p) H' G ∧ Hel K fnm clm (addS S p) H' G := by
  have Hp : H p = none := by
    rcases st.own p (.inl (by rw [show rawG p q (ns.map .int) 0 0 m p = _ from updD_same]; simp)) with h | h | h
    · exact absurd rfl h
    · cases h
    · exact h
  have Hq : H q = none := by
    rcases st.own q (.inl (by rw [show rawG p q (ns.map .int) 0 0 m q = _ from (updD_ne hpq.symm).trans updD_same]; simp)) with h | h | h
    · exact absurd rfl h
    · cases h
    · exact h
  have fp := R.free Hp
  have fq := R.free Hq
  have stay : ∀ b o, H b = some o → H' b = some o := fun b o e => st.stay b o e rfl (by simp [noS])
  have S0 : Step S H G (addS S p) H' G := by
    refine ⟨fun b o e g s => stay b o e, fun b v h => ?_, fun b h => ?_, fun b h => ?_, st.there⟩
    · unfold addS; rw [if_neg (fun z => by rw [z, fp.2] at h; cases h)]; exact h
    · rcases h with h | h
      · exact .inl h
      · unfold addS at h
        split at h
        · rename_i z; exact .inr (.inr (by rw [z]; exact Hp))
        · exact .inr (.inl h)
    · unfold addS at h
      split at h
      · cases h
      · exact .inl h
  have same : ∀ b, H b ≠ none → H' b = H b := fun b h => by
    cases hh : H b with
    | none => exact absurd hh h
    | some o => exact stay b o hh
  refine ⟨S0, fun b c e => (R.cell b c e).step R S0 (same b (R.there (.inl (by rw [e]; simp)))), fun b e => ?_, fun b e => ?_⟩
  · by_cases h1 : b = p
    · subst h1
      refine ⟨fp.1, ?_⟩
      obtain ⟨vs, e1, e2, e3⟩ := R'.cell b _ updD_same
      obtain ⟨ws, j1, j2, j3⟩ := R'.cell q (.lst (ns.map .int)) ((updD_ne hpq.symm).trans updD_same)
      cases e3 with
      | cons r1 t =>
        cases t with
        | cons r2 t =>
          cases t with
          | cons r3 t =>
            cases t with
            | cons r4 t =>
              cases t
              cases r1; cases r2; cases r3; cases r4
              rw [ints_back j3] at j1
              refine ⟨q, ns, 0, 0, m, e1, j1, fq.1, by unfold addS; rw [if_neg hpq.symm]; exact fq.2, by decide, by decide, by omega, hm, hm2, hz⟩
    · have e' : S b = some true := by unfold addS at e; rw [if_neg h1] at e; exact e
      exact ⟨(R.rnd b e').1, (R.rnd b e').2.step R S0 (same b (R.there (.inr (by rw [e']; simp))))⟩
  · have h1 : b ≠ p := fun z => by unfold addS at e; rw [if_pos z] at e; cases e
    have e' : S b = some false := by unfold addS at e; rw [if_neg h1] at e; exact e
    obtain ⟨g, r⟩ := R.res b e'
    exact ⟨g, fun z => r (st.there b z)⟩
theorem draw_imp {vs : List V} {Q : VK} {E : XK} (h : lift K fnm clm 2 spDraw vs H Q E) : lift K fnm clm 2 spDraw0 vs H Q E := by
  obtain ⟨hl, S, G, ds, QD, XD, R, r, ⟨n, rfl, hn, h⟩, hQ, hX⟩ := h
  cases r with
  | cons r1 t =>
    cases t with
    | cons r2 t =>
      cases t
      cases r1; cases r2
      rename_i a ha
      obtain ⟨g, q, ns, x, k, m, e1, e2, gq, sq, hx, hk, hk2, hm, hm2, hz⟩ := R.rnd a ha
      have hqa : q ≠ a := fun z => by rw [z, ha] at sq; cases sq
      refine ⟨hl, noS, rawG a q (ns.map .int) x k m, [.ref a, .int n], fun d G' => ∃ (r x' k' m' : Int), d = .int r ∧ G' = rawG a q (ns.map .int) x' k' m' ∧ 0 ≤ r ∧ r < n ∧ 0 ≤ x' ∧ 0 ≤ k' ∧ k' ≤ (ns.map D.int).length ∧ 0 ≤ m' ∧ m' < 2147483647, fun _ _ => False,
        ⟨fun b c e => ?_, fun b e => (by cases e), fun b e => (by cases e)⟩, .cons (.ref a) (.cons (.int n) .nil), ⟨a, q, ns, x, k, m, n, rfl, hqa, rfl, hn, hx, ⟨hk, by simpa using hk2⟩, ⟨hm, hm2⟩, fun r x' k' m' h1 h2 h3 h4 h5 h6 h7 => ⟨r, x', k', m', rfl, rfl, h1, h2, h3, h4, h5, h6, h7⟩⟩, ?_, fun x c S' H' G' _ _ _ z => z.elim⟩
      · by_cases h1 : b = a
        · subst h1
          rw [show rawG b q (ns.map .int) x k m b = _ from updD_same] at e
          cases e
          exact ⟨_, e1, by rw [lim_eq]; show 4 ≤ lim; decide, .cons (.ref q) (.cons (.int _) (.cons (.int _) (.cons (.int _) .nil)))⟩
        · have e : updD emp q (.lst (ns.map .int)) b = some c := (updD_ne h1).symm.trans e
          by_cases h2 : b = q
          · subst h2
            rw [updD_same] at e
            cases e
            exact ⟨_, e2, by rw [List.length_map]; exact hz, ints_dat⟩
          · rw [updD_ne h2] at e; cases e
      · rintro v S' H' d G' st R' rv ⟨r, x', k', m', rfl, rfl, h1, h2, h3, h4, h5, h6, h7⟩
        cases rv
        obtain ⟨k1, k2⟩ := frame_draw R ha gq sq hz h3 h4 h5 h6 h7 hqa e2 st R'
        exact hQ _ S H' _ G k1 k2 (.int r) (h r h1 h2)
theorem stream_imp {vs : List V} {Q : VK} {E : XK} (h : lift K fnm clm 1 spStream vs H Q E) : lift K fnm clm 1 spStream0 vs H Q E := by
  obtain ⟨hl, S, G, ds, QD, XD, R, r, ⟨ns, rfl, h⟩, hQ, hX⟩ := h
  cases r with
  | cons r1 t =>
    cases t
    obtain ⟨a, vs, rfl, e1, e2, e3⟩ := dat_scr r1
    have ev := ints_back e3
    subst ev
    have hz : ns.length ≤ sizeLine := by rw [List.length_map] at e2; exact e2
    have r1' : Dat K fnm noS H emp (.ref a) (.scr (ns.map .int)) := by
      cases r1 with
      | scr h1 h2 h3 => exact .scr h1 h2 (by cases ints_back h3; exact ints_dat)
    refine ⟨hl, noS, emp, [.scr (ns.map .int)], fun d G' => ∃ p q m, d = .ref p ∧ G' = rawG p q (ns.map .int) 0 0 m ∧ p ≠ q ∧ 0 ≤ m ∧ m < 2147483647, fun _ _ => False,
      ⟨fun b c e => (by cases e), fun b e => (by cases e), fun b e => (by cases e)⟩, .cons r1' .nil, ⟨ns, rfl, rfl, fun p q m h1 h2 h3 => ⟨p, q, m, rfl, rfl, h1, h2, h3⟩⟩, ?_, fun x c S' H' G' _ _ _ z => z.elim⟩
    rintro v S' H' d G' st R' rv ⟨p, q, m, rfl, rfl, h1, h2, h3⟩
    cases rv
    obtain ⟨k1, k2⟩ := frame_stream R hz h2 h3 h1 st R'
    exact hQ _ _ H' _ G k1 k2 (.rnd p (by unfold addS; rw [if_pos rfl])) h
end
section
variable {P : Program} {w : World} {K : PySem.W.Frag} {mg : Str → Option Value} {fnm clm : Nat → Option Addr} {C : Cfg} {Γ : Gam} {k : Nat}
theorem all_draw {i : Nat} {st : Stmt} (h : AllOk P w K mg fnm clm C Γ k) (W : Wd P w K mg clm Γ.gl Γ.sb C.gls C.cls) (hx : C.fns[i]? = some (("_law_draw" : Str), 2)) (hd : DfAt K mg fnm i (d_draw st)) (hm : defC C (d_draw st) = true) :
    AllOk P w K mg fnm clm C (Γ.up i spDraw) (k + 1) := by
  have hm2 : (mSs C.yes (d_draw st).N (defScope st) (d_draw st).b (defBody st) && C8.scC (d_draw st).N (d_draw st).ps (defScope st)) = true := hm
  rw [Bool.and_eq_true] at hm2
  exact all_raw (d := d_draw st) h (Nat.le_succ _) hx hd fun f fd F base hb hg => (fn_good (Γ := Γ) (sp := spDraw0) W F (C8.fnScope_by hm2.2) hm2.1 h.2 h.1 (fun ds G QD XD _ h => draw0_ok ds G QD XD h) hb hg).imp fun vs H Q E h => draw_imp h
theorem all_stream {i : Nat} {st : Stmt} (h : AllOk P w K mg fnm clm C Γ k) (W : Wd P w K mg clm Γ.gl Γ.sb C.gls C.cls) (hx : C.fns[i]? = some (("_law_stream" : Str), 1)) (hd : DfAt K mg fnm i (d_stream st)) (hm : defC C (d_stream st) = true) :
    AllOk P w K mg fnm clm C (Γ.up i spStream) (k + 1) := by
  have hm2 : (mSs C.yes (d_stream st).N (defScope st) (d_stream st).b (defBody st) && C8.scC (d_stream st).N (d_stream st).ps (defScope st)) = true := hm
  rw [Bool.and_eq_true] at hm2
  exact all_raw (d := d_stream st) h (Nat.le_succ _) hx hd fun f fd F base hb hg => (fn_good (Γ := Γ) (sp := spStream0) W F (C8.fnScope_by hm2.2) hm2.1 h.2 h.1 (fun ds G QD XD _ h => stream0_ok ds G QD XD h) hb hg).imp fun vs H Q E h => stream_imp h
end
end DL

namespace DL
open PySem PySem.Spec PyProof.Rows L2
/-! ## 17. The head -/
mutual
/-- is what stands at u this? -/
def datB (K : PySem.W.Frag) : D → Value → Bool
  | .non => fun u => match u with | .none => true | _ => false
  | .bl b => fun u => match u with | .bool c => b == c | _ => false
  | .int i => fun u => match u with | .int j _ => decide (j = i) | _ => false
  | .str s => fun u => match u with | .str x _ => decide (x = mkStr s) && PyData.strOk x && decide (s.length ≤ lim) | _ => false
  | .tup ds => fun u => match u with
    | .ref a => (match K.lookup a with
      | some ⟨.type c, none, .seq its _, _⟩ => decide (c = "tuple") && (decide (its.size ≤ 1000) && datsB K ds its.toList)
      | _ => false)
    | _ => false
  | .scr ds => fun u => match u with
    | .ref a => (match K.lookup a with
      | some ⟨.type c, none, .seq its _, _⟩ => decide (c = "list") && (decide (its.size ≤ 1000) && datsB K ds its.toList)
      | _ => false)
    | _ => false
  | _ => fun _ => false
def datsB (K : PySem.W.Frag) : List D → List Value → Bool
  | [] => fun us => us.isEmpty
  | d :: ds => fun us => match us with
    | u :: us => datB K d u && datsB K ds us
    | [] => false
end
section
variable {K : PySem.W.Frag}
theorem size_lim {n : Nat} (h : n ≤ 1000) : n ≤ sizeLine := by rw [lim_eq]; unfold lim; omega
mutual
theorem datB_ok : ∀ (d : D) (u : Value), datB K d u = true → ∃ v, RelV v u ∧ ∀ fnm S H G, Dat K fnm S H G v d
  | .non, u, h => by
    unfold datB at h
    split at h
    · exact ⟨.non, rfl, fun _ _ _ _ => .non⟩
    · cases h
  | .bl b, u, h => by
    unfold datB at h
    split at h
    · exact ⟨.bl b, by rw [beq_iff_eq] at h; subst h; rfl, fun _ _ _ _ => .bl b⟩
    · cases h
  | .int i, u, h => by
    unfold datB at h
    split at h
    · cases of_decide_eq_true h
      exact ⟨.int i, ⟨_, rfl⟩, fun _ _ _ _ => .int i⟩
    · cases h
  | .str s, u, h => by
    unfold datB at h
    split at h
    · simp only [Bool.and_eq_true, decide_eq_true_eq] at h
      obtain ⟨⟨rfl, h2⟩, h3⟩ := h
      exact ⟨.str (mkStr s), ⟨_, rfl⟩, fun _ _ _ _ => .str s h2 (by rw [lim_eq]; exact h3)⟩
    · cases h
  | .tup ds, u, h => by
    unfold datB at h
    split at h
    · split at h
      · rename_i a _ c its n sl e
        simp only [Bool.and_eq_true, decide_eq_true_eq] at h
        obtain ⟨h1, h2, h3⟩ := h
        subst h1
        obtain ⟨vs, r, q⟩ := datsB_ok ds its.toList h3
        have hl : vs.length ≤ 1000 := by rw [r.length]; simpa using h2
        exact ⟨.ref a, rfl, fun fnm S H G => .tup (.inr ⟨_, its, n, e, rfl, rfl, rfl, size_lim h2, r⟩) (size_lim hl) (q fnm S H G)⟩
      · cases h
    · cases h
  | .scr ds, u, h => by
    unfold datB at h
    split at h
    · split at h
      · rename_i a _ c its n sl e
        simp only [Bool.and_eq_true, decide_eq_true_eq] at h
        obtain ⟨h1, h2, h3⟩ := h
        subst h1
        obtain ⟨vs, r, q⟩ := datsB_ok ds its.toList h3
        have hl : vs.length ≤ 1000 := by rw [r.length]; simpa using h2
        exact ⟨.ref a, rfl, fun fnm S H G => .scr (.inr ⟨_, its, n, e, rfl, rfl, rfl, size_lim h2, r⟩) (size_lim hl) (q fnm S H G)⟩
      · cases h
    · cases h
  | .lst _, u, h => by unfold datB at h; cases h
  | .ref _, u, h => by unfold datB at h; cases h
  | .rnd, u, h => by unfold datB at h; cases h
  | .ty _, u, h => by unfold datB at h; cases h
  | .fn _, u, h => by unfold datB at h; cases h
theorem datsB_ok : ∀ (ds : List D) (us : List Value), datsB K ds us = true → ∃ vs, Vals vs us ∧ ∀ fnm S H G, DatAll K fnm S H G vs ds
  | [], us, h => by
    unfold datsB at h
    cases us with
    | nil => exact ⟨[], .nil, fun _ _ _ _ => .nil⟩
    | cons _ _ => cases h
  | d :: ds, us, h => by
    unfold datsB at h
    split at h
    · rename_i u us
      simp only [Bool.and_eq_true] at h
      obtain ⟨v, r, q⟩ := datB_ok d u h.1
      obtain ⟨vs, rs, qs⟩ := datsB_ok ds us h.2
      exact ⟨v :: vs, .cons r rs, fun fnm S H G => .cons (q fnm S H G) (qs fnm S H G)⟩
    · cases h
end
end
/-- is this an own exception class, plain in all that isinstance asks? -/
def excB (K : PySem.W.Frag) (c : Addr) : Bool :=
  He.eqO (PySem.W.findIn K (.ref c) "__getattribute__") (some (some (.builtin "BaseException.__getattribute__"))) && (He.eqO (PySem.W.findIn K (.ref c) "__getattr__") (some none) &&
  (decide (PySem.W.subIn K (.ref c) (.type "BaseException") = some true) && (PySem.W.hasDictIn K c && (He.eqO (PySem.W.findIn K (.ref c) "__class__") (some (some (.builtin "object.__class__"))) &&
  (He.eqO (PySem.W.specialIn K (.builtin "object.__class__") "__get__") (some (some (.builtin "getset_descriptor.__get__"))) && (decide (PySem.W.takesIn K (.builtin "object.__class__") = some true) && (decide (PySem.W.mroIn K c (.type "object") = some true) &&
  decide (PySem.W.kitOne K (.ref c) (.type "ValueError") = some true))))))))
theorem excB_ok {K : PySem.W.Frag} {c : Addr} (h : excB K c = true) : L2.ExcC K c ∧ PySem.W.kitOne K (.ref c) (.type "ValueError") = some true := by
  unfold excB at h
  simp only [Bool.and_eq_true, decide_eq_true_eq] at h
  obtain ⟨h1, h2, h3, h4, h5, h6, h7, h8, h9⟩ := h
  exact ⟨⟨He.eqO_ok h1, He.eqO_ok h2, h3, h4, He.eqO_ok h5, He.eqO_ok h6, h7, h8⟩, h9⟩
/-- the exception classes, each below which -/
def xcB (cls : List Str) (sb : Nat → Nat → Bool) (K : PySem.W.Frag) : Bool := cls.all (fun x => excB K (He.ga K x)) && (List.range cls.length).all fun i => (List.range cls.length).all fun j =>
  decide (PySem.W.exmOne K (.ref (He.ga K (cls.getD i ""))) (.ref (He.ga K (cls.getD j ""))) = some (sb i j)) && decide (PySem.W.kitOne K (.ref (He.ga K (cls.getD i ""))) (.ref (He.ga K (cls.getD j ""))) = some (sb i j))
/-- a global's data -/
def glB1 (K : PySem.W.Frag) (p : Str × D) : Bool := match PySem.W.nsIn K mainGlobals p.1 with
  | some (some u) => datB K p.2 u
  | _ => false
/-- a module's own dict -/
def glB2 (K : PySem.W.Frag) (p : Str × D) : Bool := match PySem.W.nsIn K mainGlobals p.1 with
  | some (some (.ref a)) => (dPairs p.2).all fun q => match PySem.W.nsIn K a (mkStr q.1) with
    | some (some u) => datB K q.2 u
    | _ => false
  | _ => false
def glsB (gl : List (Str × D)) (K : PySem.W.Frag) : Bool := (gl.take 60).all (glB1 K) && (gl.drop 60).all (glB2 K)
/-- the dicts' keys, as they stand there -/
def dtObs (gl : List (Str × D)) (K : PySem.W.Frag) : List (Option (List (Option (Str × Int)))) := (gl.drop 60).map fun p => He.dicW K (He.ga K p.1)
def dtVal (gl : List (Str × D)) (w : World) : List (Option (List (Option (Str × Int)))) := (gl.drop 60).map fun p => some (He.keysIn w.params ((dPairs p.2).map fun q => mkStr q.1))
def gOk (w : World) (gl : List (Str × D)) (cls : List Str) (sb : Nat → Nat → Bool) (K : PySem.W.Frag) : Prop := (glsB gl K && xcB cls sb K) = true ∧ dtObs gl K = dtVal gl w
abbrev AlX : Type := He.AlD × (Bool × List (Option (List (Option (Str × Int)))))
def obX (n : Nat) (fa : List He.Fa) (fn : List He.DefD) (gl : List (Str × D)) (cls : List Str) (sb : Nat → Nat → Bool) (g : Addr → Option Obj) : AlX := (fun K => (He.obsD fa fn K, (glsB gl K && xcB cls sb K, dtObs gl K))) (He.frG g (He.asD g n))
def hookX (n : Nat) (fa : List He.Fa) (fn : List He.DefD) (gl : List (Str × D)) (cls : List Str) (sb : Nat → Nat → Bool) : PySem.W.Hook where
  α := AlX
  obs := fun s => obX n fa fn gl cls sb s.heap.get?
  val := fun w => (He.valD fn, (true, dtVal gl w))
  says := fun w h => ∃ K : PySem.W.Frag, K.In h ∧ He.SaysD fa fn K ∧ gOk w gl cls sb K
  of := fun _ _ e => ⟨_, He.frG_in, congrArg Prod.fst e, congrArg (fun z : AlX => z.2.1) e, congrArg (fun z : AlX => z.2.2) e⟩
  keeps := fun _ _ _ ⟨K, hK, c⟩ k => ⟨K, PySem.W.Frag.In.keeps hK k, c⟩
theorem obX_eq {n : Nat} {fa : List He.Fa} {fn : List He.DefD} {gl : List (Str × D)} {cls : List Str} {sb : Nat → Nat → Bool} {g : Addr → Option Obj} {s : Shared} (h : ∀ a, g a = s.heap.get? a) : obX n fa fn gl cls sb g = (hookX n fa fn gl cls sb).obs s := by
  have e : g = s.heap.get? := funext h
  rw [e] <;> rfl
/-- a def as the head looks at it -/
def Df.he (d : Df) : He.DefD := ⟨d.at_, d.nm, d.x, defArgs d.st, defBody d.st, defScope d.st, [], []⟩
def Df.fa (d : Df) : He.Fa := match d.m with | none => .glo d.x | some p => .meth p.1 p.2
def Oc.fa (o : Oc) : List He.Fa := .glo o.x :: .cls o.x :: (o.fds.map (He.Fa.noat o.x) ++ (o.mts.map (fun p => He.Fa.meth o.x p.1) ++ (match o.ini with | none => [] | some _ => [.mkr o.x])))
def faOf (dfs : List Df) (cls : List Str) (ocs : List Oc) : List He.Fa := (dfs.map Df.fa) ++ (bltNames.map He.Fa.free ++ (cls.map He.Fa.glo ++ (cls.map He.Fa.exc ++ ocs.flatMap Oc.fa)))
/-- the methods' defs stand where the classes say -/
def ocsB (dfs : List Df) (ocs : List Oc) : Bool := decide (dfs.length < 1000) && (ocs.all fun o => o.mts.all (fun p => decide ((dfs[p.2]?).map Df.m = some (some (o.x, p.1)))) && (match o.ini with | none => true | some i => decide ((dfs[i]?).map Df.m = some (some (o.x, ("__init__" : Str))))))
def BindsH (d : Df) : Prop := ∀ (kV doc pm : Value) (an : Option Addr) (cdv ct : Value) (us : List Value), us.length = d.ps.length →
  bindArgs (PySem.W.fnOf d.nm d.x (defArgs d.st) (defBody d.st) (defScope d.st) .none kV doc pm an cdv ct) ⟨us, []⟩ = pure (d.ps.zip us)
def fnmOf (K : PySem.W.Frag) (dfs : List Df) (ocs : List Oc) (i : Nat) : Option Addr := match dfs[i]? with | some d => some (He.fAd K d.at_) | none => (ocs[i - 1000]?).map fun o => He.ga K o.x
def clmOf (K : PySem.W.Frag) (cls : List Str) (i : Nat) : Option Addr := (cls[i]?).map (He.ga K)
section
variable {P : Program} {w : World} {K : PySem.W.Frag} {h : Heap} {mg : Str → Option Value} {dfs : List Df} {cls : List Str} {ocs : List Oc} {gl : List (Str × D)} {sb : Nat → Nat → Bool} {n : Nat}
theorem fact_in (c : He.SaysD (faOf dfs cls ocs) (dfs.map Df.he) K) {f : He.Fa} (hf : f ∈ faOf dfs cls ocs) : f.ok K = true := by
  obtain ⟨i, hi, e⟩ := List.mem_iff_getElem.mp hf
  exact c.fact i (f := f) (by rw [List.getElem?_eq_getElem hi, e])
theorem glv_of (p : Nat → D) (i : Nat) {x : Str} {gl : List (Str × D)} (e : (gl.map (·.1))[i]? = some x) : ∃ d, gl[i]? = some (x, d) := by
  rw [List.getElem?_map] at e
  obtain ⟨q, h1, h2⟩ := Option.map_eq_some_iff.mp e
  exact ⟨q.2, by rw [h1, ← h2]⟩
def glD (gl : List (Str × D)) (i : Nat) : D := match gl[i]? with | some p => p.2 | none => .non
theorem wd_of (X : K.In h) (G : h.Ns mainGlobals mg) (c : He.SaysD (faOf dfs cls ocs) (dfs.map Df.he) K) (gz : gOk w gl cls sb K) : Wd P w K mg (clmOf K cls) (glD gl) sb (gl.map (·.1)) cls := by
  obtain ⟨gx, gd⟩ := gz
  rw [Bool.and_eq_true] at gx
  obtain ⟨g, gc⟩ := gx
  unfold glsB at g
  rw [Bool.and_eq_true] at g
  obtain ⟨g1, g2⟩ := g
  unfold xcB at gc
  rw [Bool.and_eq_true] at gc
  have at_ : ∀ {i : Nat} {c : Addr}, clmOf K cls i = some c → i < cls.length ∧ cls.getD i "" ∈ cls ∧ c = He.ga K (cls.getD i "") := fun {i c} e => by
    unfold clmOf at e
    obtain ⟨x, h1, h2⟩ := Option.map_eq_some_iff.mp e
    have hd : cls.getD i "" = x := by rw [List.getD_eq_getElem?_getD, h1]; rfl
    rw [hd]
    exact ⟨(List.getElem?_eq_some_iff.mp h1).1, List.mem_of_getElem? h1, h2.symm⟩
  have pair : ∀ {i j : Nat} {c d : Addr}, clmOf K cls i = some c → clmOf K cls j = some d → PySem.W.exmOne K (.ref c) (.ref d) = some (sb i j) ∧ PySem.W.kitOne K (.ref c) (.ref d) = some (sb i j) := fun {i j c d} e1 e2 => by
    obtain ⟨l1, _, rfl⟩ := at_ e1
    obtain ⟨l2, _, rfl⟩ := at_ e2
    have q := List.all_eq_true.mp (List.all_eq_true.mp gc.2 i (List.mem_range.mpr l1)) j (List.mem_range.mpr l2)
    simp only [Bool.and_eq_true, decide_eq_true_eq] at q
    exact q
  refine ⟨fun i j c d e1 e2 => (pair e1 e2).1, fun i c e => ?_, fun x hx => He.free_ok X G (fact_in c (List.mem_append_right _ (List.mem_append_left _ (List.mem_map_of_mem hx)))), fun i x l e => ?_, fun i x l e => ?_, fun i x e => ?_⟩
  · obtain ⟨_, m, rfl⟩ := at_ e
    obtain ⟨q1, q2⟩ := excB_ok (List.all_eq_true.mp gc.1 _ m)
    exact ⟨q1, q2, fun j d e2 => (pair e e2).2⟩
  · obtain ⟨dd, e2⟩ := glv_of (glD gl) i e
    have e4 : (gl.drop 60)[i - 60]? = some (x, dd) := by rw [List.getElem?_drop, show 60 + (i - 60) = i by omega, e2]
    have q := List.all_eq_true.mp g2 _ (List.mem_of_getElem? e4)
    unfold glB2 at q
    cases e3 : PySem.W.nsIn K mainGlobals x with
    | none => simp [e3] at q
    | some o =>
      cases o with
      | none => simp [e3] at q
      | some u =>
        cases u <;> first | (simp [e3] at q; done) | skip
        rename_i a
        have ea : He.ga K x = a := by unfold He.ga; rw [e3]
        have q5 : (dtObs gl K)[i - 60]? = (dtVal gl w)[i - 60]? := by rw [gd]
        unfold dtObs dtVal at q5
        rw [List.getElem?_map, List.getElem?_map, e4] at q5
        obtain ⟨es, n, kd⟩ := He.dicW_ok (w := w) (Option.some.inj q5)
        rw [ea] at kd
        refine ⟨a, PySem.W.mg_of X G e3, fun s y hy => ?_⟩
        unfold glD at hy
        rw [e2] at hy
        obtain ⟨p, hp, hz⟩ := Option.map_eq_some_iff.mp hy
        have hp1 := List.find?_some hp
        have hp2 := List.mem_of_find?_eq_some hp
        have hp1 : p.1 = s := of_decide_eq_true hp1
        simp only [e3] at q
        have q6 := List.all_eq_true.mp q p hp2
        cases e7 : PySem.W.nsIn K a (mkStr p.1) with
        | none => simp [e7] at q6
        | some o =>
          cases o with
          | none => simp [e7] at q6
          | some u =>
            simp only [e7] at q6
            obtain ⟨v, r, hd⟩ := datB_ok p.2 u q6
            rw [hp1] at e7; rw [← hz]
            exact ⟨v, ⟨es, n, u, kd.at_, kd.lit, e7, r⟩, hd⟩
  · obtain ⟨d, e2⟩ := glv_of (glD gl) i e
    have q := List.all_eq_true.mp g1 _ (List.mem_of_getElem? (show (gl.take 60)[i]? = some (x, d) by rw [List.getElem?_take, if_pos l, e2]))
    unfold glB1 at q
    cases e3 : PySem.W.nsIn K mainGlobals x with
    | none => simp [e3] at q
    | some o =>
      cases o with
      | none => simp [e3] at q
      | some u =>
        simp only [e3] at q
        obtain ⟨v, r, hd⟩ := datB_ok d u q
        refine ⟨u, v, PySem.W.mg_of X G e3, r, fun fnm S H G => ?_⟩
        unfold glD
        rw [e2]
        exact hd fnm S H G
  · have m : x ∈ cls := List.mem_of_getElem? e
    obtain ⟨h1, h2, h3, h4⟩ := He.exc_ok (fact_in c (List.mem_append_right _ (List.mem_append_right _ (List.mem_append_right _ (List.mem_append_left _ (List.mem_map_of_mem m))))))
    refine ⟨He.ga K x, by unfold clmOf; rw [e]; rfl, He.glo_ok X G (fact_in c (List.mem_append_right _ (List.mem_append_right _ (List.mem_append_left _ (List.mem_map_of_mem m))))), h1, h2, h3, h4⟩
theorem df_at (X : K.In h) (G : h.Ns mainGlobals mg) (c : He.SaysD (faOf dfs cls ocs) (dfs.map Df.he) K) (ob : ocsB dfs ocs = true) (b : ∀ d ∈ dfs, BindsH d) {i : Nat} {d : Df} (e : dfs[i]? = some d) : DfAt K mg (fnmOf K dfs ocs) i d := by
  have m : d ∈ dfs := List.mem_of_getElem? e
  obtain ⟨fd, F⟩ := c.def_ i (d := d.he) (by rw [List.getElem?_map, e]; rfl)
  have F : FunD K d.nm d.x (defArgs d.st) (defBody d.st) (defScope d.st) [] [] (He.fAd K d.at_) fd := F
  refine ⟨_, fd, by unfold fnmOf; rw [e], fun nd => ?_, F.bindsN (b d m), F⟩
  have hf := fact_in c (List.mem_append_left _ (List.mem_map_of_mem (f := Df.fa) m))
  have q : d.m = none := by unfold Df.m; rw [nd]
  have e1 : d.fa = .glo d.x := by unfold Df.fa; rw [q]
  have e2 : d.at_ = (d.x, none) := by unfold Df.at_; rw [q]
  rw [e1] at hf
  rw [e2]
  exact He.glo_ok X G hf
theorem oc_at (X : K.In h) (G : h.Ns mainGlobals mg) (c : He.SaysD (faOf dfs cls ocs) (dfs.map Df.he) K) (ob : ocsB dfs ocs = true) {j : Nat} {o : Oc} (e : ocs[j]? = some o) : OcAt K mg (fnmOf K dfs ocs) j o := by
  have m : o ∈ ocs := List.mem_of_getElem? e
  have fs : ∀ f ∈ o.fa, f.ok K = true := fun f hf => fact_in c (List.mem_append_right _ (List.mem_append_right _ (List.mem_append_right _ (List.mem_append_right _ (List.mem_flatMap.mpr ⟨o, m, hf⟩)))))
  unfold ocsB at ob
  simp only [Bool.and_eq_true, decide_eq_true_eq] at ob
  obtain ⟨o1, o3⟩ := ob
  have o4 := List.all_eq_true.mp o3 o m
  simp only [Bool.and_eq_true] at o4
  have meth : ∀ (i : Nat) (s : Str), (dfs[i]?).map Df.m = some (some (o.x, s)) → fnmOf K dfs ocs i = some (He.ma K (He.ga K o.x) s) := fun i s q => by
    obtain ⟨d, q1, q2⟩ := Option.map_eq_some_iff.mp q
    unfold fnmOf
    rw [q1]
    show some (He.fAd K d.at_) = _
    have : d.at_ = (o.x, some s) := by unfold Df.at_; rw [q2]
    rw [this]
    rfl
  refine ⟨He.ga K o.x, ?_, He.glo_ok X G (fs _ List.mem_cons_self), He.cls_ok (fs _ (List.mem_cons_of_mem _ List.mem_cons_self)), fun f hf => He.noat_ok (fs _ (List.mem_cons_of_mem _ (List.mem_cons_of_mem _ (List.mem_append_left _ (List.mem_map_of_mem hf))))), fun p hp => ?_, fun i hi => ?_⟩
  · unfold fnmOf
    rw [List.getElem?_eq_none (by omega)]
    show (ocs[1000 + j - 1000]?).map _ = _
    rw [Nat.add_sub_cancel_left, e]
    rfl
  · exact ⟨_, meth p.2 p.1 (of_decide_eq_true (List.all_eq_true.mp o4.1 p hp)), He.meth_ok (fs _ (List.mem_cons_of_mem _ (List.mem_cons_of_mem _ (List.mem_append_right _ (List.mem_append_left _ (List.mem_map_of_mem (f := fun p => He.Fa.meth o.x p.1) hp))))))⟩
  · have o5 := o4.2
    rw [hi] at o5
    refine ⟨_, meth i "__init__" (of_decide_eq_true o5), He.mkr_ok (fs _ (List.mem_cons_of_mem _ (List.mem_cons_of_mem _ (List.mem_append_right _ (List.mem_append_right _ ?_)))))⟩
    rw [hi]
    exact List.mem_cons_self
theorem bot_of (X : K.In h) (G : h.Ns mainGlobals mg) (c : He.SaysD (faOf dfs cls ocs) (dfs.map Df.he) K) (b : ∀ d ∈ dfs, BindsH d) (ob : ocsB dfs ocs = true) {C : Cfg} (hC : C.fns = dfs.map fun d => (d.x, d.ps.length)) (hO : C.ocs = ocs) {g : Nat → D} :
    AllOk P w K mg (fnmOf K dfs ocs) (clmOf K cls) C { sp := fun _ => bot, gl := g, sb := sb } 0 := by
  refine all_bot (fun i x e => ?_) fun j o e => oc_at X G c ob (by rw [← hO]; exact e)
  rw [hC, List.getElem?_map] at e
  obtain ⟨d, e1, e2⟩ := Option.map_eq_some_iff.mp e
  exact ⟨d, e2.symm, df_at X G c ob b e1⟩
end
/-! ### the end -/
def spLaw : SpD := fun ds G Q _ => ∃ ns : List Int, ds = [.scr (ns.map .int)] ∧ G = emp ∧ ∀ G', Q (.bl true) G'
theorem noX {P : Program} {w : World} {K : PySem.W.Frag} {mg : Str → Option Value} {base : Heap} {k : Nat} {f : Addr} {fd : FuncData} {ps : List Str} {sp : Sp} (F : FnOkG P w K mg base (L2.CX P w) k f fd ps sp) :
    FnOkG P w K mg base CX0 k f fd ps (fun vs H Q _ => sp vs H Q fun _ _ _ => False) :=
  ⟨fun vs H Q E h => F.len _ _ _ _ h, fun A outer s H args us vs Q E hr hg he hb hv hs => codeAny_mono (F.run A outer s H args us vs Q (fun _ _ _ => False) hr hg he hb hv hs) fun r s' c => by
    cases r with
    | ok x => cases x <;> first | exact c | exact c.elim
    | error e => obtain ⟨_, _, _, _, _, _, _, _, _, _, _, _, z⟩ := c; exact z⟩
theorem law_sp {K : PySem.W.Frag} {fnm clm : Nat → Option Addr} (H : Hp) (a : Addr) (ns : List Int) (hl : ns.length ≤ 63) (hO : Only H) (hS : SqL K H a (ns.map V.int)) : lift K fnm clm 1 spLaw [.ref a] H (fun v _ => v = .bl true) fun _ _ _ => False := by
  have hz : (ns.map V.int).length ≤ sizeLine := by rw [List.length_map, lim_eq]; unfold lim; omega
  have r : Dat K fnm noS H emp (.ref a) (.scr (ns.map .int)) := by
    rcases hS with (h | ⟨o, h⟩) | h
    · rcases hO a with q | ⟨o, xs, q⟩ <;> (rw [q] at h; cases h)
    · exact .scr (.inl ⟨o, h⟩) hz ints_dat
    · exact .scr (.inr h) hz ints_dat
  refine ⟨rfl, noS, emp, [.scr (ns.map .int)], fun d _ => d = .bl true, fun _ _ => False, ⟨fun b c e => (by cases e), fun b e => (by cases e), fun b e => (by cases e)⟩, .cons r .nil, ⟨ns, rfl, rfl, fun _ => rfl⟩, ?_, fun _ _ _ _ _ _ _ _ z => z.elim⟩
  rintro v S' H' d G' st R' rv rfl
  cases rv
  rfl
end DL

namespace DL
open PySem PySem.Spec PyProof.Rows L2
/-! ## 18. Helps for laws -/
theorem get_in {rows : List D} {r : Int} (h0 : 0 ≤ r) (h1 : r < rows.length) : ∃ d ∈ rows, atI rows r = some d := by
  have hl : r.toNat < rows.length := by omega
  exact ⟨rows[r.toNat], List.getElem_mem hl, by rw [at_pos h0, List.getElem?_eq_getElem hl]⟩
theorem get_inS {s : List Nat} {r : Int} (h0 : 0 ≤ r) (h1 : r < s.length) : ∃ c ∈ s, atI s r = some c := by
  have hl : r.toNat < s.length := by omega
  exact ⟨s[r.toNat], List.getElem_mem hl, by rw [at_pos h0, List.getElem?_eq_getElem hl]⟩
theorem all_true : ∀ {ds : List D}, (∀ d ∈ ds, d = .bl true) → ∃ bs, blsOf ds = some bs ∧ bs.all id = true
  | [], _ => ⟨[], rfl, rfl⟩
  | d :: ds, h => by
    obtain ⟨bs, h1, h2⟩ := all_true (ds := ds) fun x hx => h x (List.mem_cons_of_mem _ hx)
    have := h d List.mem_cons_self
    subst this
    exact ⟨true :: bs, by show (blsOf ds).map (true :: ·) = _; rw [h1]; rfl, by simpa using h2⟩
theorem cut_pre {α : Type} {xs : List α} {i : Int} (h : 0 ≤ i ∧ i ≤ xs.length) : cutL xs none (some i) = xs.take i.toNat := by
  obtain ⟨k, rfl⟩ := Int.eq_ofNat_of_zero_le h.1
  unfold cutL
  rw [HT.sIx_none, HT.sIx_nat, List.drop_zero, Nat.sub_zero, Nat.min_eq_left (by omega)]
  rfl
theorem cut_suf {α : Type} {xs : List α} {i : Int} (h : 0 ≤ i ∧ i ≤ xs.length) : cutL xs (some i) none = xs.drop i.toNat := by
  obtain ⟨k, rfl⟩ := Int.eq_ofNat_of_zero_le h.1
  unfold cutL
  rw [HT.sIx_none, HT.sIx_nat, Nat.min_eq_left (by omega)]
  show (xs.drop k).take _ = xs.drop k
  rw [List.take_of_length_le (by rw [List.length_drop]; omega)]
/-! ### pick -/
def spPick : SpD := fun ds G Q _ => ∃ rows, ds = [.rnd, .lst rows] ∧ (0 < rows.length ∧ rows.length < 1000) ∧ ∀ d ∈ rows, Q d G
def b_pick (dr : Nat) : Ss := (.c (.ret (.idx (.var 1) (.call dr (.c (.var 0) (.c (.bf true .len (.c (.var 1) .n)) .n))))) .n)
theorem pick_ok {Γ : Gam} {dr : Nat} (h2 : Γ.sp dr = spDraw) (ds : List D) (G : HD) (QD : KD) (XD : KX) (h : spPick ds G QD XD) : wSs Γ (b_pick dr) { nx := fun _ H => QD .non H, rt := QD, ex := fun x _ H => XD x H } (startD 2 ds) G := by
  obtain ⟨rows, rfl, hl, h⟩ := h
  simp_arith [b_pick, h2]
  refine ⟨_, rfl, ⟨by omega, by omega⟩, fun r h0 h1 => ?_⟩
  obtain ⟨d, hd, e⟩ := get_in h0 h1
  simp_arith [e]
  exact h d hd
/-! ### same -/
def Pl : Nat → D → Prop
  | 0, _ => False
  | n + 1, d => match d with
    | .non | .bl _ | .int _ | .str _ => True
    | .tup ds => ds.length ≤ lim ∧ ∀ x ∈ ds, Pl n x
    | .lst ds => ds.length ≤ lim ∧ ∀ x ∈ ds, Pl n x
    | _ => False
theorem Pl.mono : ∀ {n m : Nat} {d : D}, n ≤ m → Pl n d → Pl m d
  | 0, _, _, _, h => h.elim
  | n + 1, 0, _, hm, _ => by omega
  | n + 1, m + 1, d, hm, h => by
    cases d <;> first | trivial | exact h.elim | exact ⟨h.1, fun x hx => Pl.mono (by omega) (h.2 x hx)⟩
def b_same (sm : Nat) : Ss :=
 (.c (.ite (.of (.isi (.var 1) [.list])) (.c (.ite (.bo false (.c (.nt (.of (.isi (.var 0) [.list]))) (.c (.cmp .ne (.bf true .len (.c (.var 0) .n)) (.bf true .len (.c (.var 1) .n))) .n))) (.c (.ret (.con (.bl false)))
 .n) .n)
 (.c (.ret (.bf true .all (.c (.lc true (.call sm (.c (.idx (.var 0) (.var 2)) (.c (.idx (.var 1) (.var 2)) .n))) (.n 2) (.rng (.c (.bf true .len (.c (.var 1) .n)) .n)) .yes [("k", 2)]) .n)))
 .n)) .n)
 (.c (.ite (.of (.isi (.var 1) [.tuple])) (.c (.ite (.bo false (.c (.nt (.of (.isi (.var 0) [.tuple]))) (.c (.cmp .ne (.bf true .len (.c (.var 0) .n)) (.bf true .len (.c (.var 1) .n))) .n))) (.c (.ret (.con (.bl false)))
 .n) .n)
 (.c (.ret (.bf true .all (.c (.lc true (.call sm (.c (.idx (.var 0) (.var 2)) (.c (.idx (.var 1) (.var 2)) .n))) (.n 2) (.rng (.c (.bf true .len (.c (.var 1) .n)) .n)) .yes [("k", 2)]) .n)))
 .n)) .n)
 (.c (.ite (.cmp .isn (.var 1) (.con .non)) (.c (.ret (.cmp .isn (.var 0) (.con .non)))
 .n) .n)
 (.c (.ite (.of (.isi (.var 1) [.bool])) (.c (.ret (.boo true (.c (.isi (.var 0) [.bool]) (.c (.cmp .eq (.var 0) (.var 1)) .n))))
 .n) .n)
 (.c (.ite (.of (.isi (.var 1) [.str])) (.c (.ret (.boo true (.c (.isi (.var 0) [.str]) (.c (.cmp .eq (.var 0) (.var 1)) .n))))
 .n) .n)
 (.c (.ret (.boo true (.c (.isi (.var 0) [.int]) (.c (.nt (.isi (.var 0) [.bool])) (.c (.cmp .eq (.var 0) (.var 1)) .n)))))
 .n))))))
/-! ### name -/
def abc : List Nat := [97, 98, 99, 100, 101, 102, 103, 104, 105, 106, 107, 108, 109, 110, 111, 112, 113, 114, 115, 116, 117, 118, 119, 120, 121, 122]
def Low (s : List Nat) : Prop := (s ≠ [] ∧ s.length ≤ 12) ∧ ∀ c ∈ s, c ∈ abc
def b_name2 (dr : Nat) : Ss :=
 (.c (.set 5 (.call dr (.c (.var 0) (.c (.bf true .len (.c (.var 4) .n)) .n))))
 (.c (.for_ (.n 6) (.rng (.c (.con (.int 26)) .n)) (.c (.ite (.cmp .nin (.var 4) (.var 1)) (.c (.ret (.var 4))
 .n) .n)
 (.c (.set 4 (.bin true .add (.bin true .add (.sl true (.var 4) .no (.var 5)) (.idx (.var 2) (.bin true .mod (.bin true .add (.mt .sindex (.var 2) (.c (.idx (.var 4) (.var 5)) .n)) (.con (.int 1))) (.con (.int 26))))) (.sl true (.var 4) (.bin true .add (.var 5) (.con (.int 1))) .no)))
 .n)))
 (.c (.ret (.var 4))
 .n)))
def b_name (dr : Nat) : Ss :=
 (.c (.set 2 (.con (.str abc)))
 (.c (.set 3 (.idx (.lst true (.c (.con (.int 1)) (.c (.con (.int 1)) (.c (.con (.int 2)) (.c (.con (.int 3)) (.c (.con (.int 5)) (.c (.con (.int 11)) (.c (.con (.int 12)) .n)))))))) (.call dr (.c (.var 0) (.c (.con (.int 7)) .n)))))
 (.c (.set 4 (.mt .join (.con (.str [])) (.c (.lc true (.idx (.var 2) (.call dr (.c (.var 0) (.c (.con (.int 26)) .n)))) (.n 6) (.rng (.c (.var 3) .n)) .yes [("k", 6)]) .n)))
 (.c (.ite (.bo true (.c (.of (.var 1)) (.c (.cmp .eq (.call dr (.c (.var 0) (.c (.con (.int 2)) .n))) (.con (.int 0))) .n))) (.c (.set 4 (.idx (.var 1) (.call dr (.c (.var 0) (.c (.bf true .len (.c (.var 1) .n)) .n)))))
 .n) .n)
 (b_name2 dr)))))
/-- u is a list, whether live or not -/
def SeqIs (u : D) (us : List D) (G : HD) : Prop := u = .lst us ∨ ∃ a, u = .ref a ∧ G a = some (.lst us)
theorem SeqIs.tr {u : D} {us : List D} {G : HD} (h : SeqIs u us G) : truth u G = some (us.length != 0) := by
  rcases h with rfl | ⟨a, rfl, h⟩
  · rfl
  · rw [q_tr_r, h]
theorem SeqIs.len {u : D} {us : List D} {G : HD} (h : SeqIs u us G) : lenD u G = some us.length := by
  rcases h with rfl | ⟨a, rfl, h⟩
  · rfl
  · rw [q_len_r, h]
theorem SeqIs.idx {u : D} {us : List D} {G : HD} (h : SeqIs u us G) (i : Int) : idxD u (.int i) G = atI us i := by
  rcases h with rfl | ⟨a, rfl, h⟩
  · rfl
  · rw [q_idx_r, h]
theorem SeqIs.itm {u : D} {us : List D} {G : HD} (h : SeqIs u us G) : itms u G = some us := by
  rcases h with rfl | ⟨a, rfl, h⟩
  · rfl
  · rw [q_itm_r, h]
def spName : SpD := fun ds G Q _ => ∃ n us, ds = [.rnd, n] ∧ SeqIs n us G ∧ us.length < 26 ∧ (∀ u ∈ us, ∃ s, u = .str s ∧ Low s) ∧ ∀ s, Low s → D.str s ∉ us → Q (.str s) G
theorem pigeon : ∀ {l us : List (List Nat)}, l.Nodup → (∀ x ∈ l, x ∈ us) → l.length ≤ us.length
  | [], _, _, _ => Nat.zero_le _
  | x :: l, us, nd, h => by
    obtain ⟨h1, h2⟩ := List.nodup_cons.mp nd
    have hx := h x List.mem_cons_self
    have := pigeon (l := l) (us := us.erase x) h2 fun y hy => by
      have hne : y ≠ x := fun e => h1 (by rw [← e]; exact hy)
      exact (List.mem_erase_of_ne hne).mpr (h y (List.mem_cons_of_mem _ hy))
    rw [List.length_erase_of_mem hx] at this
    have := List.length_pos_of_mem hx
    rw [List.length_cons]; omega
theorem in_strs {us : List D} {G : HD} {n : D} {s : List Nat} (ha : SeqIs n us G) (h : ∀ u ∈ us, ∃ s, u = .str s) : ∃ b, inD (.str s) n G = some b ∧ (b = true ↔ D.str s ∈ us) := by
  refine ⟨us.any fun z => eqF z (.str s), ?_, ?_⟩
  · have : us.all flatD = true := List.all_eq_true.mpr fun u hu => by obtain ⟨t, rfl⟩ := h u hu; rfl
    have e : inD (.str s) n G = (match itms n G with | some ds => if (flatD (.str s) && ds.all flatD) = true then some (ds.any fun z => eqF z (.str s)) else none | none => none) := by
      rcases ha with rfl | ⟨a, rfl, _⟩ <;> rfl
    rw [e, ha.itm]
    show (if (flatD (.str s) && us.all flatD) = true then _ else _) = _
    rw [this]
    rfl
  · rw [List.any_eq_true]
    constructor
    · rintro ⟨z, hz, e⟩
      obtain ⟨t, rfl⟩ := h z hz
      have : t = s := by simpa [eqF] using e
      rw [← this]; exact hz
    · exact fun hm => ⟨_, hm, by simp [eqF]⟩
def ltr (m : Nat) : Nat := abc.getD (m % 26) 0
theorem abc_at : ∀ c ∈ abc, ∃ k : Nat, k < 26 ∧ Txt.index0 (mkStr abc) (mkStr [c]) = some k ∧ c = ltr k := by
  have : ∀ c ∈ abc, (match Txt.index0 (mkStr abc) (mkStr [c]) with | some k => decide (k < 26) && decide (c = ltr k) | none => false) = true := by decide +kernel
  intro c hc
  have := this c hc
  split at this
  · rename_i k e
    simp only [Bool.and_eq_true, decide_eq_true_eq] at this
    exact ⟨k, this.1, e, this.2⟩
  · cases this
def cand (p q : List Nat) (j k : Nat) : List Nat := p ++ [ltr (j + k)] ++ q
theorem ltr_mem (m : Nat) : ltr m ∈ abc := by
  have : ∀ i, i < 26 → abc.getD i 0 ∈ abc := by decide
  exact this _ (Nat.mod_lt _ (by decide))
theorem ltr_inj {j a b : Nat} (ha : a < 26) (hb : b < 26) (h : ltr (j + a) = ltr (j + b)) : a = b := by
  have : ∀ x, x < 26 → ∀ y, y < 26 → abc.getD x 0 = abc.getD y 0 → x = y := by decide
  have := this _ (Nat.mod_lt (j + a) (by decide)) _ (Nat.mod_lt (j + b) (by decide)) h
  omega
theorem cand_inj {p q : List Nat} {j a b : Nat} (ha : a < 26) (hb : b < 26) (h : cand p q j a = cand p q j b) : a = b := by
  unfold cand at h
  have := List.append_cancel_right h
  have := List.append_cancel_left this
  exact ltr_inj ha hb (by simpa using this)
theorem strs_all : ∀ {us : List D}, (∀ u ∈ us, ∃ s, u = .str s) → ∃ ss : List (List Nat), us = ss.map D.str
  | [], _ => ⟨[], rfl⟩
  | u :: us, h => by
    obtain ⟨ss, e⟩ := strs_all (us := us) fun x hx => h x (List.mem_cons_of_mem _ hx)
    obtain ⟨s, rfl⟩ := h u List.mem_cons_self
    exact ⟨s :: ss, by rw [e]; rfl⟩
theorem cand_out {us : List D} {p q : List Nat} {j : Nat} (hu : ∀ u ∈ us, ∃ s, u = .str s) (hl : us.length < 26) : ¬ ∀ i, i < 26 → D.str (cand p q j i) ∈ us := by
  intro h
  obtain ⟨ss, rfl⟩ := strs_all hu
  have nd : ((List.range 26).map (cand p q j)).Nodup := by
    show List.Pairwise (· ≠ ·) _
    rw [List.pairwise_map]
    exact List.Pairwise.imp_of_mem (fun ha hb hne e => hne (cand_inj (List.mem_range.mp ha) (List.mem_range.mp hb) e)) (List.nodup_range (n := 26))
  have := pigeon (us := ss) nd fun x hx => by
    obtain ⟨i, hi, rfl⟩ := List.mem_map.mp hx
    obtain ⟨t, ht, e⟩ := List.mem_map.mp (h i (List.mem_range.mp hi))
    cases e
    exact ht
  rw [List.length_map] at hl this
  rw [List.length_range] at this
  omega
theorem name2_ok {Γ : Gam} {dr : Nat} (h2 : Γ.sp dr = spDraw) {E : EndsD} {n : D} {us : List D} {G : HD} {s : List Nat} {m o1 o2 : Option D} (ha : SeqIs n us G) (hu : ∀ u ∈ us, ∃ s, u = .str s) (hl : us.length < 26) (hs : Low s) (h : ∀ s, Low s → D.str s ∉ us → E.rt (.str s) G) :
    wSs Γ (b_name2 dr) E [some .rnd, some n, some (.str abc), m, some (.str s), o1, o2] G := by
  have hp : 0 < s.length := List.length_pos_iff.mpr hs.1.1
  have h12 := hs.1.2
  simp_arith [b_name2, h2]
  refine ⟨_, rfl, ⟨by omega, by omega⟩, fun r h0 h1 => ?_⟩
  obtain ⟨c0, hc0, e0⟩ := get_inS h0 h1
  obtain ⟨j, hj, _, ej⟩ := abc_at c0 (hs.2 c0 hc0)
  have hr : r.toNat < s.length := by omega
  have s0 : s = cand (s.take r.toNat) (s.drop (r.toNat + 1)) j 0 := by
    unfold cand
    rw [Nat.add_zero, ← ej]
    rw [at_pos h0] at e0
    have := (List.getElem?_eq_some_iff.mp e0)
    obtain ⟨hlt, hget⟩ := this
    rw [← hget, List.append_assoc, List.singleton_append, ← List.drop_eq_getElem_cons hlt, List.take_append_drop]
  have pl : (s.take r.toNat).length = r.toNat := by rw [List.length_take]; omega
  have lowc : ∀ k, Low (cand (s.take r.toNat) (s.drop (r.toNat + 1)) j k) ∧ (cand (s.take r.toNat) (s.drop (r.toNat + 1)) j k).length = s.length := fun k => by
    have hlen : (cand (s.take r.toNat) (s.drop (r.toNat + 1)) j k).length = s.length := by
      unfold cand; rw [List.length_append, List.length_append, pl, List.length_drop, List.length_singleton]; omega
    refine ⟨⟨⟨fun z => by rw [z] at hlen; simp at hlen; omega, by omega⟩, fun x hx => ?_⟩, hlen⟩
    unfold cand at hx
    rcases List.mem_append.mp hx with hx | hx
    · rcases List.mem_append.mp hx with hx | hx
      · exact hs.2 x (List.mem_of_mem_take hx)
      · rw [List.mem_singleton] at hx; rw [hx]; exact ltr_mem _
    · exact hs.2 x (List.mem_of_mem_drop hx)
  generalize hP : s.take r.toNat = p at s0 pl lowc
  generalize hQ' : s.drop (r.toNat + 1) = q at s0 lowc
  refine And.intro (by decide) ?_
  refine wFor_ind (fun xs σ H => H = G ∧ ∃ k o2, xs.length = 26 - k ∧ k ≤ 26 ∧ σ = [some .rnd, some n, some (.str abc), m, some (.str (cand p q j k)), some (.int r), o2] ∧ ∀ i, i < k → D.str (cand p q j i) ∈ us) ?_ ?_ _ _ _ ⟨rfl, 0, o2, rfl, by decide, by rw [← s0], fun i hi => absurd hi (Nat.not_lt_zero _)⟩
  · rintro σ H ⟨rfl, k, o2, k1, k2, rfl, k3⟩
    have : k = 26 := by simp at k1; omega
    subst this
    exact absurd k3 (cand_out hu hl)
  · rintro x xs ih σ H ⟨rfl, k, o2, k1, k2, rfl, k3⟩
    obtain ⟨b, hb, hb2⟩ := in_strs (s := cand p q j k) ha hu
    simp_arith [hb]
    cases b with
    | false => exact h _ (lowc k).1 fun z => by simpa using hb2.mpr z
    | true =>
      have eat : atI (cand p q j k) r = some (ltr (j + k)) := by
        rw [at_pos h0]
        unfold cand
        rw [List.append_assoc, List.getElem?_append_right (by omega), pl, Nat.sub_self]; rfl
      have hrl : r < (cand p q j k).length := by rw [(lowc k).2]; exact h1
      obtain ⟨i, hi, ei, el⟩ := abc_at _ (ltr_mem (j + k))
      have hij : i = (j + k) % 26 := by
        have : ∀ x, x < 26 → ∀ y, y < 26 → abc.getD x 0 = abc.getD y 0 → x = y := by decide
        refine (this _ (Nat.mod_lt (j + k) (by decide)) i hi ?_).symm
        have el : abc.getD ((j + k) % 26) 0 = abc.getD (i % 26) 0 := el
        rw [Nat.mod_eq_of_lt hi] at el
        exact el
      have e2 : atI abc ((((i : Nat) : Int) + 1) % 26) = some (ltr (j + (k + 1))) := by
        have e3 : (((i : Nat) : Int) + 1) % 26 = (((j + (k + 1)) % 26 : Nat) : Int) := by omega
        rw [e3, at_nat]
        have hlt : (j + (k + 1)) % 26 < abc.length := Nat.mod_lt _ (by decide)
        unfold ltr
        rw [List.getD_eq_getElem?_getD, List.getElem?_eq_getElem hlt]; rfl
      have cl := (lowc k).2
      have c1 : cutL (cand p q j k) none (some r) = p := by
        rw [cut_pre ⟨h0, by omega⟩, ← pl]; unfold cand; rw [List.append_assoc, List.take_left]
      have c2 : cutL (cand p q j k) (some (r + 1)) none = q := by
        rw [cut_suf ⟨by omega, by omega⟩, show (r + 1).toNat = (p ++ [ltr (j + k)]).length by rw [List.length_append, pl, List.length_singleton]; omega]
        unfold cand; rw [List.drop_left]
      simp_arith [eat, ei, e2, c1, c2]
      have hlim : lim = 16777216 := rfl
      have ln := (lowc (k + 1)).2
      have ln2 := ln
      unfold cand at ln2
      rw [List.length_append, List.length_append, List.length_singleton] at ln2
      refine ⟨by omega, by rw [List.length_append, List.length_singleton]; omega, ih _ _ ⟨rfl, k + 1, _, by simp at k1; omega, by simp at k1; omega, rfl, fun x hx => ?_⟩⟩
      by_cases hxk : x < k
      · exact k3 x hxk
      · have : x = k := by omega
        subst this
        exact hb2.mp rfl
theorem strs_one : ∀ {ds : List D}, (∀ d ∈ ds, ∃ c, d = .str [c] ∧ c ∈ abc) → ∃ cs : List Nat, strsOf ds = some (cs.map fun c => [c]) ∧ cs.length = ds.length ∧ ∀ c ∈ cs, c ∈ abc
  | [], _ => ⟨[], rfl, rfl, fun _ h => (nomatch h)⟩
  | d :: ds, h => by
    obtain ⟨cs, h1, h2, h3⟩ := strs_one (ds := ds) fun x hx => h x (List.mem_cons_of_mem _ hx)
    obtain ⟨c, rfl, hc⟩ := h d List.mem_cons_self
    refine ⟨c :: cs, by show (strsOf ds).map ([c] :: ·) = _; rw [h1]; rfl, by simp [h2], fun x hx => ?_⟩
    rcases List.mem_cons.mp hx with rfl | hx
    · exact hc
    · exact h3 x hx
theorem join_one : ∀ cs : List Nat, joinL [] (cs.map fun c => [c]) = cs
  | [] => rfl
  | [c] => rfl
  | c :: d :: cs => by
    show [c] ++ [] ++ joinL [] ((d :: cs).map fun c => [c]) = _
    rw [join_one (d :: cs)]
    rfl
theorem sum_one : ∀ cs : List Nat, ((cs.map fun c => [c]).map List.length).sum = cs.length
  | [] => rfl
  | c :: cs => by
    show 1 + ((cs.map fun c => [c]).map List.length).sum = cs.length + 1
    rw [sum_one cs]; omega
theorem name_ok {Γ : Gam} {dr : Nat} (h2 : Γ.sp dr = spDraw) (ds : List D) (G : HD) (QD : KD) (XD : KX) (h : spName ds G QD XD) : wSs Γ (b_name dr) { nx := fun _ H => QD .non H, rt := QD, ex := fun x _ H => XD x H } (startD 7 ds) G := by
  obtain ⟨n, us, rfl, ha, hl, hu, h⟩ := h
  have hu2 : ∀ u ∈ us, ∃ s, u = .str s := fun u hx => let ⟨s, e, _⟩ := hu u hx; ⟨s, e⟩
  simp_arith [b_name, h2]
  refine ⟨_, rfl, by decide, fun r h0 h1 => ?_⟩
  obtain ⟨d, hd, e⟩ := get_in (rows := [.int 1, .int 1, .int 2, .int 3, .int 5, .int 11, .int 12]) h0 h1
  have hm : ∃ m : Int, d = .int m ∧ 1 ≤ m ∧ m ≤ 12 := by
    simp only [List.mem_cons, List.not_mem_nil, or_false] at hd
    rcases hd with rfl | rfl | rfl | rfl | rfl | rfl | rfl <;> exact ⟨_, rfl, by decide, by decide⟩
  obtain ⟨m, rfl, m1, m2⟩ := hm
  simp_arith [e]
  rw [q_rng1 ⟨by omega, by omega⟩, ok_some]
  have hlim : lim = 16777216 := rfl
  refine And.intro (by show m.toNat ≤ lim; omega) ?_
  refine lcD_ind (fun xs acc H => H = G ∧ (∀ d ∈ acc, ∃ c, d = .str [c] ∧ c ∈ abc) ∧ acc.length + xs.length = m.toNat) ?_ ?_ _ _ _ ⟨rfl, fun _ h => (nomatch h), by show 0 + (rngF 1 m.toNat 0).length = _; rw [rngF_len, Nat.zero_add]⟩
  · rintro acc H ⟨rfl, k1, k2⟩
    obtain ⟨cs, j1, j2, j3⟩ := strs_one k1
    have hz : cs.length = m.toNat := by simpa [j2] using k2
    have hs : Low cs := ⟨⟨fun z => by rw [z] at hz; simp at hz; omega, by omega⟩, j3⟩
    simp_arith [j1, join_one, sum_one]
    refine And.intro (by show cs.length + _ * 0 ≤ lim; omega) ?_
    have go : ∀ (s : List Nat), Low s → wSs Γ (b_name2 dr) { nx := fun _ H => QD .non H, rt := QD, ex := fun x _ H => XD x H } [some .rnd, some n, some (.str abc), some (.int m), some (.str s), none, none] H := fun s hs => name2_ok h2 ha hu2 hl hs h
    rw [ha.tr]
    show (if (us.length != 0) = true then _ else _ : Prop)
    by_cases hn : (us.length != 0) = true
    · rw [if_pos hn]
      refine ⟨_, rfl, by decide, fun r2 k0 k1 => ?_⟩
      simp_arith [ha.len]
      cases (r2 == 0) with
      | false => exact go cs hs
      | true =>
        have hp : 0 < us.length := by simp at hn; exact List.length_pos_iff.mpr hn
        refine ⟨_, rfl, ⟨by omega, by omega⟩, fun r3 k0 k1 => ?_⟩
        obtain ⟨d, hd, e⟩ := get_in k0 k1
        obtain ⟨s, rfl, hs⟩ := hu d hd
        simp_arith [ha.idx, e]
        exact go s hs
    · rw [if_neg hn]
      exact go cs hs
  · rintro x xs acc ih H ⟨rfl, k1, k2⟩
    simp_arith []
    refine ⟨_, rfl, by decide, fun r h0 h1 => ?_⟩
    obtain ⟨c, hc, e⟩ := get_inS (s := abc) h0 h1
    simp_arith [e]
    refine ih _ _ ⟨rfl, fun d hd => ?_, by simp at k2 ⊢; omega⟩
    rcases List.mem_append.mp hd with hd | hd
    · exact k1 d hd
    · rw [List.mem_singleton] at hd; exact ⟨c, hd, hc⟩
end DL

namespace DL
open PySem PySem.Spec PyProof.Rows L2
/-! ## 19. Kinds of a schema -/
theorem two_a {G : HD} {a b : Addr} {x y : HC} (h : a ≠ b) : (updD (updD G a x) b y) a = some x := (updD_ne h).trans updD_same
theorem two_da {G : HD} {a b : Addr} {x y : HC} (h : a ≠ b) (g : G a = none) : delD (updD (updD G a x) b y) a = updD G b y := by
  rw [updD_comm h, delD_updD ((updD_ne h).trans g)]
theorem two_ua {G : HD} {a b : Addr} {x y x' : HC} (h : a ≠ b) : updD (updD (updD G a x) b y) a x' = updD (updD G a x') b y := by
  rw [updD_comm h.symm, updD_updD]
mutual
inductive Kd where
  | leaf (k : List Nat) | one (o : Bool) (a : Kd) | recd (fs : Fs)
inductive Fs where
  | nil | cons (n : List Nat) (k : Kd) (fs : Fs)
end
def sRec : List Nat := [114, 101, 99]
def sOpt : List Nat := [111, 112, 116]
def sList : List Nat := [108, 105, 115, 116]
def sInt : List Nat := [105, 110, 116]
def sText : List Nat := [116, 101, 120, 116]
def sBool : List Nat := [98, 111, 111, 108]
def sOne (o : Bool) : List Nat := if o then sOpt else sList
mutual
def enc : Kd → D
  | .leaf k => .tup [.str k]
  | .one o a => .tup [.str (sOne o), enc a]
  | .recd fs => .tup [.str sRec, .tup (encs fs)]
def encs : Fs → List D
  | .nil => []
  | .cons n k fs => .tup [.str n, enc k] :: encs fs
end
structure Lf where
  p : List (List Nat)
  s : List (List Nat)
  k : List Nat
def Lf.d (l : Lf) : D := .tup [.tup (l.p.map .str), .tup (l.s.map .str), .str l.k]
mutual
def lv : Kd → List Lf
  | .leaf k => [⟨[], [], k⟩]
  | .one o a => (lv a).map fun l => ⟨l.p, sOne o :: l.s, l.k⟩
  | .recd fs => lvs fs
def lvs : Fs → List Lf
  | .nil => []
  | .cons n k fs => ((lv k).map fun l => ⟨n :: l.p, l.s, l.k⟩) ++ lvs fs
end
mutual
def dp : Kd → Nat
  | .leaf _ => 1
  | .one _ a => dp a + 1
  | .recd fs => dps fs + 1
def dps : Fs → Nat
  | .nil => 0
  | .cons _ k fs => max (dp k) (dps fs)
end
def toL : Fs → List (List Nat × Kd)
  | .nil => []
  | .cons n k fs => (n, k) :: toL fs
def isOpt : Kd → Bool
  | .one true _ => true
  | _ => false
mutual
def Wf : Kd → Prop
  | .leaf k => k ∈ [sInt, sText, sBool]
  | .one o a => (o = true → isOpt a = false) ∧ Wf a
  | .recd fs => (fs ≠ .nil ∧ ((toL fs).map Prod.fst).Nodup ∧ (toL fs).length ≤ 8) ∧ Wfs fs
def Wfs : Fs → Prop
  | .nil => True
  | .cons n k fs => Low n ∧ Wf k ∧ Wfs fs
end
def fsOf : List (List Nat × Kd) → Fs
  | [] => .nil
  | p :: r => .cons p.1 p.2 (fsOf r)
theorem encs_of : ∀ l : List (List Nat × Kd), encs (fsOf l) = l.map fun p => .tup [.str p.1, enc p.2]
  | [] => by simp [fsOf, encs]
  | p :: r => by simp [fsOf, encs, encs_of r]
theorem toL_of : ∀ l : List (List Nat × Kd), toL (fsOf l) = l
  | [] => rfl
  | p :: r => by simp [fsOf, toL, toL_of r]
theorem wfs_of : ∀ {l : List (List Nat × Kd)}, (∀ p ∈ l, Low p.1 ∧ Wf p.2) → Wfs (fsOf l)
  | [], _ => by simp [fsOf, Wfs]
  | p :: r, h => by
    have h1 := h p List.mem_cons_self
    simp only [fsOf, Wfs]
    exact ⟨h1.1, h1.2, wfs_of fun q hq => h q (List.mem_cons_of_mem _ hq)⟩
theorem dps_of_le : ∀ {l : List (List Nat × Kd)} {n : Nat}, (∀ p ∈ l, dp p.2 ≤ n) → dps (fsOf l) ≤ n
  | [], n, _ => by simp [fsOf, dps]
  | p :: r, n, h => by
    have h1 := h p List.mem_cons_self
    have h2 := dps_of_le (l := r) fun q hq => h q (List.mem_cons_of_mem _ hq)
    simp only [fsOf, dps]
    omega
theorem lvs_len : ∀ {l : List (List Nat × Kd)} {m : Nat}, (∀ p ∈ l, (lv p.2).length ≤ m) → (lvs (fsOf l)).length ≤ l.length * m
  | [], m, _ => by simp [fsOf, lvs]
  | p :: r, m, h => by
    have h1 := h p List.mem_cons_self
    have h2 := lvs_len (l := r) (m := m) fun q hq => h q (List.mem_cons_of_mem _ hq)
    simp only [fsOf, lvs, List.length_append, List.length_map, List.length_cons, Nat.add_mul]
    omega
def spKind (n : Nat) : SpD := fun ds G Q _ => ∃ dep most : Int, ds = [.rnd, .int dep, .int most] ∧ (dep < n ∧ 0 < n) ∧ (1 ≤ most ∧ most ≤ 1000) ∧ ∀ k, Wf k → (dp k ≤ n ∧ ((dp k : Int) ≤ dep ∨ dp k ≤ 1)) → ((lv k).length : Int) ≤ most → Q (enc k) G
def spRecord (n : Nat) : SpD := fun ds G Q _ => ∃ dep most : Int, ds = [.rnd, .int dep, .int most] ∧ (dep ≤ n ∧ 0 < n) ∧ (1 ≤ most ∧ most ≤ 1000) ∧ ∀ fs, Wf (.recd fs) → (dp (.recd fs) ≤ n + 1 ∧ ((dp (.recd fs) : Int) ≤ dep ∨ dp (.recd fs) ≤ 2)) → ((lv (.recd fs)).length : Int) ≤ most → Q (enc (.recd fs)) G
def b_record (dr nm kd : Nat) : Ss :=
 (.c (.set 3 (.bin true .add (.con (.int 1)) (.call dr (.c (.var 0) (.c (.bf true .min (.c (.var 2) (.c (.idx (.lst true (.c (.con (.int 1)) (.c (.con (.int 2)) (.c (.con (.int 4)) (.c (.con (.int 8)) .n))))) (.call dr (.c (.var 0) (.c (.con (.int 4)) .n)))) .n))) .n)))))
 (.c (.set 4 (.lst false .n))
 (.c (.set 5 (.lst false .n))
 (.c (.for_ (.n 6) (.rng (.c (.var 3) .n)) (.c (.set 7 (.call nm (.c (.var 0) (.c (.var 4) .n))))
 (.c (.ex (.mt .append (.var 4) (.c (.var 7) .n)))
 (.c (.ex (.mt .append (.var 5) (.c (.tup (.c (.var 7) (.c (.call kd (.c (.var 0) (.c (.bin true .sub (.var 1) (.con (.int 1))) (.c (.bin true .fdiv (.var 2) (.var 3)) .n)))) .n))) .n)))
 .n))))
 (.c (.fz 4) (.c (.fz 5) (.c (.ret (.tup (.c (.con (.str sRec)) (.c (.bf true .tuple (.c (.var 5) .n)) .n))))
 .n)))))))
theorem record_ok {Γ : Gam} {dr nm kd n : Nat} (h2 : Γ.sp dr = spDraw) (h5 : Γ.sp nm = spName) (h6 : Γ.sp kd = spKind n) (ds : List D) (G : HD) (QD : KD) (XD : KX) (h : spRecord n ds G QD XD) :
    wSs Γ (b_record dr nm kd) { nx := fun _ H => QD .non H, rt := QD, ex := fun x _ H => XD x H } (startD 8 ds) G := by
  obtain ⟨dep, most, rfl, hd, hm, hQ⟩ := h
  simp_arith [b_record, h2, h5, h6]
  refine ⟨_, rfl, by decide, fun r h0 h1 => ?_⟩
  obtain ⟨d, hd4, e⟩ := get_in (rows := [.int 1, .int 2, .int 4, .int 8]) h0 h1
  have hc : ∃ m : Int, d = .int m ∧ 1 ≤ m ∧ m ≤ 8 := by
    simp only [List.mem_cons, List.not_mem_nil, or_false] at hd4
    rcases hd4 with rfl | rfl | rfl | rfl <;> exact ⟨_, rfl, by decide, by decide⟩
  obtain ⟨c, rfl, c1, c2⟩ := hc
  simp_arith [e]
  refine ⟨_, rfl, ⟨by split <;> omega, by split <;> omega⟩, fun r k0 k1 => ?_⟩
  have hmany : 1 ≤ 1 + r ∧ 1 + r ≤ most ∧ 1 + r ≤ 8 := by split at k1 <;> omega
  simp_arith []
  generalize 1 + r = many at hmany ⊢
  clear k0 k1 h0 h1 e hd4
  intro a ha b hb
  have hab : a ≠ b := fun z => by rw [z, updD_same] at hb; cases hb
  have gb : G b = none := by rw [updD_ne hab.symm] at hb; exact hb
  rw [q_rng1 ⟨by omega, by omega⟩, ok_some]
  have hlim : lim = 16777216 := rfl
  refine And.intro (by show many.toNat ≤ lim; omega) ?_
  have hq1 : 1 ≤ most / many := by rw [Int.le_ediv_iff_mul_le (by omega)]; omega
  have hq2 : most / many ≤ most := Int.ediv_le_self _ (by omega)
  have e1 : ∀ x y : HC, (updD (updD G a x) b y) a = some x := fun x y => two_a hab
  have e2 : ∀ x y : HC, (updD (updD G a x) b y) b = some y := fun x y => updD_same
  have e3 : ∀ x y x' : HC, updD (updD (updD G a x) b y) a x' = updD (updD G a x') b y := fun x y x' => two_ua hab
  have e4 : ∀ x y y' : HC, updD (updD (updD G a x) b y) b y' = updD (updD G a x) b y' := fun x y y' => updD_updD
  refine wFor_ind (fun xs σ H => ∃ (l : List (List Nat × Kd)) (o6 o7 : Option D), H = updD (updD G a (.lst (l.map fun p => .str p.1))) b (.lst (l.map fun p => .tup [.str p.1, enc p.2])) ∧
    σ = [some .rnd, some (.int dep), some (.int most), some (.int many), some (.ref a), some (.ref b), o6, o7] ∧ l.length + xs.length = many.toNat ∧ (l.map Prod.fst).Nodup ∧ ∀ p ∈ l, (Low p.1 ∧ Wf p.2) ∧ (dp p.2 ≤ n ∧ ((dp p.2 : Int) ≤ dep - 1 ∨ dp p.2 ≤ 1)) ∧ ((lv p.2).length : Int) ≤ most / many) ?_ ?_ _ _ _
    ⟨[], none, none, rfl, rfl, by show 0 + (rngF 1 many.toNat 0).length = _; rw [rngF_len, Nat.zero_add], .nil, fun _ h => (nomatch h)⟩
  · rintro σ H ⟨l, o6, o7, rfl, rfl, k2, k3, k4⟩
    have e5 : ∀ x y : HC, delD (updD (updD G a x) b y) a = updD G b y := fun x y => two_da hab ha
    have e6 : ∀ x : HC, delD (updD G b x) b = G := fun x => delD_updD gb
    simp_arith [e1, e2, e5, e6, updD_same]
    have hl : l.length = many.toNat := by simpa using k2
    have hm2 : ((lvs (fsOf l)).length : Int) ≤ most := by
      have := lvs_len (l := l) (m := (most / many).toNat) fun p hp => by have := (k4 p hp).2.2; omega
      have h3 : many * (most / many) ≤ most := Int.mul_ediv_self_le (by omega)
      have h4 : ((l.length * (most / many).toNat : Nat) : Int) = many * (most / many) := by rw [hl, Int.natCast_mul, Int.toNat_of_nonneg (by omega), Int.toNat_of_nonneg (by omega)]
      omega
    have := hQ (fsOf l) ⟨⟨by cases l <;> first | (simp at hl; omega) | (simp [fsOf]), by rw [toL_of]; exact k3, by rw [toL_of]; omega⟩, wfs_of fun p hp => (k4 p hp).1⟩ (by
        simp only [dp]
        have h5 := dps_of_le (l := l) (n := n) fun p hp => (k4 p hp).2.1.1
        have h6 := dps_of_le (l := l) (n := max (dep - 1).toNat 1) fun p hp => by have := (k4 p hp).2.1.2; omega
        omega) (by simp only [lv]; exact hm2)
    rw [← encs_of]
    simpa only [enc] using this
  · rintro x xs ih σ H ⟨l, o6, o7, rfl, rfl, k2, k3, k4⟩
    simp_arith []
    have hl8 : l.length + 1 ≤ many.toNat := by simp at k2; omega
    refine ⟨.ref a, _, rfl, .inr ⟨a, rfl, e1 _ _⟩, by rw [List.length_map]; omega, fun u hu => ?_, fun s hs hn => ?_⟩
    · obtain ⟨p, hp, rfl⟩ := List.mem_map.mp hu
      exact ⟨_, rfl, (k4 p hp).1.1⟩
    simp_arith [e1, e2, e3, e4]
    refine ⟨by rw [List.length_map]; omega, ⟨by omega, Int.lt_of_le_of_lt hmany.2.2 (by decide)⟩, _, _, rfl, ⟨by omega, hd.2⟩, ⟨hq1, by omega⟩, fun k w1 w2 w3 => ?_⟩
    simp_arith [e2, e4]
    refine ⟨by rw [List.length_map]; omega, ih _ _ ⟨l ++ [(s, k)], _, _, by rw [List.map_append, List.map_append]; rfl, rfl, by simp at k2 ⊢; omega, ?_, fun p hp => ?_⟩⟩
    · rw [List.map_append, List.nodup_append]
      refine ⟨k3, by simp, fun x hx y hy => ?_⟩
      simp at hy; subst hy
      rintro rfl
      obtain ⟨p, hp, e⟩ := List.mem_map.mp hx
      exact hn (List.mem_map.mpr ⟨p, hp, by rw [e]⟩)
    · rcases List.mem_append.mp hp with hp | hp
      · exact k4 p hp
      · rw [List.mem_singleton] at hp; subst hp; exact ⟨⟨hs, w1⟩, w2, w3⟩
/-! ### kind -/
def b_kind (dr pk kd rc : Nat) : Ss :=
 (.c (.set 3 (.call dr (.c (.var 0) (.c (.con (.int 7)) .n))))
 (.c (.ite (.bo false (.c (.cmp .lt (.var 1) (.con (.int 2))) (.c (.cmp .lt (.var 3) (.con (.int 2))) .n))) (.c (.ret (.tup (.c (.call pk (.c (.var 0) (.c (.lst true (.c (.con (.str sInt)) (.c (.con (.str sText)) (.c (.con (.str sBool)) .n)))) .n))) .n)))
 .n) .n)
 (.c (.ite (.cmp .lt (.var 3) (.con (.int 4))) (.c (.set 4 (.call kd (.c (.var 0) (.c (.bin true .sub (.var 1) (.con (.int 1))) (.c (.var 2) .n)))))
 (.c (.ite (.cmp .eq (.idx (.var 4) (.con (.int 0))) (.con (.str sOpt))) (.c (.ret (.var 4))
 .n) .n)
 (.c (.ret (.tup (.c (.con (.str sOpt)) (.c (.var 4) .n))))
 .n))) .n)
 (.c (.ite (.cmp .lt (.var 3) (.con (.int 6))) (.c (.ret (.tup (.c (.con (.str sList)) (.c (.call kd (.c (.var 0) (.c (.bin true .sub (.var 1) (.con (.int 1))) (.c (.var 2) .n)))) .n))))
 .n) .n)
 (.c (.ret (.call rc (.c (.var 0) (.c (.var 1) (.c (.var 2) .n)))))
 .n)))))
def hd (k : Kd) : List Nat := match k with
  | .leaf k => k
  | .one o _ => sOne o
  | .recd _ => sRec
theorem enc_hd (k : Kd) : ∃ r, enc k = .tup (.str (hd k) :: r) := by
  cases k <;> simp only [enc, hd] <;> exact ⟨_, rfl⟩
theorem hd_opt {k : Kd} (w : Wf k) : (hd k == sOpt) = isOpt k := by
  cases k with
  | leaf k =>
    simp only [Wf, List.mem_cons, List.not_mem_nil, or_false] at w
    rcases w with rfl | rfl | rfl <;> rfl
  | one o a => cases o <;> rfl
  | recd fs => rfl
theorem kind_ok {Γ : Gam} {dr pk kd rc n : Nat} (h2 : Γ.sp dr = spDraw) (h3 : Γ.sp pk = spPick) (h6 : Γ.sp kd = spKind n) (h7 : Γ.sp rc = spRecord n) (ds : List D) (G : HD) (QD : KD) (XD : KX) (h : spKind (n + 1) ds G QD XD) :
    wSs Γ (b_kind dr pk kd rc) { nx := fun _ H => QD .non H, rt := QD, ex := fun x _ H => XD x H } (startD 5 ds) G := by
  obtain ⟨dep, most, rfl, hd', hm, hQ⟩ := h
  simp_arith [b_kind, h2, h3, h6, h7]
  refine ⟨_, rfl, by decide, fun r h0 h1 => ?_⟩
  have leaf : spPick [.rnd, .lst [.str sInt, .str sText, .str sBool]] G (fun d H1 => QD (.tup [d]) H1) fun x H1 => XD x H1 := by
    refine ⟨_, rfl, by decide, fun d hd => ?_⟩
    simp only [List.mem_cons, List.not_mem_nil, or_false] at hd
    rcases hd with rfl | rfl | rfl
    · simpa only [enc] using hQ (.leaf sInt) (by simp [Wf]) ⟨by simp [dp], .inr (by simp [dp])⟩ (by simp [lv]; omega)
    · simpa only [enc] using hQ (.leaf sText) (by simp [Wf]) ⟨by simp [dp], .inr (by simp [dp])⟩ (by simp [lv]; omega)
    · simpa only [enc] using hQ (.leaf sBool) (by simp [Wf]) ⟨by simp [dp], .inr (by simp [dp])⟩ (by simp [lv]; omega)
  simp_arith []
  by_cases c0 : dep < 2
  · rw [decide_eq_true c0]
    exact leaf
  rw [decide_eq_false c0, if_pos rfl]
  have inner : ∀ k, Wf k → (dp k ≤ n ∧ ((dp k : Int) ≤ dep - 1 ∨ dp k ≤ 1)) → ((lv k).length : Int) ≤ most → ∀ o, (o = true → isOpt k = false) → QD (.tup [.str (sOne o), enc k]) G := fun k w1 w2 w3 o ho => by
    have := hQ (.one o k) (by simp only [Wf]; exact ⟨ho, w1⟩) (by simp only [dp]; omega) (by simp only [lv, List.length_map]; exact w3)
    simpa only [enc] using this
  cases decide (r < 2) with
  | true => exact leaf
  | false =>
    cases decide (r < 4) with
    | true =>
      refine ⟨_, _, rfl, ⟨by omega, by omega⟩, hm, fun k w1 w2 w3 => ?_⟩
      obtain ⟨rest, e⟩ := enc_hd k
      rw [e]
      simp_arith []
      rw [hd_opt w1]
      cases ho : isOpt k with
      | true => rw [← e]; exact hQ k w1 ⟨by omega, by omega⟩ w3
      | false => rw [← e]; exact inner k w1 w2 w3 true fun _ => ho
    | false =>
      cases decide (r < 6) with
      | true => exact ⟨_, _, rfl, ⟨by omega, by omega⟩, hm, fun k w1 w2 w3 => inner k w1 w2 w3 false fun z => (nomatch z)⟩
      | false => exact ⟨_, _, rfl, ⟨by omega, by omega⟩, hm, fun fs w1 w2 w3 => hQ _ w1 ⟨w2.1, by omega⟩ w3⟩
/-! ### schema -/
end DL

namespace DL
open PySem PySem.Spec PyProof.Rows L2
/-! ## 20. The leaves of a kind -/
def enc1 (p : List Nat × Kd) : D := .tup [.str p.1, enc p.2]
theorem encs_eq : ∀ fs, encs fs = (toL fs).map enc1
  | .nil => by simp [encs, toL]
  | .cons n k fs => by simp [encs, toL, encs_eq fs, enc1]
theorem wfs_eq : ∀ {fs}, Wfs fs → ∀ p ∈ toL fs, Low p.1 ∧ Wf p.2
  | .nil, _, _, h => nomatch h
  | .cons n k fs, w, p, h => by
    simp only [Wfs] at w
    rcases List.mem_cons.mp h with rfl | h
    · exact ⟨w.1, w.2.1⟩
    · exact wfs_eq w.2.2 p h
theorem dps_eq : ∀ {fs}, ∀ p ∈ toL fs, dp p.2 ≤ dps fs
  | .nil, _, h => nomatch h
  | .cons n k fs, p, h => by
    simp only [dps]
    rcases List.mem_cons.mp h with rfl | h
    · show dp k ≤ _; omega
    · have := dps_eq p h; omega
theorem toL_ne : ∀ {fs : Fs}, fs ≠ .nil → toL fs ≠ []
  | .nil, h => absurd rfl h
  | .cons _ _ _, _ => by simp [toL]
mutual
theorem lv_pos : ∀ k, Wf k → 1 ≤ (lv k).length
  | .leaf _, _ => by simp [lv]
  | .one _ a, w => by simp only [Wf] at w; simpa [lv] using lv_pos a w.2
  | .recd fs, w => by simp only [Wf] at w; simp only [lv]; exact lvs_pos fs w.1.1 w.2
theorem lvs_pos : ∀ fs, fs ≠ .nil → Wfs fs → 1 ≤ (lvs fs).length
  | .nil, h, _ => absurd rfl h
  | .cons n k fs, _, w => by
    simp only [Wfs] at w
    have := lv_pos k w.2.1
    simp only [lvs, List.length_append, List.length_map]; omega
end
mutual
theorem lv_dp : ∀ k, ∀ l ∈ lv k, l.p.length + l.s.length < dp k
  | .leaf k, l, h => by simp only [lv, List.mem_singleton] at h; subst h; simp [dp]
  | .one o a, l, h => by
    simp only [lv, List.mem_map] at h
    obtain ⟨x, hx, rfl⟩ := h
    have := lv_dp a x hx
    simp only [dp, List.length_cons]; omega
  | .recd fs, l, h => by
    simp only [lv] at h
    have := lvs_dp fs l h
    simp only [dp]; omega
theorem lvs_dp : ∀ fs, ∀ l ∈ lvs fs, l.p.length + l.s.length ≤ dps fs
  | .nil, l, h => by simp [lvs] at h
  | .cons n k fs, l, h => by
    simp only [lvs, List.mem_append, List.mem_map] at h
    simp only [dps]
    rcases h with ⟨x, hx, rfl⟩ | h
    · have := lv_dp k x hx
      simp only [List.length_cons]; omega
    · have := lvs_dp fs l h; omega
end
theorem leaf_in {k : List Nat} (w : Wf (.leaf k)) (G : HD) : inD (.str k) (.tup [.str sInt, .str sText, .str sBool]) G = some true := by
  simp only [Wf, List.mem_cons, List.not_mem_nil, or_false] at w
  rcases w with rfl | rfl | rfl <;> rfl
theorem one_in (o : Bool) (G : HD) : inD (.str (sOne o)) (.tup [.str sInt, .str sText, .str sBool]) G = some false := by cases o <;> rfl
theorem rec_in (G : HD) : inD (.str sRec) (.tup [.str sInt, .str sText, .str sBool]) G = some false := rfl
theorem leaf_nr {k : List Nat} (w : Wf (.leaf k)) : (k == sRec) = false := by
  simp only [Wf, List.mem_cons, List.not_mem_nil, or_false] at w
  rcases w with rfl | rfl | rfl <;> rfl
theorem one_nr (o : Bool) : (sOne o == sRec) = false := by cases o <;> rfl
/-! ### the law's own reading -/
end DL

namespace DL
open PySem PySem.Spec PyProof.Rows L2
/-! ### leaves, by a pile -/
structure It where
  p : List (List Nat)
  s : List (List Nat)
  k : Kd
def It.d (i : It) : D := .tup [.tup (i.p.map .str), .tup (i.s.map .str), enc i.k]
def It.lv (i : It) : List Lf := (DL.lv i.k).map fun l => ⟨i.p ++ l.p, i.s ++ l.s, l.k⟩
def It.Ok (i : It) : Prop := Wf i.k ∧ i.p.length + i.s.length + dp i.k ≤ 101
mutual
def sz : Kd → Nat
  | .leaf _ => 1
  | .one _ a => sz a + 1
  | .recd fs => szs fs + 1
def szs : Fs → Nat
  | .nil => 0
  | .cons _ k fs => sz k + szs fs
end
end DL

namespace DL
open PySem PySem.Spec PyProof.Rows L2
/-! ## 21. Values of a schema -/
def signs : List Nat := [48, 49, 50, 51, 52, 53, 54, 55, 56, 57, 58, 59, 60, 61, 62, 63, 64, 65, 66, 67, 68, 69, 70, 71, 72, 73, 74, 75, 76, 77, 78, 79, 80, 81, 82, 83, 84, 85, 86, 87, 88, 89, 90, 91, 92, 93, 94, 95, 96, 97, 98, 99, 100, 101, 102, 103, 104, 105, 106, 107, 108, 109, 110, 111, 112, 113, 114, 115, 116, 117, 118, 119, 120, 121, 122]
def IntOk (i : Int) : Prop := -9223372036854775808 ≤ i ∧ i < 9223372036854775808
def TextOk (s : List Nat) : Prop := s.length ≤ 200 ∧ ∀ c ∈ s, c ∈ signs
def LeafV (k : List Nat) (v : D) : Prop := (k = sInt ∧ ∃ i, v = .int i ∧ IntOk i) ∨ (k = sText ∧ ∃ s, v = .str s ∧ TextOk s) ∨ (k = sBool ∧ ∃ b, v = .bl b)
mutual
/-- v is a value of k with at most n elements of lists -/
def OkV : Kd → D → Nat → Prop
  | .leaf k, v, _ => LeafV k v
  | .one true a, v, n => v = .non ∨ OkV a v n
  | .one false a, v, n => ∃ (vs : List D) (ms : List Nat), v = .tup vs ∧ vs.length = ms.length ∧ vs.length + ms.sum ≤ n ∧ ∀ (i : Nat) (x : D) (m : Nat), vs[i]? = some x → ms[i]? = some m → OkV a x m
  | .recd fs, v, n => ∃ vs, v = .tup vs ∧ OkVs fs vs n
def OkVs : Fs → List D → Nat → Prop
  | .nil, vs, _ => vs = []
  | .cons _ k fs, vs, n => ∃ v r a b, vs = v :: r ∧ a + b ≤ n ∧ OkV k v a ∧ OkVs fs r b
end
/-! ### int -/
def spInt : SpD := fun ds G Q _ => ds = [.rnd] ∧ ∀ i, IntOk i → Q (.int i) G
def b_int (dr pk : Nat) : Ss :=
 (.c (.set 1 (.call dr (.c (.var 0) (.c (.con (.int 6)) .n))))
 (.c (.ite (.cmp .lt (.var 1) (.con (.int 3))) (.c (.ret (.bin true .sub (.call dr (.c (.var 0) (.c (.con (.int 5)) .n))) (.con (.int 2))))
 .n) .n)
 (.c (.ite (.cmp .eq (.var 1) (.con (.int 3))) (.c (.ret (.call dr (.c (.var 0) (.c (.con (.int 1000)) .n))))
 .n) .n)
 (.c (.ite (.cmp .eq (.var 1) (.con (.int 4))) (.c (.ret (.call pk (.c (.var 0) (.c (.lst true (.c (.bin true .sub (.bin true .pow (.con (.int 2)) (.con (.int 63))) (.con (.int 1))) (.c (.neg (.bin true .pow (.con (.int 2)) (.con (.int 63)))) (.c (.bin true .pow (.con (.int 2)) (.con (.int 62))) (.c (.neg (.con (.int 1))) .n))))) .n))))
 .n) .n)
 (.c (.ret (.bin true .sub (.call dr (.c (.var 0) (.c (.bin true .pow (.con (.int 2)) (.con (.int 64))) .n))) (.bin true .pow (.con (.int 2)) (.con (.int 63)))))
 .n)))))
theorem int_ok {Γ : Gam} {dr pk : Nat} (h2 : Γ.sp dr = spDraw) (h3 : Γ.sp pk = spPick) (ds : List D) (G : HD) (QD : KD) (XD : KX) (h : spInt ds G QD XD) : wSs Γ (b_int dr pk) { nx := fun _ H => QD .non H, rt := QD, ex := fun x _ H => XD x H } (startD 2 ds) G := by
  obtain ⟨rfl, hQ⟩ := h
  simp_arith [b_int, h2, h3]
  refine ⟨_, rfl, by decide, fun r h0 h1 => ?_⟩
  simp_arith []
  cases decide (r < 3) with
  | true =>
    refine ⟨_, rfl, by decide, fun r h0 h1 => ?_⟩
    simp_arith []
    exact hQ _ ⟨by omega, by omega⟩
  | false =>
    cases (r == 3) with
    | true => exact ⟨_, rfl, by decide, fun r h0 h1 => hQ _ ⟨by omega, by omega⟩⟩
    | false =>
      cases (r == 4) with
      | true =>
        refine ⟨by decide, by decide, by decide, _, rfl, by decide, fun d hd => ?_⟩
        simp only [List.mem_cons, List.not_mem_nil, or_false] at hd
        rcases hd with rfl | rfl | rfl | rfl <;> exact hQ _ ⟨by decide, by decide⟩
      | false =>
        refine ⟨by decide, _, rfl, by decide, fun r h0 h1 => ⟨by decide, ?_⟩⟩
        have e1 : (2 : Int) ^ 64 = 18446744073709551616 := by decide
        have e2 : (2 : Int) ^ 63 = 9223372036854775808 := by decide
        rw [e1] at h1
        exact hQ _ ⟨by rw [e2]; omega, by rw [e2]; omega⟩
/-! ### text -/
def spText : SpD := fun ds G Q _ => ds = [.rnd] ∧ ∀ s, TextOk s → Q (.str s) G
def b_text (dr : Nat) : Ss :=
 (.c (.set 1 (.con (.str signs)))
 (.c (.set 2 (.idx (.lst true (.c (.con (.int 0)) (.c (.con (.int 1)) (.c (.con (.int 1)) (.c (.con (.int 2)) (.c (.con (.int 3)) (.c (.con (.int 6)) .n))))))) (.call dr (.c (.var 0) (.c (.con (.int 6)) .n)))))
 (.c (.set 3 (.mt .join (.con (.str [])) (.c (.lc true (.idx (.var 1) (.call dr (.c (.var 0) (.c (.con (.int 75)) .n)))) (.n 4) (.rng (.c (.var 2) .n)) .yes [("k", 4)]) .n)))
 (.c (.ite (.cmp .eq (.call dr (.c (.var 0) (.c (.con (.int 24)) .n))) (.con (.int 0))) (.c (.ret (.bin true .add (.bin true .mul (.idx (.var 1) (.call dr (.c (.var 0) (.c (.con (.int 75)) .n)))) (.bin true .sub (.con (.int 200)) (.bf true .len (.c (.var 3) .n)))) (.var 3)))
 .n) .n)
 (.c (.ret (.var 3))
 .n)))))
theorem strs_in {P : Nat → Prop} : ∀ {ds : List D}, (∀ d ∈ ds, ∃ c, d = .str [c] ∧ P c) → ∃ cs : List Nat, strsOf ds = some (cs.map fun c => [c]) ∧ cs.length = ds.length ∧ ∀ c ∈ cs, P c
  | [], _ => ⟨[], rfl, rfl, fun _ h => (nomatch h)⟩
  | d :: ds, h => by
    obtain ⟨cs, h1, h2, h3⟩ := strs_in (ds := ds) fun x hx => h x (List.mem_cons_of_mem _ hx)
    obtain ⟨c, rfl, hc⟩ := h d List.mem_cons_self
    refine ⟨c :: cs, by show (strsOf ds).map ([c] :: ·) = _; rw [h1]; rfl, by simp [h2], fun x hx => ?_⟩
    rcases List.mem_cons.mp hx with rfl | hx
    · exact hc
    · exact h3 x hx
theorem text_ok {Γ : Gam} {dr : Nat} (h2 : Γ.sp dr = spDraw) (ds : List D) (G : HD) (QD : KD) (XD : KX) (h : spText ds G QD XD) : wSs Γ (b_text dr) { nx := fun _ H => QD .non H, rt := QD, ex := fun x _ H => XD x H } (startD 5 ds) G := by
  obtain ⟨rfl, hQ⟩ := h
  have hlim : lim = 16777216 := rfl
  simp_arith [b_text, h2]
  refine ⟨_, rfl, by decide, fun r h0 h1 => ?_⟩
  obtain ⟨d, hd, e⟩ := get_in (rows := [.int 0, .int 1, .int 1, .int 2, .int 3, .int 6]) h0 h1
  have hm : ∃ m : Int, d = .int m ∧ 0 ≤ m ∧ m ≤ 6 := by
    simp only [List.mem_cons, List.not_mem_nil, or_false] at hd
    rcases hd with rfl | rfl | rfl | rfl | rfl | rfl <;> exact ⟨_, rfl, by decide, by decide⟩
  obtain ⟨m, rfl, m1, m2⟩ := hm
  simp_arith [e]
  rw [q_rng1 ⟨by omega, by omega⟩, ok_some]
  refine And.intro (by show m.toNat ≤ lim; omega) ?_
  refine lcD_ind (fun xs acc H => H = G ∧ (∀ d ∈ acc, ∃ c, d = .str [c] ∧ c ∈ signs) ∧ acc.length + xs.length = m.toNat) ?_ ?_ _ _ _ ⟨rfl, fun _ h => (nomatch h), by show 0 + (rngF 1 m.toNat 0).length = _; rw [rngF_len, Nat.zero_add]⟩
  · rintro acc H ⟨rfl, k1, k2⟩
    obtain ⟨cs, j1, j2, j3⟩ := strs_in (P := fun c => c ∈ signs) k1
    have hz : cs.length = m.toNat := by simpa [j2] using k2
    simp_arith [j1, join_one, sum_one]
    refine And.intro (by show cs.length + _ * 0 ≤ lim; omega) ?_
    refine ⟨_, rfl, by decide, fun r h0 h1 => ?_⟩
    simp_arith []
    cases (r == 0) with
    | false => exact hQ cs ⟨by omega, j3⟩
    | true =>
      refine ⟨_, rfl, by decide, fun r h0 h1 => ?_⟩
      obtain ⟨c, hc, e⟩ := get_inS (s := signs) h0 h1
      simp_arith [e]
      have hl : ((List.replicate ((200 : Int) - (cs.length : Int)).toNat [c]).flatten).length = 200 - cs.length := by rw [rep_len, List.length_singleton, Nat.one_mul]; omega
      refine ⟨⟨by omega, by omega⟩, by omega, by rw [hl]; omega, hQ _ ⟨by rw [List.length_append, hl]; omega, fun x hx => ?_⟩⟩
      rcases List.mem_append.mp hx with hx | hx
      · obtain ⟨l, h1, h2⟩ := List.mem_flatten.mp hx
        rw [List.mem_replicate] at h1
        rw [h1.2, List.mem_singleton] at h2
        rw [h2]; exact hc
      · exact j3 x hx
  · rintro x xs acc ih H ⟨rfl, k1, k2⟩
    simp_arith []
    refine ⟨_, rfl, by decide, fun r h0 h1 => ?_⟩
    obtain ⟨c, hc, e⟩ := get_inS (s := signs) h0 h1
    simp_arith [e]
    refine ih _ _ ⟨rfl, fun d hd => ?_, by simp at k2 ⊢; omega⟩
    rcases List.mem_append.mp hd with hd | hd
    · exact k1 d hd
    · rw [List.mem_singleton] at hd; exact ⟨c, hd, hc⟩
/-! ### value -/
def spValue (n : Nat) : SpD := fun ds G Q _ => ∃ k a r, ds = [.rnd, enc k, .ref a] ∧ Wf k ∧ dp k ≤ n ∧ G a = some (.lst [.int r]) ∧ (0 ≤ r ∧ r ≤ 1000) ∧ ∀ v (m : Nat), OkV k v m → (m : Int) ≤ r → Q v (updD G a (.lst [.int (r - m)]))
def b_value (dr tx it vl : Nat) : Ss :=
 (.c (.ite (.cmp .eq (.idx (.var 1) (.con (.int 0))) (.con (.str sInt))) (.c (.ret (.call it (.c (.var 0) .n)))
 .n) .n)
 (.c (.ite (.cmp .eq (.idx (.var 1) (.con (.int 0))) (.con (.str sText))) (.c (.ret (.call tx (.c (.var 0) .n)))
 .n) .n)
 (.c (.ite (.cmp .eq (.idx (.var 1) (.con (.int 0))) (.con (.str sBool))) (.c (.ret (.cmp .eq (.call dr (.c (.var 0) (.c (.con (.int 2)) .n))) (.con (.int 1))))
 .n) .n)
 (.c (.ite (.cmp .eq (.idx (.var 1) (.con (.int 0))) (.con (.str sRec))) (.c (.ret (.bf true .tuple (.c (.lc true (.call vl (.c (.var 0) (.c (.idx (.var 4) (.con (.int 1))) (.c (.var 2) .n)))) (.n 4) (.of (.idx (.var 1) (.con (.int 1)))) .yes [("field", 4)]) .n)))
 .n) .n)
 (.c (.ite (.cmp .eq (.idx (.var 1) (.con (.int 0))) (.con (.str sOpt))) (.c (.ite (.cmp .eq (.call dr (.c (.var 0) (.c (.con (.int 3)) .n))) (.con (.int 0))) (.c (.ret (.con .non))
 .n) .n)
 (.c (.ret (.call vl (.c (.var 0) (.c (.idx (.var 1) (.con (.int 1))) (.c (.var 2) .n)))))
 .n)) .n)
 (.c (.set 3 (.bf true .min (.c (.idx (.var 2) (.con (.int 0))) (.c (.idx (.lst true (.c (.con (.int 0)) (.c (.con (.int 1)) (.c (.con (.int 1)) (.c (.con (.int 2)) (.c (.con (.int 2)) (.c (.con (.int 3)) (.c (.con (.int 5)) .n)))))))) (.call dr (.c (.var 0) (.c (.con (.int 7)) .n)))) .n))))
 (.c (.setI (.var 2) (.con (.int 0)) (.bin true .sub (.idx (.var 2) (.con (.int 0))) (.var 3)))
 (.c (.ret (.bf true .tuple (.c (.lc true (.call vl (.c (.var 0) (.c (.idx (.var 1) (.con (.int 1))) (.c (.var 2) .n)))) (.n 5) (.rng (.c (.var 3) .n)) .yes [("k", 5)]) .n)))
 .n))))))))
theorem okVs_app : ∀ {l : List (List Nat × Kd)} {vs : List D} {n : Nat} {p : List Nat × Kd} {v : D} {m : Nat}, OkVs (fsOf l) vs n → OkV p.2 v m → OkVs (fsOf (l ++ [p])) (vs ++ [v]) (n + m)
  | [], vs, n, p, v, m, h, hv => by
    simp only [fsOf, OkVs] at h
    subst h
    simp only [List.nil_append, fsOf, OkVs]
    exact ⟨v, [], m, n, rfl, by omega, hv, rfl⟩
  | q :: l, vs, n, p, v, m, h, hv => by
    simp only [fsOf, OkVs] at h
    obtain ⟨x, r, a, b, rfl, hab, h1, h2⟩ := h
    simp only [List.cons_append, fsOf, OkVs]
    exact ⟨x, r ++ [v], a, b + m, rfl, by omega, h1, okVs_app h2 hv⟩
theorem fsOf_toL : ∀ fs, fsOf (toL fs) = fs
  | .nil => rfl
  | .cons n k fs => by simp [toL, fsOf, fsOf_toL fs]
theorem value_ok {Γ : Gam} {dr tx it vl n : Nat} (h2 : Γ.sp dr = spDraw) (h3 : Γ.sp tx = spText) (h4 : Γ.sp it = spInt) (h5 : Γ.sp vl = spValue n) (ds : List D) (G : HD) (QD : KD) (XD : KX) (h : spValue (n + 1) ds G QD XD) :
    wSs Γ (b_value dr tx it vl) { nx := fun _ H => QD .non H, rt := QD, ex := fun x _ H => XD x H } (startD 6 ds) G := by
  obtain ⟨k, a, r, rfl, w, hn, ha, hr, hQ⟩ := h
  have hlim : lim = 16777216 := rfl
  have same : updD G a (.lst [.int (r - (0 : Nat))]) = G := by
    funext b
    unfold updD
    split
    · rename_i e; subst e; rw [ha]; simp
    · rfl
  cases k with
  | leaf k =>
    have hL : ∀ v, LeafV k v → QD v G := fun v hv => by
      have := hQ v 0 (by simp only [OkV]; exact hv) (by simp; exact hr.1)
      rwa [same] at this
    simp only [Wf, List.mem_cons, List.not_mem_nil, or_false] at w
    rcases w with rfl | rfl | rfl
    · simp_arith [b_value, h2, h3, h4, h5, enc, beq_self_eq_true]
      exact ⟨rfl, fun i hi => hL _ (.inl ⟨rfl, i, rfl, hi⟩)⟩
    · have e1 : (sText == sInt) = false := rfl
      simp_arith [b_value, h2, h3, h4, h5, enc, e1, beq_self_eq_true]
      exact ⟨rfl, fun i hi => hL _ (.inr (.inl ⟨rfl, i, rfl, hi⟩))⟩
    · have e1 : (sBool == sInt) = false := rfl
      have e2 : (sBool == sText) = false := rfl
      simp_arith [b_value, h2, h3, h4, h5, enc, e1, e2, beq_self_eq_true]
      exact ⟨_, rfl, by decide, fun q q0 q1 => hL _ (.inr (.inr ⟨rfl, _, rfl⟩))⟩
  | one o b =>
    simp only [Wf] at w
    simp only [dp] at hn
    cases o with
    | true =>
      have e1 : (sOne true == sInt) = false := rfl
      have e2 : (sOne true == sText) = false := rfl
      have e3 : (sOne true == sBool) = false := rfl
      have e4 : (sOne true == sRec) = false := rfl
      have e5 : (sOne true == sOpt) = true := rfl
      simp_arith [b_value, h2, h3, h4, h5, enc, e1, e2, e3, e4, e5]
      refine ⟨_, rfl, by decide, fun q q0 q1 => ?_⟩
      simp_arith []
      cases (q == 0) with
      | true =>
        have := hQ .non 0 (by simp only [OkV]; exact .inl trivial) (by simp; exact hr.1)
        rwa [same] at this
      | false => exact ⟨b, a, r, rfl, w.2, by omega, ha, hr, fun v m hv hm => hQ v m (by simp only [OkV]; exact .inr hv) hm⟩
    | false =>
      have e1 : (sOne false == sInt) = false := rfl
      have e2 : (sOne false == sText) = false := rfl
      have e3 : (sOne false == sBool) = false := rfl
      have e4 : (sOne false == sRec) = false := rfl
      have e5 : (sOne false == sOpt) = false := rfl
      simp_arith [b_value, h2, h3, h4, h5, enc, e1, e2, e3, e4, e5, ha]
      refine ⟨_, rfl, by decide, fun q q0 q1 => ?_⟩
      obtain ⟨d, hd, e⟩ := get_in (rows := [.int 0, .int 1, .int 1, .int 2, .int 2, .int 3, .int 5]) q0 q1
      have hm : ∃ m : Int, d = .int m ∧ 0 ≤ m ∧ m ≤ 5 := by
        simp only [List.mem_cons, List.not_mem_nil, or_false] at hd
        rcases hd with rfl | rfl | rfl | rfl | rfl | rfl | rfl <;> exact ⟨_, rfl, by decide, by decide⟩
      obtain ⟨c, rfl, c1, c2⟩ := hm
      simp_arith [e, ha, updD_same, updD_updD]
      have hc : 0 ≤ (if c < r then c else r) ∧ (if c < r then c else r) ≤ r ∧ (if c < r then c else r) ≤ 5 := by split <;> omega
      generalize (if c < r then c else r) = t at hc
      refine And.intro (by decide) ?_
      rw [q_rng1 ⟨by omega, by omega⟩, ok_some]
      refine And.intro (by show t.toNat ≤ lim; omega) ?_
      refine lcD_ind (fun xs acc H => ∃ ms : List Nat, acc.length = ms.length ∧ acc.length + xs.length = t.toNat ∧ H = updD G a (.lst [.int (r - t - (ms.sum : Nat))]) ∧ ((ms.sum : Nat) : Int) ≤ r - t ∧ ∀ (i : Nat) (x : D) (m : Nat), acc[i]? = some x → ms[i]? = some m → OkV b x m) ?_ ?_ _ _ _
        ⟨[], rfl, by show 0 + (rngF 1 t.toNat 0).length = _; rw [rngF_len, Nat.zero_add], by simp, by simp; omega, fun i x m h => by simp at h⟩
      · rintro acc H ⟨ms, k1, k2, rfl, k3, k4⟩
        have hl : acc.length = t.toNat := by simpa using k2
        have := hQ (.tup acc) (acc.length + ms.sum) (by simp only [OkV]; exact ⟨acc, ms, rfl, k1, Nat.le_refl _, k4⟩) (by omega)
        rw [show r - ((acc.length + ms.sum : Nat) : Int) = r - t - ((ms.sum : Nat) : Int) by omega] at this
        exact this
      · rintro x xs acc ih H ⟨ms, k1, k2, rfl, k3, k4⟩
        refine ⟨b, a, _, rfl, w.2, by omega, updD_same, ⟨by omega, by omega⟩, fun v m hv hm => ?_⟩
        rw [updD_updD]
        have es : (ms ++ [m]).sum = ms.sum + m := by rw [List.sum_append]; simp
        refine ih _ _ ⟨ms ++ [m], by simp [k1], by rw [List.length_append, List.length_singleton]; rw [List.length_cons] at k2; omega, by rw [es, show r - t - ((ms.sum : Nat) : Int) - (m : Int) = r - t - ((ms.sum + m : Nat) : Int) by omega], by rw [es]; omega, fun i y m' h1 h2 => ?_⟩
        by_cases hi : i < acc.length
        · rw [List.getElem?_append_left hi] at h1
          rw [List.getElem?_append_left (by omega)] at h2
          exact k4 i y m' h1 h2
        · have hi2 : i = acc.length := by
            have := (List.getElem?_eq_some_iff.mp h1).1
            simp at this; omega
          subst hi2
          rw [List.getElem?_append_right (Nat.le_refl _)] at h1
          rw [k1, List.getElem?_append_right (Nat.le_refl _)] at h2
          simp at h1 h2
          subst h1; subst h2
          exact hv
  | recd fs =>
    simp only [Wf] at w
    simp only [dp] at hn
    have e1 : (sRec == sInt) = false := rfl
    have e2 : (sRec == sText) = false := rfl
    have e3 : (sRec == sBool) = false := rfl
    simp_arith [b_value, h2, h3, h4, h5, enc, e1, e2, e3, beq_self_eq_true]
    refine lcD_ind (fun xs acc H => ∃ (l ls : List (List Nat × Kd)) (m : Nat), xs = ls.map enc1 ∧ toL fs = l ++ ls ∧ H = updD G a (.lst [.int (r - (m : Nat))]) ∧ (m : Int) ≤ r ∧ OkVs (fsOf l) acc m) ?_ ?_ _ _ _ ⟨[], toL fs, 0, encs_eq fs, rfl, same.symm, by simp; exact hr.1, by simp [fsOf, OkVs]⟩
    · rintro acc H ⟨l, ls, m, hx, hl, rfl, hm, ok1⟩
      have : ls = [] := by cases ls <;> first | rfl | cases hx
      subst this
      rw [List.append_nil] at hl
      refine hQ _ m ?_ hm
      simp only [OkV]
      rw [← hl, fsOf_toL] at ok1
      exact ⟨acc, rfl, ok1⟩
    · rintro x xs acc ih H ⟨l, ls, m, hx, hl, rfl, hm, ok1⟩
      cases ls with
      | nil => cases hx
      | cons p ls =>
        rw [List.map_cons] at hx
        injection hx with hx1 hx2
        subst hx1; subst hx2
        have hp : p ∈ toL fs := by rw [hl]; simp
        have d2 := dps_eq p hp
        simp_arith [enc1]
        refine ⟨p.2, a, r - m, rfl, (wfs_eq w.2 p hp).2, by omega, updD_same, ⟨by omega, by omega⟩, fun v k hv hk => ?_⟩
        rw [updD_updD, show r - (m : Int) - (k : Int) = r - ((m + k : Nat) : Int) by omega]
        exact ih _ _ ⟨l ++ [p], ls, m + k, rfl, by rw [hl]; simp, rfl, by omega, okVs_app ok1 hv⟩
end DL

namespace DL
open PySem PySem.Spec PyProof.Rows L2
/-! ## 22. A choice -/
end DL

namespace DL
open PySem PySem.Spec PyProof.Rows L2
/-! ## 23. _law_same, where live lists read as what is due -/
theorem dpos (k : Kd) : 1 ≤ dp k := by cases k <;> simp [dp]
theorem cut_pre_any {α : Type} {xs : List α} {k : Nat} : cutL xs none (some (k : Int)) = xs.take k := by
  unfold cutL
  rw [HT.sIx_none, HT.sIx_nat, List.drop_zero, Nat.sub_zero]
  by_cases h : k ≤ xs.length
  · rw [Nat.min_eq_left h]
  · rw [Nat.min_eq_right (by omega), List.take_of_length_le (Nat.le_refl _), List.take_of_length_le (by omega)]
end DL

namespace DL
open PySem PySem.Spec PyProof.Rows L2
/-! ## 24. Kinds, less strict; fitting -/
def isOneK : Kd → Bool
  | .one _ _ => true
  | _ => false
def isLst : Kd → Bool
  | .one false _ => true
  | _ => false
mutual
def WK : Kd → Prop
  | .leaf k => k ∈ [sInt, sText, sBool]
  | .one _ a => WK a
  | .recd fs => (fs ≠ .nil ∧ (toL fs).length ≤ 8) ∧ WKs fs
def WKs : Fs → Prop
  | .nil => True
  | .cons n k fs => Low n ∧ WK k ∧ WKs fs
end
mutual
theorem wk_of : ∀ k, Wf k → WK k
  | .leaf k, w => by simpa only [Wf, WK] using w
  | .one o a, w => by simp only [Wf] at w; simp only [WK]; exact wk_of a w.2
  | .recd fs, w => by simp only [Wf] at w; simp only [WK]; exact ⟨⟨w.1.1, w.1.2.2⟩, wks_of' fs w.2⟩
theorem wks_of' : ∀ fs, Wfs fs → WKs fs
  | .nil, _ => by simp only [WKs]
  | .cons n k fs, w => by simp only [Wfs] at w; simp only [WKs]; exact ⟨w.1, wk_of k w.2.1, wks_of' fs w.2.2⟩
end
theorem wks_eq : ∀ {fs}, WKs fs → ∀ p ∈ toL fs, Low p.1 ∧ WK p.2
  | .nil, _, _, h => nomatch h
  | .cons n k fs, w, p, h => by
    simp only [WKs] at w
    rcases List.mem_cons.mp h with rfl | h
    · exact ⟨w.1, w.2.1⟩
    · exact wks_eq w.2.2 p h
theorem wks_of : ∀ {l : List (List Nat × Kd)}, (∀ p ∈ l, Low p.1 ∧ WK p.2) → WKs (fsOf l)
  | [], _ => by simp [fsOf, WKs]
  | p :: r, h => by
    have h1 := h p List.mem_cons_self
    simp only [fsOf, WKs]
    exact ⟨h1.1, h1.2, wks_of fun q hq => h q (List.mem_cons_of_mem _ hq)⟩
theorem wk_leaf {k : List Nat} (w : WK (.leaf k)) : Wf (.leaf k) := by simpa only [Wf, WK] using w
theorem k_opt {k : List Nat} (w : WK (.leaf k)) : (k == sOpt) = false := by
  simp only [WK, List.mem_cons, List.not_mem_nil, or_false] at w
  rcases w with rfl | rfl | rfl <;> rfl
theorem k_list {k : List Nat} (w : WK (.leaf k)) : (k == sList) = false := by
  simp only [WK, List.mem_cons, List.not_mem_nil, or_false] at w
  rcases w with rfl | rfl | rfl <;> rfl
theorem k_rec {k : List Nat} (w : WK (.leaf k)) : (k == sRec) = false := leaf_nr (wk_leaf w)
theorem k_in2 {k : List Nat} (w : WK (.leaf k)) (G : HD) : inD (.str k) (.tup [.str sOpt, .str sList]) G = some false := by
  simp only [WK, List.mem_cons, List.not_mem_nil, or_false] at w
  rcases w with rfl | rfl | rfl <;> rfl
theorem k_in3 {k : List Nat} (w : WK (.leaf k)) (G : HD) : inD (.str k) (.tup [.str sInt, .str sText, .str sBool]) G = some true := leaf_in (wk_leaf w) G
theorem o_opt (o : Bool) : (sOne o == sOpt) = o := by cases o <;> rfl
theorem o_list (o : Bool) : (sOne o == sList) = !o := by cases o <;> rfl
theorem o_in2 (o : Bool) (G : HD) : inD (.str (sOne o)) (.tup [.str sOpt, .str sList]) G = some true := by cases o <;> rfl
theorem r_opt : (sRec == sOpt) = false := rfl
theorem r_list : (sRec == sList) = false := rfl
theorem r_rec : (sRec == sRec) = true := rfl
theorem r_in2 (G : HD) : inD (.str sRec) (.tup [.str sOpt, .str sList]) G = some false := rfl
/-- what stands at a kind's front -/
theorem wk_hd {k : Kd} (w : WK k) : (hd k == sOpt) = isOpt k ∧ (hd k == sList) = isLst k ∧ ∀ G, inD (.str (hd k)) (.tup [.str sOpt, .str sList]) G = some (isOneK k) := by
  cases k with
  | leaf k => exact ⟨k_opt w, k_list w, fun G => k_in2 w G⟩
  | one o a => cases o <;> exact ⟨rfl, rfl, fun G => rfl⟩
  | recd fs => exact ⟨rfl, rfl, fun G => rfl⟩
def fnd (n : List Nat) : List (List Nat × Kd) → Option Kd
  | [] => none
  | p :: r => if (p.1 == n) = true then some p.2 else fnd n r
theorem fnd_flt (n : List Nat) : ∀ l : List (List Nat × Kd), fnd n l = ((l.filter fun p => p.1 == n).map Prod.snd).head?
  | [] => rfl
  | p :: r => by
    by_cases h : (p.1 == n) = true
    · simp [fnd, h]
    · simp [fnd, h, fnd_flt n r]
theorem fnd_mem {n : List Nat} {k : Kd} : ∀ {l : List (List Nat × Kd)}, fnd n l = some k → (n, k) ∈ l
  | [], h => nomatch h
  | p :: r, h => by
    unfold fnd at h
    split at h
    · rename_i e
      rw [beq_iff_eq] at e
      cases h
      subst e
      exact List.mem_cons_self
    · exact List.mem_cons_of_mem _ (fnd_mem h)
theorem fnd_none {n : List Nat} : ∀ {l : List (List Nat × Kd)}, n ∉ l.map Prod.fst → fnd n l = none
  | [], _ => rfl
  | p :: r, h => by
    rw [List.map_cons, List.mem_cons, not_or] at h
    unfold fnd
    rw [if_neg (by rw [beq_iff_eq]; exact fun z => h.1 z.symm)]
    exact fnd_none h.2
theorem fnd_some : ∀ {l : List (List Nat × Kd)}, (l.map Prod.fst).Nodup → ∀ p ∈ l, fnd p.1 l = some p.2
  | [], _, _, h => nomatch h
  | q :: r, nd, p, h => by
    rw [List.map_cons, List.nodup_cons] at nd
    unfold fnd
    rcases List.mem_cons.mp h with rfl | h
    · rw [if_pos (by simp)]
    · rw [if_neg, fnd_some nd.2 p h]
      rw [beq_iff_eq]
      intro e
      exact nd.1 (List.mem_map.mpr ⟨p, h, e.symm⟩)
-- does t fit u?
mutual
def fit : Kd → Kd → Bool
  | .leaf k, t => match t with
    | .leaf k' => k' == k
    | _ => false
  | .one true b, t => fit b (match t with | .one true a => a | t => t)
  | .one false b, t => match t with
    | .one true a => !isLst a && fit b a
    | .one false a => fit b a
    | t => fit b t
  | .recd gs, t => match t with
    | .recd fs => fits gs (toL fs)
    | _ => false
def fits : Fs → List (List Nat × Kd) → Bool
  | .nil, _ => true
  | .cons n k gs, fs => (match fnd n fs with | some p => fit k p | none => isOneK k) && fits gs fs
end
def ff (fs : List (List Nat × Kd)) (q : List Nat × Kd) : Bool := match fnd q.1 fs with
  | some p => fit q.2 p
  | none => isOneK q.2
theorem fits_eq : ∀ gs fs, fits gs fs = (toL gs).all (ff fs)
  | .nil, _ => by simp [fits, toL]
  | .cons n k gs, fs => by simp only [fits, toL, List.all_cons, fits_eq gs fs]; rfl
mutual
theorem fit_refl : ∀ k, Wf k → fit k k = true
  | .leaf k, _ => by simp [fit]
  | .one true a, w => by simp only [Wf] at w; simp only [fit]; exact fit_refl a w.2
  | .one false a, w => by simp only [Wf] at w; simp only [fit]; exact fit_refl a w.2
  | .recd fs, w => by
    simp only [Wf] at w
    simp only [fit, fits_eq]
    rw [List.all_eq_true]
    intro p hp
    unfold ff
    rw [fnd_some w.1.2.1 p hp]
    exact fits_refl fs w.2 p hp
theorem fits_refl : ∀ fs, Wfs fs → ∀ p ∈ toL fs, fit p.2 p.2 = true
  | .nil, _, _, h => by simp [toL] at h
  | .cons n k fs, w, p, h => by
    simp only [Wfs] at w
    rcases List.mem_cons.mp h with rfl | h
    · exact fit_refl k w.2.1
    · exact fits_refl fs w.2.2 p h
end
mutual
theorem py_enc : ∀ k, ∃ x, py (enc k) = some x
  | .leaf k => by simp only [enc, py, pys]; exact ⟨_, rfl⟩
  | .one o a => by obtain ⟨x, e⟩ := py_enc a; simp only [enc, py, pys, e]; exact ⟨_, rfl⟩
  | .recd fs => by obtain ⟨x, e⟩ := py_encs fs; simp only [enc, py, pys, e]; exact ⟨_, rfl⟩
theorem py_encs : ∀ fs, ∃ x, pys (encs fs) = some x
  | .nil => by simp only [encs, pys]; exact ⟨_, rfl⟩
  | .cons n k fs => by
    obtain ⟨x, e⟩ := py_enc k
    obtain ⟨y, e2⟩ := py_encs fs
    simp only [encs, py, pys, e, e2]; exact ⟨_, rfl⟩
end
theorem eq_leaf (t : Kd) (k : List Nat) (G : HD) : eqD (enc t) (.tup [.str k]) G = some (fit (.leaf k) t) := by
  have d : ∀ x : PyData, min x.depth (PyData.tuple [PyData.str (mkStr k)]).depth ≤ 64 := fun x => Nat.le_trans (Nat.min_le_right _ _) (by simp [PyData.depth, PyData.depthAll])
  cases t with
  | leaf k' =>
    simp only [enc, fit]
    simp only [eqD, pyT, py, pys]
    rw [if_pos (d _)]
    simp [PyData.eqv, PyData.eqvAll, mkStr_eq]
  | one o a =>
    obtain ⟨x, e⟩ := py_enc a
    simp only [enc, fit]
    simp only [eqD, pyT, py, pys, e]
    rw [if_pos (d _)]
    simp [PyData.eqv, PyData.eqvAll]
  | recd fs =>
    obtain ⟨x, e⟩ := py_encs fs
    simp only [enc, fit]
    simp only [eqD, pyT, py, pys, e]
    rw [if_pos (d _)]
    simp [PyData.eqv, PyData.eqvAll]
/-! ### field_of, part -/
def b_field_of : Ss :=
 (.c (.ret (.lc true (.var 3) (.t [(.n 2), (.n 3)]) (.of (.idx (.var 0) (.con (.int 1)))) (.cmp .eq (.var 2) (.var 1)) [("one", 2), ("part", 3)]))
 .n)
def spFieldOf : SpD := fun ds G Q _ => ∃ fs n, ds = [enc (.recd fs), .str n] ∧ Q (.lst (((toL fs).filter fun p => p.1 == n).map fun p => enc p.2)) G
theorem field_of_ok {Γ : Gam} (ds : List D) (G : HD) (QD : KD) (XD : KX) (h : spFieldOf ds G QD XD) : wSs Γ b_field_of { nx := fun _ H => QD .non H, rt := QD, ex := fun x _ H => XD x H } (startD 4 ds) G := by
  obtain ⟨fs, n, rfl, hQ⟩ := h
  simp_arith [b_field_of, enc]
  refine lcD_ind (fun xs acc H => H = G ∧ ∃ l ls : List (List Nat × Kd), xs = ls.map enc1 ∧ toL fs = l ++ ls ∧ acc = (l.filter fun p => p.1 == n).map fun p => enc p.2) ?_ ?_ _ _ _ ⟨rfl, [], toL fs, encs_eq fs, rfl, rfl⟩
  · rintro acc H ⟨rfl, l, ls, hx, hl, rfl⟩
    have : ls = [] := by cases ls <;> first | rfl | cases hx
    subst this
    rw [List.append_nil] at hl
    rw [← hl]
    exact hQ
  · rintro x xs acc ih H ⟨rfl, l, ls, hx, hl, rfl⟩
    cases ls with
    | nil => cases hx
    | cons p ls =>
      rw [List.map_cons] at hx
      injection hx with hx1 hx2
      subst hx1; subst hx2
      simp_arith [enc1]
      cases e : (p.1 == n) with
      | false => exact ih _ _ ⟨rfl, l ++ [p], ls, rfl, by rw [hl]; simp, by simp [List.filter_append, e]⟩
      | true => exact ih _ _ ⟨rfl, l ++ [p], ls, rfl, by rw [hl]; simp, by simp [List.filter_append, e]⟩
def b_law_part : Ss :=
 (.c (.for_ (.n 2) (.of (.idx (.var 0) (.con (.int 1)))) (.c (.ite (.cmp .eq (.idx (.var 2) (.con (.int 0))) (.var 1)) (.c (.ret (.idx (.var 2) (.con (.int 1))))
 .n) .n)
 .n))
 (.c (.ret (.con .non))
 .n))
def spPart : SpD := fun ds G Q _ => ∃ fs n, ds = [enc (.recd fs), .str n] ∧ Q (match fnd n (toL fs) with | some k => enc k | none => .non) G
theorem part_ok {Γ : Gam} (ds : List D) (G : HD) (QD : KD) (XD : KX) (h : spPart ds G QD XD) : wSs Γ b_law_part { nx := fun _ H => QD .non H, rt := QD, ex := fun x _ H => XD x H } (startD 3 ds) G := by
  obtain ⟨fs, n, rfl, hQ⟩ := h
  simp_arith [b_law_part, enc]
  refine wFor_ind (fun xs σ H => H = G ∧ ∃ (ls : List (List Nat × Kd)) (o2 : Option D), xs = ls.map enc1 ∧ fnd n (toL fs) = fnd n ls ∧ σ = [some (.tup [.str sRec, .tup (encs fs)]), some (.str n), o2]) ?_ ?_ _ _ _ ⟨rfl, toL fs, none, encs_eq fs, rfl, rfl⟩
  · rintro σ H ⟨rfl, ls, o2, hx, hl, rfl⟩
    have : ls = [] := by cases ls <;> first | rfl | cases hx
    subst this
    rw [hl] at hQ
    exact hQ
  · rintro x xs ih σ H ⟨rfl, ls, o2, hx, hl, rfl⟩
    cases ls with
    | nil => cases hx
    | cons p ls =>
      rw [List.map_cons] at hx
      injection hx with hx1 hx2
      subst hx1; subst hx2
      simp_arith [enc1]
      cases e : (p.1 == n) with
      | false => exact ih _ _ ⟨rfl, ls, _, rfl, by rw [hl]; simp [fnd, e], rfl⟩
      | true =>
        have : fnd n (toL fs) = some p.2 := by rw [hl]; simp [fnd, e]
        rw [this] at hQ
        exact hQ
/-! ### does_fit -/
def spFit (n : Nat) : SpD := fun ds G Q _ => ∃ t u, ds = [enc t, enc u] ∧ WK t ∧ WK u ∧ dp u ≤ n ∧ Q (.bl (fit u t)) G
def spDff (n : Nat) : SpD := fun ds G Q _ => ∃ (ps : List Kd) (u : Kd), ds = [.lst (ps.map enc), enc u] ∧ (∀ p ∈ ps, WK p) ∧ WK u ∧ dp u ≤ n ∧ Q (.bl (match ps.head? with | some p => fit u p | none => isOneK u)) G
def b_does_fit (cdoes_fit cdoes_field_fit cfield_of gLEAVES : Nat) : Ss :=
 (.c (.ite (.cmp .inn (.idx (.var 1) (.con (.int 0))) (.glb gLEAVES)) (.c (.ret (.cmp .eq (.var 0) (.var 1)))
 .n) .n)
 (.c (.ite (.cmp .eq (.idx (.var 1) (.con (.int 0))) (.con (.str sOpt))) (.c (.ret (.call cdoes_fit (.c (.ife (.cmp .eq (.idx (.var 0) (.con (.int 0))) (.con (.str sOpt))) (.idx (.var 0) (.con (.int 1))) (.var 0)) (.c (.idx (.var 1) (.con (.int 1))) .n))))
 .n) .n)
 (.c (.ite (.cmp .eq (.idx (.var 1) (.con (.int 0))) (.con (.str sList))) (.c (.ite (.cmp .eq (.idx (.var 0) (.con (.int 0))) (.con (.str sOpt))) (.c (.ret (.boo true (.c (.cmp .ne (.idx (.idx (.var 0) (.con (.int 1))) (.con (.int 0))) (.con (.str sList))) (.c (.call cdoes_fit (.c (.idx (.var 0) (.con (.int 1))) (.c (.idx (.var 1) (.con (.int 1))) .n))) .n))))
 .n) .n)
 (.c (.ret (.call cdoes_fit (.c (.ife (.cmp .eq (.idx (.var 0) (.con (.int 0))) (.con (.str sList))) (.idx (.var 0) (.con (.int 1))) (.var 0)) (.c (.idx (.var 1) (.con (.int 1))) .n))))
 .n)) .n)
 (.c (.ret (.boo true (.c (.cmp .eq (.idx (.var 0) (.con (.int 0))) (.con (.str sRec))) (.c (.bf true .all (.c (.lc true (.call cdoes_field_fit (.c (.call cfield_of (.c (.var 0) (.c (.var 2) .n))) (.c (.var 3) .n))) (.t [(.n 2), (.n 3)]) (.of (.idx (.var 1) (.con (.int 1)))) .yes [("name", 2), ("part", 3)]) .n)) .n))))
 .n))))
def b_does_field_fit (cdoes_fit : Nat) : Ss :=
 (.c (.ret (.ife (.of (.var 0)) (.call cdoes_fit (.c (.idx (.var 0) (.con (.int 0))) (.c (.var 1) .n))) (.cmp .inn (.idx (.var 1) (.con (.int 0))) (.tup (.c (.con (.str sOpt)) (.c (.con (.str sList)) .n))))))
 .n)
theorem dff_ok {Γ : Gam} {df n : Nat} (h1 : Γ.sp df = spFit n) (ds : List D) (G : HD) (QD : KD) (XD : KX) (h : spDff n ds G QD XD) : wSs Γ (b_does_field_fit df) { nx := fun _ H => QD .non H, rt := QD, ex := fun x _ H => XD x H } (startD 2 ds) G := by
  obtain ⟨ps, u, rfl, hp, hu, hd', hQ⟩ := h
  obtain ⟨r, e⟩ := enc_hd u
  cases ps with
  | nil =>
    have e2 := (wk_hd hu).2.2 G
    simp_arith [b_does_field_fit, h1, e, bne_self_eq_false, e2]
    exact hQ
  | cons p ps =>
    have e0 : ((ps.length + 1) != 0) = true := by simp
    simp_arith [b_does_field_fit, h1, e0, List.length_map]
    exact ⟨p, u, rfl, hp p List.mem_cons_self, hu, hd', hQ⟩
theorem does_fit_ok {Γ : Gam} {df dff fo gl n : Nat} (h1 : Γ.sp df = spFit n) (h2 : Γ.sp dff = spDff n) (h3 : Γ.sp fo = spFieldOf) (hg : Γ.gl gl = .tup [.str sInt, .str sText, .str sBool]) (ds : List D) (G : HD) (QD : KD) (XD : KX) (h : spFit (n + 1) ds G QD XD) :
    wSs Γ (b_does_fit df dff fo gl) { nx := fun _ H => QD .non H, rt := QD, ex := fun x _ H => XD x H } (startD 4 ds) G := by
  obtain ⟨t, u, rfl, wt, wu, hn, hQ⟩ := h
  cases u with
  | leaf k =>
    simp_arith [b_does_fit, h1, h2, h3, hg, enc, k_in3 wu, eq_leaf]
    exact hQ
  | one o b =>
    simp only [dp] at hn
    cases o with
    | true =>
      cases t with
      | leaf k =>
        simp_arith [b_does_fit, h1, h2, h3, hg, enc, one_in, o_opt, k_opt wt]
        exact ⟨.leaf k, b, by simp only [enc], wt, by simpa only [WK] using wu, by omega, by simpa only [fit] using hQ⟩
      | one o' a =>
        cases o' with
        | true =>
          simp_arith [b_does_fit, h1, h2, h3, hg, enc, one_in, o_opt]
          exact ⟨a, b, rfl, by simpa only [WK] using wt, by simpa only [WK] using wu, by omega, by simpa only [fit] using hQ⟩
        | false =>
          simp_arith [b_does_fit, h1, h2, h3, hg, enc, one_in, o_opt]
          exact ⟨.one false a, b, by simp only [enc], wt, by simpa only [WK] using wu, by omega, by simpa only [fit] using hQ⟩
      | recd fs =>
        simp_arith [b_does_fit, h1, h2, h3, hg, enc, one_in, o_opt, r_opt]
        exact ⟨.recd fs, b, by simp only [enc], wt, by simpa only [WK] using wu, by omega, by simpa only [fit] using hQ⟩
    | false =>
      cases t with
      | leaf k =>
        simp_arith [b_does_fit, h1, h2, h3, hg, enc, one_in, o_opt, o_list, k_opt wt, k_list wt]
        exact ⟨.leaf k, b, by simp only [enc], wt, by simpa only [WK] using wu, by omega, by simpa only [fit] using hQ⟩
      | one o' a =>
        cases o' with
        | true =>
          have wa : WK a := by simpa only [WK] using wt
          obtain ⟨r, e⟩ := enc_hd a
          have e2 := (wk_hd wa).2.1
          have hQ : QD (.bl (!isLst a && fit b a)) G := by simpa only [fit] using hQ
          simp_arith [b_does_fit, h1, h2, h3, hg, enc, one_in, o_opt, o_list]
          rw [e]
          simp_arith [e2]
          cases h9 : isLst a with
          | true => rw [h9] at hQ; exact hQ
          | false =>
            rw [h9] at hQ
            exact ⟨a, b, by rw [e], wa, by simpa only [WK] using wu, by omega, hQ⟩
        | false =>
          simp_arith [b_does_fit, h1, h2, h3, hg, enc, one_in, o_opt, o_list]
          exact ⟨a, b, rfl, by simpa only [WK] using wt, by simpa only [WK] using wu, by omega, by simpa only [fit] using hQ⟩
      | recd fs =>
        simp_arith [b_does_fit, h1, h2, h3, hg, enc, one_in, o_opt, o_list, r_opt, r_list]
        exact ⟨.recd fs, b, by simp only [enc], wt, by simpa only [WK] using wu, by omega, by simpa only [fit] using hQ⟩
  | recd gs =>
    simp only [dp] at hn
    simp only [WK] at wu
    cases t with
    | leaf k =>
      simp_arith [b_does_fit, h1, h2, h3, hg, enc, rec_in, r_opt, r_list, k_rec wt]
      simpa only [fit] using hQ
    | one o' a =>
      simp_arith [b_does_fit, h1, h2, h3, hg, enc, rec_in, r_opt, r_list, one_nr]
      simpa only [fit] using hQ
    | recd fs =>
      simp only [WK] at wt
      simp only [fit, fits_eq] at hQ
      simp_arith [b_does_fit, h1, h2, h3, hg, enc, rec_in, r_opt, r_list, r_rec]
      refine lcD_ind (fun xs acc H => H = G ∧ ∃ l ls : List (List Nat × Kd), xs = ls.map enc1 ∧ toL gs = l ++ ls ∧ acc = (l.map (ff (toL fs))).map D.bl) ?_ ?_ _ _ _ ⟨rfl, [], toL gs, encs_eq gs, rfl, rfl⟩
      · rintro acc H ⟨rfl, l, ls, hx, hl, rfl⟩
        have : ls = [] := by cases ls <;> first | rfl | cases hx
        subst this
        rw [List.append_nil] at hl
        have e : ∀ bs : List Bool, blsOf (bs.map D.bl) = some bs := by
          intro bs
          induction bs with
          | nil => rfl
          | cons b bs ih => show (blsOf (bs.map D.bl)).map (b :: ·) = _; rw [ih]; rfl
        rw [e, ok_some, List.all_map]
        rw [hl] at hQ
        exact hQ
      · rintro x xs acc ih H ⟨rfl, l, ls, hx, hl, rfl⟩
        cases ls with
        | nil => cases hx
        | cons p ls =>
          rw [List.map_cons] at hx
          injection hx with hx1 hx2
          subst hx1; subst hx2
          have hp : p ∈ toL gs := by rw [hl]; simp
          have d2 := dps_eq p hp
          simp_arith [enc1]
          refine ⟨fs, p.1, by simp only [enc], ?_⟩
          refine ⟨((toL fs).filter fun q => q.1 == p.1).map Prod.snd, p.2, by rw [List.map_map]; rfl, fun q hq => ?_, (wks_eq wu.2 p hp).2, by omega, ?_⟩
          · obtain ⟨z, hz, rfl⟩ := List.mem_map.mp hq
            exact (wks_eq wt.2 z (List.mem_filter.mp hz).1).2
          · rw [← fnd_flt]
            refine ih _ _ ⟨rfl, l ++ [p], ls, rfl, by rw [hl]; simp, ?_⟩
            rw [List.map_append, List.map_append]
            rfl
/-! ### the law's own -/
def b_law_fits (l_fits l_part : Nat) : Ss :=
 (.c (.ite (.cmp .inn (.idx (.var 1) (.con (.int 0))) (.tup (.c (.con (.str sInt)) (.c (.con (.str sText)) (.c (.con (.str sBool)) .n))))) (.c (.ret (.cmp .eq (.idx (.var 0) (.con (.int 0))) (.idx (.var 1) (.con (.int 0)))))
 .n) .n)
 (.c (.ite (.cmp .eq (.idx (.var 1) (.con (.int 0))) (.con (.str sOpt))) (.c (.ite (.cmp .eq (.idx (.var 0) (.con (.int 0))) (.con (.str sOpt))) (.c (.ret (.call l_fits (.c (.idx (.var 0) (.con (.int 1))) (.c (.idx (.var 1) (.con (.int 1))) .n))))
 .n) .n)
 (.c (.ret (.call l_fits (.c (.var 0) (.c (.idx (.var 1) (.con (.int 1))) .n))))
 .n)) .n)
 (.c (.ite (.cmp .eq (.idx (.var 1) (.con (.int 0))) (.con (.str sList))) (.c (.ite (.cmp .eq (.idx (.var 0) (.con (.int 0))) (.con (.str sList))) (.c (.ret (.call l_fits (.c (.idx (.var 0) (.con (.int 1))) (.c (.idx (.var 1) (.con (.int 1))) .n))))
 .n) .n)
 (.c (.ite (.cmp .eq (.idx (.var 0) (.con (.int 0))) (.con (.str sOpt))) (.c (.ret (.boo true (.c (.cmp .ne (.idx (.idx (.var 0) (.con (.int 1))) (.con (.int 0))) (.con (.str sList))) (.c (.call l_fits (.c (.idx (.var 0) (.con (.int 1))) (.c (.idx (.var 1) (.con (.int 1))) .n))) .n))))
 .n) .n)
 (.c (.ret (.call l_fits (.c (.var 0) (.c (.idx (.var 1) (.con (.int 1))) .n))))
 .n))) .n)
 (.c (.ite (.cmp .ne (.idx (.var 0) (.con (.int 0))) (.con (.str sRec))) (.c (.ret (.con (.bl false)))
 .n) .n)
 (.c (.for_ (.n 2) (.of (.idx (.var 1) (.con (.int 1)))) (.c (.set 3 (.call l_part (.c (.var 0) (.c (.idx (.var 2) (.con (.int 0))) .n))))
 (.c (.ite (.bo true (.c (.cmp .isn (.var 3) (.con .non)) (.c (.cmp .nin (.idx (.idx (.var 2) (.con (.int 1))) (.con (.int 0))) (.tup (.c (.con (.str sOpt)) (.c (.con (.str sList)) .n)))) .n))) (.c (.ret (.con (.bl false)))
 .n) .n)
 (.c (.ite (.bo true (.c (.cmp .nisn (.var 3) (.con .non)) (.c (.nt (.of (.call l_fits (.c (.var 3) (.c (.idx (.var 2) (.con (.int 1))) .n))))) .n))) (.c (.ret (.con (.bl false)))
 .n) .n)
 .n))))
 (.c (.ret (.con (.bl true)))
 .n))))))
theorem fits_ok {Γ : Gam} {lf lp n : Nat} (h1 : Γ.sp lf = spFit n) (h2 : Γ.sp lp = spPart) (ds : List D) (G : HD) (QD : KD) (XD : KX) (h : spFit (n + 1) ds G QD XD) :
    wSs Γ (b_law_fits lf lp) { nx := fun _ H => QD .non H, rt := QD, ex := fun x _ H => XD x H } (startD 4 ds) G := by
  obtain ⟨t, u, rfl, wt, wu, hn, hQ⟩ := h
  cases u with
  | leaf k =>
    obtain ⟨r, e⟩ := enc_hd t
    have e2 : (hd t == k) = fit (.leaf k) t := by
      cases t with
      | leaf k' => simp only [fit, hd]
      | one o a =>
        simp only [fit, hd]
        simp only [WK, List.mem_cons, List.not_mem_nil, or_false] at wu
        rcases wu with rfl | rfl | rfl <;> cases o <;> rfl
      | recd fs =>
        simp only [fit, hd]
        simp only [WK, List.mem_cons, List.not_mem_nil, or_false] at wu
        rcases wu with rfl | rfl | rfl <;> rfl
    rw [e]
    simp_arith [b_law_fits, h1, h2, enc, k_in3 wu, e2]
    exact hQ
  | one o b =>
    simp only [dp] at hn
    cases o with
    | true =>
      cases t with
      | leaf k =>
        simp_arith [b_law_fits, h1, h2, enc, one_in, o_opt, k_opt wt]
        exact ⟨.leaf k, b, by simp only [enc], wt, by simpa only [WK] using wu, by omega, by simpa only [fit] using hQ⟩
      | one o' a =>
        cases o' with
        | true =>
          simp_arith [b_law_fits, h1, h2, enc, one_in, o_opt]
          exact ⟨a, b, rfl, by simpa only [WK] using wt, by simpa only [WK] using wu, by omega, by simpa only [fit] using hQ⟩
        | false =>
          simp_arith [b_law_fits, h1, h2, enc, one_in, o_opt]
          exact ⟨.one false a, b, by simp only [enc], wt, by simpa only [WK] using wu, by omega, by simpa only [fit] using hQ⟩
      | recd fs =>
        simp_arith [b_law_fits, h1, h2, enc, one_in, o_opt, r_opt]
        exact ⟨.recd fs, b, by simp only [enc], wt, by simpa only [WK] using wu, by omega, by simpa only [fit] using hQ⟩
    | false =>
      cases t with
      | leaf k =>
        simp_arith [b_law_fits, h1, h2, enc, one_in, o_opt, o_list, k_opt wt, k_list wt]
        exact ⟨.leaf k, b, by simp only [enc], wt, by simpa only [WK] using wu, by omega, by simpa only [fit] using hQ⟩
      | one o' a =>
        cases o' with
        | true =>
          have wa : WK a := by simpa only [WK] using wt
          obtain ⟨r, e⟩ := enc_hd a
          have e2 := (wk_hd wa).2.1
          have hQ : QD (.bl (!isLst a && fit b a)) G := by simpa only [fit] using hQ
          simp_arith [b_law_fits, h1, h2, enc, one_in, o_opt, o_list]
          rw [e]
          simp_arith [e2]
          cases h9 : isLst a with
          | true => rw [h9] at hQ; exact hQ
          | false =>
            rw [h9] at hQ
            exact ⟨a, b, by rw [e], wa, by simpa only [WK] using wu, by omega, hQ⟩
        | false =>
          simp_arith [b_law_fits, h1, h2, enc, one_in, o_opt, o_list]
          exact ⟨a, b, rfl, by simpa only [WK] using wt, by simpa only [WK] using wu, by omega, by simpa only [fit] using hQ⟩
      | recd fs =>
        simp_arith [b_law_fits, h1, h2, enc, one_in, o_opt, o_list, r_opt, r_list]
        exact ⟨.recd fs, b, by simp only [enc], wt, by simpa only [WK] using wu, by omega, by simpa only [fit] using hQ⟩
  | recd gs =>
    simp only [dp] at hn
    simp only [WK] at wu
    cases t with
    | leaf k =>
      simp_arith [b_law_fits, h1, h2, enc, rec_in, r_opt, r_list, k_rec wt]
      simpa only [fit] using hQ
    | one o' a =>
      simp_arith [b_law_fits, h1, h2, enc, rec_in, r_opt, r_list, one_nr]
      simpa only [fit] using hQ
    | recd fs =>
      simp only [WK] at wt
      simp only [fit, fits_eq] at hQ
      simp_arith [b_law_fits, h1, h2, enc, rec_in, r_opt, r_list, r_rec]
      refine wFor_ind (fun xs σ H => H = G ∧ ∃ (l ls : List (List Nat × Kd)) (o2 o3 : Option D), xs = ls.map enc1 ∧ toL gs = l ++ ls ∧ (l.all (ff (toL fs)) = true) ∧ σ = [some (.tup [.str sRec, .tup (encs fs)]), some (.tup [.str sRec, .tup (encs gs)]), o2, o3]) ?_ ?_ _ _ _ ⟨rfl, [], toL gs, none, none, encs_eq gs, rfl, rfl, rfl⟩
      · rintro σ H ⟨rfl, l, ls, o2, o3, hx, hl, ha, rfl⟩
        have : ls = [] := by cases ls <;> first | rfl | cases hx
        subst this
        rw [List.append_nil] at hl
        rw [hl, ha] at hQ
        exact hQ
      · rintro x xs ih σ H ⟨rfl, l, ls, o2, o3, hx, hl, ha, rfl⟩
        cases ls with
        | nil => cases hx
        | cons p ls =>
          rw [List.map_cons] at hx
          injection hx with hx1 hx2
          subst hx1; subst hx2
          have hp : p ∈ toL gs := by rw [hl]; simp
          have d2 := dps_eq p hp
          have wp := (wks_eq wu.2 p hp).2
          have hb : ff (toL fs) p = false → QD (.bl false) H := fun z => by
            rw [hl, List.all_append, ha, List.all_cons, z] at hQ
            simpa using hQ
          have hc : ff (toL fs) p = true → (l ++ [p]).all (ff (toL fs)) = true := fun z => by rw [List.all_append, ha, List.all_cons, z]; rfl
          simp_arith [enc1]
          refine ⟨fs, p.1, by simp only [enc], ?_⟩
          unfold ff at hb hc
          cases e : fnd p.1 (toL fs) with
          | none =>
            rw [e] at hb hc
            obtain ⟨r, e1⟩ := enc_hd p.2
            have e2 := (wk_hd wp).2.2 H
            rw [e1]
            simp_arith [e2]
            cases e3 : isOneK p.2 with
            | true => exact ih _ _ ⟨rfl, l ++ [p], ls, _, _, rfl, by rw [hl]; simp, hc e3, rfl⟩
            | false => exact hb e3
          | some q =>
            rw [e] at hb hc
            have wq := (wks_eq wt.2 _ (fnd_mem e)).2
            obtain ⟨r, e1⟩ := enc_hd q
            simp only
            rw [e1]
            simp_arith []
            refine ⟨q, p.2, by rw [e1], wq, wp, by omega, ?_⟩
            simp_arith []
            cases e3 : fit p.2 q with
            | true => exact ih _ _ ⟨rfl, l ++ [p], ls, _, _, rfl, by rw [hl]; simp, hc e3, rfl⟩
            | false => exact hb e3
end DL

namespace DL
open PySem PySem.Spec PyProof.Rows L2
/-! ## 25. Schemas that grow -/
theorem bls_map : ∀ bs : List Bool, blsOf (bs.map D.bl) = some bs
  | [] => rfl
  | b :: bs => by show (blsOf (bs.map D.bl)).map (b :: ·) = _; rw [bls_map bs]; rfl
/-! ### is it a schema? -/
/-! ### growing -/
def spWr : SpD := fun ds G Q _ => ∃ t u, ds = [.rnd, enc t, enc u] ∧ WK t ∧ WK u ∧ Q (enc u) G ∧ (isOpt u = false → isOpt t = false → Q (enc (.one true u)) G) ∧ (isOneK t = false → isOneK u = false → Q (enc (.one false u)) G)
def b_law_wrapped0 (l_draw : Nat) : Ss :=
 (.c (.set 3 (.call l_draw (.c (.var 0) (.c (.con (.int 9)) .n))))
 (.c (.ite (.bo true (.c (.cmp .eq (.var 3) (.con (.int 0))) (.c (.cmp .ne (.idx (.var 2) (.con (.int 0))) (.con (.str sOpt))) (.c (.cmp .ne (.idx (.var 1) (.con (.int 0))) (.con (.str sOpt))) .n)))) (.c (.ret (.tup (.c (.con (.str sOpt)) (.c (.var 2) .n))))
 .n) .n)
 (.c (.ite (.bo true (.c (.cmp .eq (.var 3) (.con (.int 1))) (.c (.cmp .nin (.idx (.var 1) (.con (.int 0))) (.tup (.c (.con (.str sOpt)) (.c (.con (.str sList)) .n)))) (.c (.cmp .nin (.idx (.var 2) (.con (.int 0))) (.tup (.c (.con (.str sOpt)) (.c (.con (.str sList)) .n)))) .n)))) (.c (.ret (.tup (.c (.con (.str sList)) (.c (.var 2) .n))))
 .n) .n)
 (.c (.ret (.var 2))
 .n))))
theorem wrapped_ok {Γ : Gam} {dr : Nat} (h1 : Γ.sp dr = spDraw) (ds : List D) (G : HD) (QD : KD) (XD : KX) (h : spWr ds G QD XD) :
    wSs Γ (b_law_wrapped0 dr) { nx := fun _ H => QD .non H, rt := QD, ex := fun x _ H => XD x H } (startD 4 ds) G := by
  obtain ⟨t, u, rfl, wt, wu, q1, q2, q3⟩ := h
  obtain ⟨rt, et⟩ := enc_hd t
  obtain ⟨ru, eu⟩ := enc_hd u
  simp only [enc] at q2 q3
  rw [eu] at q1 q2 q3
  rw [et, eu]
  simp_arith [b_law_wrapped0, h1]
  refine ⟨_, rfl, by decide, fun r h0 h1 => ?_⟩
  simp_arith [(wk_hd wt).1, (wk_hd wu).1, (wk_hd wt).2.2, (wk_hd wu).2.2]
  have rest : wSs Γ (.c (.ite (.bo true (.c (.cmp .eq (.var 3) (.con (.int 1))) (.c (.cmp .nin (.idx (.var 1) (.con (.int 0))) (.tup (.c (.con (.str sOpt)) (.c (.con (.str sList)) .n)))) (.c (.cmp .nin (.idx (.var 2) (.con (.int 0))) (.tup (.c (.con (.str sOpt)) (.c (.con (.str sList)) .n)))) .n)))) (.c (.ret (.tup (.c (.con (.str sList)) (.c (.var 2) .n)))) .n) .n) (.c (.ret (.var 2)) .n)) { nx := fun _ H => QD .non H, rt := QD, ex := fun x _ H => XD x H } [some .rnd, some (.tup (.str (hd t) :: rt)), some (.tup (.str (hd u) :: ru)), some (.int r)] G := by
    simp_arith [(wk_hd wt).2.2, (wk_hd wu).2.2]
    cases (r == 1) with
    | false => exact q1
    | true =>
      simp_arith [(wk_hd wt).2.2, (wk_hd wu).2.2]
      cases a1 : isOneK t with
      | true => exact q1
      | false =>
        simp_arith [(wk_hd wu).2.2]
        cases a2 : isOneK u with
        | true => exact q1
        | false => exact q3 a1 a2
  simp -implicitDefEqProofs only [Gam.isb, ok_some, ok_none, newL_t, newL_f, isTy, wipeD, isNo, wPart, wE, wEs, wBo, wT, wTs, wI, wSU, offD, onD, wS, wSs, startD, c_getD0, c_getDS, c_set0, c_setS, c_lenC, c_lenN, c_mapC, c_mapN, c_get0, c_getS, c_appC, c_appN, c_repS, c_rep0, c_anyC, c_anyN, c_decT, c_decF, c_orF, c_orT, c_Tor, c_For, c_nT, c_nF, c_Tand, c_andT, c_decE, c_oms, c_ifT, c_ifF, c_fT, q_add_ii, q_add_ss, q_add_tt, q_add_l, q_add_r, q_sub, q_mul, q_mul_l, q_mul_s, q_fdiv, q_mod, q_pow, q_xor, q_bor, q_band, q_seqH_l, q_seqH_r, q_seq_l, q_seq_s, q_seq_r, q_seq_t, q_itm_t, q_itm_l, q_itm_s, q_itm_r, q_len_str, q_len_t, q_len_l, q_len_s, q_len_r, q_tr_n, q_tr_b, q_tr_i, q_tr_str, q_tr_t, q_tr_l, q_tr_s, q_tr_r, q_eq, q_ne, q_lt, q_le, q_gt, q_ge, q_inn, q_ind, q_nind, q_nin, q_is_n, q_is_b, q_is_i, q_is_str, q_is_t, q_is_l, q_is_r, q_is_bb, q_ns_bb, q_ns_n, q_ns_b, q_ns_i, q_ns_str, q_ns_t, q_ns_l, q_ns_r, q_eq_ii, q_eq_ss, q_eq_bb, q_eq_nn, q_idx_t, q_idx_l, q_idx_s, q_idx_str, q_idx_r, at_0, at_1, at_2, at_3, at_4, at_5, q_bf_len, q_bf_abs, q_bf_int, q_bf_intb, q_bf_bool, q_bf_tup, q_imT_t, q_imT_l, q_imT_s, q_imT_r, q_itm_p, q_len_p, q_idx_p, q_walk_p, q_asg_p, q_bf_lst, q_bf_all, q_bf_any, q_bf_allT, q_bf_min2, q_bf_max2, q_bf_sum, q_bf_ord, q_ty_n, q_ty_b, q_ty_i, q_ty_str, q_ty_t, q_ty_l, q_ty_s, q_ty_r, q_app, q_ext, q_pop, q_popI, q_join, q_rcv_app, q_rcv_ext, q_rcv_pop, q_rcv_join, q_rcv_sidx, q_rcv_scnt, q_rcv_tcnt, q_tcnt, q_rcv_idxD, q_idxD, q_rcv_sfnd, q_sidx, q_scnt, q_sfnd, q_sl_str, q_sl_t, q_sl_l, q_sl_r, q_sl_s, q_frz_r, q_frz_l, q_frz_str, q_frz_t, q_frz_b, q_frz_n, q_frz_i, q_walk_t, q_walk_l, q_walk_s, q_walk_str, q_fix_t, q_fix_l, q_asg_n, q_asg_t, q_asgs_n, q_asgs_c, q_rg_t, q_rg_f, Nat.reduceAdd, Nat.reduceSub, reduceCtorEq, Int.reduceToNat, Int.reduceLT, Int.reduceLE, Int.reduceNeg, (wk_hd wt).2.2, (wk_hd wu).2.2] at rest
  cases (r == 0) with
  | false => exact rest
  | true =>
    simp_arith [(wk_hd wt).1, (wk_hd wu).1]
    cases a1 : isOpt u with
    | true => exact rest
    | false =>
      simp_arith [(wk_hd wt).1]
      cases a2 : isOpt t with
      | true => exact rest
      | false => exact q2 a1 a2
def Bd (t : Kd) : Nat := 2 * dp t + 9
def spNext (n : Nat) : SpD := fun ds G Q _ => ∃ t i, ds = [.rnd, enc t, .int i] ∧ Wf t ∧ dp t ≤ n ∧ ∀ u, WK u → dp u ≤ Bd t → fit u t = true → Q (enc u) G
def spNextR (n : Nat) : SpD := fun ds G Q _ => ∃ fs i pool, ds = [.rnd, enc (.recd fs), .int i, .lst pool] ∧ Wf (.recd fs) ∧ (dps fs ≤ n ∧ 0 < n) ∧ pool.length < 1000 ∧ (∀ u ∈ pool, ∃ s, u = .str s ∧ Low s) ∧
  ∀ gs, WK (.recd gs) → dp (.recd gs) + 1 ≤ Bd (.recd fs) → fit (.recd gs) (.recd fs) = true → Q (enc (.recd gs)) G
def b_law_next (l_wrapped l_next l_draw l_next_record : Nat) : Ss :=
 (.c (.ite (.cmp .inn (.idx (.var 1) (.con (.int 0))) (.tup (.c (.con (.str sInt)) (.c (.con (.str sText)) (.c (.con (.str sBool)) .n))))) (.c (.ret (.call l_wrapped (.c (.var 0) (.c (.var 1) (.c (.var 1) .n)))))
 .n) .n)
 (.c (.ite (.cmp .eq (.idx (.var 1) (.con (.int 0))) (.con (.str sList))) (.c (.ret (.call l_wrapped (.c (.var 0) (.c (.var 1) (.c (.tup (.c (.con (.str sList)) (.c (.call l_next (.c (.var 0) (.c (.idx (.var 1) (.con (.int 1))) (.c (.bin true .sub (.var 2) (.con (.int 1))) .n)))) .n))) .n)))))
 .n) .n)
 (.c (.ite (.cmp .eq (.idx (.var 1) (.con (.int 0))) (.con (.str sOpt))) (.c (.set 3 (.call l_next (.c (.var 0) (.c (.idx (.var 1) (.con (.int 1))) (.c (.bin true .sub (.var 2) (.con (.int 1))) .n)))))
 (.c (.ite (.bo true (.c (.cmp .ne (.idx (.idx (.var 1) (.con (.int 1))) (.con (.int 0))) (.con (.str sList))) (.c (.cmp .eq (.call l_draw (.c (.var 0) (.c (.con (.int 4)) .n))) (.con (.int 0))) .n))) (.c (.ret (.tup (.c (.con (.str sList)) (.c (.var 3) .n))))
 .n) .n)
 (.c (.ite (.cmp .eq (.idx (.var 3) (.con (.int 0))) (.con (.str sOpt))) (.c (.ret (.var 3))
 .n) .n)
 (.c (.ret (.tup (.c (.con (.str sOpt)) (.c (.var 3) .n))))
 .n)))) .n)
 (.c (.ret (.call l_wrapped (.c (.var 0) (.c (.var 1) (.c (.call l_next_record (.c (.var 0) (.c (.var 1) (.c (.var 2) (.c (.lst true .n) .n))))) .n)))))
 .n))))
theorem next_ok {Γ : Gam} {wr nx dr nr n : Nat} (h1 : Γ.sp wr = spWr) (h2 : Γ.sp nx = spNext n) (h3 : Γ.sp dr = spDraw) (h4 : Γ.sp nr = spNextR n) (ds : List D) (G : HD) (QD : KD) (XD : KX) (h : spNext (n + 1) ds G QD XD) :
    wSs Γ (b_law_next wr nx dr nr) { nx := fun _ H => QD .non H, rt := QD, ex := fun x _ H => XD x H } (startD 4 ds) G := by
  obtain ⟨t, i, rfl, wt, hn, hQ⟩ := h
  cases t with
  | leaf k =>
    simp_arith [b_law_next, h1, h2, h3, h4, enc, leaf_in wt]
    have f0 : fit (.leaf k) (.leaf k) = true := by simp [fit]
    refine ⟨.leaf k, .leaf k, by simp only [enc], wk_of _ wt, wk_of _ wt, hQ _ (wk_of _ wt) (by simp [Bd, dp]) f0, fun _ _ => hQ _ (by simp only [WK]; exact wk_of _ wt) (by simp [Bd, dp]) ?_, fun _ _ => hQ _ (by simp only [WK]; exact wk_of _ wt) (by simp [Bd, dp]) ?_⟩
    · simpa only [fit] using f0
    · simpa only [fit] using f0
  | one o a =>
    simp only [dp] at hn
    simp only [Wf] at wt
    have wt' : WK (.one o a) := by simp only [WK]; exact wk_of _ wt.2
    cases o with
    | false =>
      simp_arith [b_law_next, h1, h2, h3, h4, enc, one_in, o_list]
      refine ⟨a, _, rfl, wt.2, by omega, fun u wu bu fu => ?_⟩
      simp_arith []
      refine ⟨.one false a, .one false u, by simp only [enc]; rfl, wt', by simpa only [WK] using wu, hQ _ (by simpa only [WK] using wu) (by simp only [Bd, dp] at bu ⊢; omega) (by simpa only [fit] using fu), fun _ _ => hQ _ (by simpa only [WK] using wu) (by simp only [Bd, dp] at bu ⊢; omega) (by simpa only [fit] using fu), fun z => by simp [isOneK] at z⟩
    | true =>
      simp_arith [b_law_next, h1, h2, h3, h4, enc, one_in, o_list, o_opt]
      refine ⟨a, _, rfl, wt.2, by omega, fun u wu bu fu => ?_⟩
      obtain ⟨ra, ea⟩ := enc_hd a
      obtain ⟨ru, eu⟩ := enc_hd u
      have e1 := (wk_hd (wk_of _ wt.2)).2.1
      have e2 := (wk_hd wu).1
      rw [ea]
      simp_arith [e1]
      have r2 : isOpt u = true → QD (enc u) G := fun z => by
        cases u with
        | leaf _ => cases z
        | recd _ => cases z
        | one o2 b =>
          cases o2 with
          | false => cases z
          | true =>
            refine hQ _ wu (by simp only [Bd, dp] at bu ⊢; omega) ?_
            have ha := wt.1 rfl
            simp only [fit] at fu ⊢
            cases a with
            | leaf _ => exact fu
            | recd _ => exact fu
            | one o3 c =>
              cases o3 with
              | false => exact fu
              | true => cases ha
      have r3 : QD (enc (.one true u)) G := hQ _ (by simpa only [WK] using wu) (by simp only [Bd, dp] at bu ⊢; omega) (by simpa only [fit] using fu)
      have rest : wSs Γ (.c (.ite (.cmp .eq (.idx (.var 3) (.con (.int 0))) (.con (.str sOpt))) (.c (.ret (.var 3)) .n) .n) (.c (.ret (.tup (.c (.con (.str sOpt)) (.c (.var 3) .n)))) .n)) { nx := fun _ H => QD .non H, rt := QD, ex := fun x _ H => XD x H } [some .rnd, some (.tup [.str (sOne true), .tup (.str (hd a) :: ra)]), some (.int i), some (enc u)] G := by
        simp only [enc] at r3
        rw [eu] at r2 r3 ⊢
        simp_arith [e2]
        cases z : isOpt u with
        | true => exact r2 z
        | false => exact r3
      simp -implicitDefEqProofs only [Gam.isb, ok_some, ok_none, newL_t, newL_f, isTy, wipeD, isNo, wPart, wE, wEs, wBo, wT, wTs, wI, wSU, offD, onD, wS, wSs, startD, c_getD0, c_getDS, c_set0, c_setS, c_lenC, c_lenN, c_mapC, c_mapN, c_get0, c_getS, c_appC, c_appN, c_repS, c_rep0, c_anyC, c_anyN, c_decT, c_decF, c_orF, c_orT, c_Tor, c_For, c_nT, c_nF, c_Tand, c_andT, c_decE, c_oms, c_ifT, c_ifF, c_fT, q_add_ii, q_add_ss, q_add_tt, q_add_l, q_add_r, q_sub, q_mul, q_mul_l, q_mul_s, q_fdiv, q_mod, q_pow, q_xor, q_bor, q_band, q_seqH_l, q_seqH_r, q_seq_l, q_seq_s, q_seq_r, q_seq_t, q_itm_t, q_itm_l, q_itm_s, q_itm_r, q_len_str, q_len_t, q_len_l, q_len_s, q_len_r, q_tr_n, q_tr_b, q_tr_i, q_tr_str, q_tr_t, q_tr_l, q_tr_s, q_tr_r, q_eq, q_ne, q_lt, q_le, q_gt, q_ge, q_inn, q_ind, q_nind, q_nin, q_is_n, q_is_b, q_is_i, q_is_str, q_is_t, q_is_l, q_is_r, q_is_bb, q_ns_bb, q_ns_n, q_ns_b, q_ns_i, q_ns_str, q_ns_t, q_ns_l, q_ns_r, q_eq_ii, q_eq_ss, q_eq_bb, q_eq_nn, q_idx_t, q_idx_l, q_idx_s, q_idx_str, q_idx_r, at_0, at_1, at_2, at_3, at_4, at_5, q_bf_len, q_bf_abs, q_bf_int, q_bf_intb, q_bf_bool, q_bf_tup, q_imT_t, q_imT_l, q_imT_s, q_imT_r, q_itm_p, q_len_p, q_idx_p, q_walk_p, q_asg_p, q_bf_lst, q_bf_all, q_bf_any, q_bf_allT, q_bf_min2, q_bf_max2, q_bf_sum, q_bf_ord, q_ty_n, q_ty_b, q_ty_i, q_ty_str, q_ty_t, q_ty_l, q_ty_s, q_ty_r, q_app, q_ext, q_pop, q_popI, q_join, q_rcv_app, q_rcv_ext, q_rcv_pop, q_rcv_join, q_rcv_sidx, q_rcv_scnt, q_rcv_tcnt, q_tcnt, q_rcv_idxD, q_idxD, q_rcv_sfnd, q_sidx, q_scnt, q_sfnd, q_sl_str, q_sl_t, q_sl_l, q_sl_r, q_sl_s, q_frz_r, q_frz_l, q_frz_str, q_frz_t, q_frz_b, q_frz_n, q_frz_i, q_walk_t, q_walk_l, q_walk_s, q_walk_str, q_fix_t, q_fix_l, q_asg_n, q_asg_t, q_asgs_n, q_asgs_c, q_rg_t, q_rg_f, Nat.reduceAdd, Nat.reduceSub, reduceCtorEq, Int.reduceToNat, Int.reduceLT, Int.reduceLE, Int.reduceNeg] at rest
      cases z : isLst a with
      | true => exact rest
      | false =>
        refine ⟨_, rfl, by decide, fun r q0 q1 => ?_⟩
        simp_arith []
        cases (r == 0) with
        | false => exact rest
        | true =>
          have := hQ (.one false u) (by simpa only [WK] using wu) (by simp only [Bd, dp] at bu ⊢; omega) (by simp only [fit, z, fu]; rfl)
          exact (by simpa only [enc] using this : QD (.tup [.str (sOne false), enc u]) G)
  | recd fs =>
    have hpos : 0 < n := by
      simp only [dp] at hn
      simp only [Wf] at wt
      have := wt.1.1
      cases fs with
      | nil => exact absurd rfl this
      | cons m k fs => simp only [dps] at hn; have := dpos k; omega
    simp only [dp] at hn
    simp_arith [b_law_next, h1, h2, h3, h4, enc, rec_in, r_list, r_opt]
    refine ⟨fs, i, [], by simp only [enc], wt, ⟨by omega, hpos⟩, by decide, fun _ h => (nomatch h), fun gs wg bg fg => ?_⟩
    simp_arith []
    refine ⟨.recd fs, .recd gs, by simp only [enc], wk_of _ wt, wg, hQ _ wg (by omega) fg, fun _ _ => hQ _ (by simp only [WK] at wg ⊢; exact wg) (by simp only [dp] at bg ⊢; omega) (by simpa only [fit] using fg), fun _ _ => hQ _ (by simp only [WK] at wg ⊢; exact wg) (by simp only [dp] at bg ⊢; omega) (by simpa only [fit] using fg)⟩
end DL

namespace DL
open PySem PySem.Spec PyProof.Rows L2
/-! ### a record that grows -/
def b_nrB (l_draw l_kind : Nat) : Ss :=
 (.c (.ex (.mt .append (.var 5) (.c (.var 8) .n)))
 (.c (.set 10 (.call l_kind (.c (.var 0) (.c (.bf true .min (.c (.con (.int 3)) (.c (.bf true .max (.c (.con (.int 1)) (.c (.bin true .sub (.var 2) (.con (.int 2))) .n))) .n))) (.c (.con (.int 2)) .n)))))
 (.c (.ite (.bo false (.c (.cmp .eq (.idx (.var 10) (.con (.int 0))) (.con (.str sOpt))) (.c (.cmp .eq (.call l_draw (.c (.var 0) (.c (.con (.int 2)) .n))) (.con (.int 0))) .n))) (.c (.ex (.mt .append (.var 4) (.c (.tup (.c (.var 8) (.c (.tup (.c (.con (.str sList)) (.c (.var 10) .n))) .n))) .n)))
 .n) (.c (.ex (.mt .append (.var 4) (.c (.tup (.c (.var 8) (.c (.tup (.c (.con (.str sOpt)) (.c (.var 10) .n))) .n))) .n)))
 .n))
 .n)))
def b_nrC (l_draw l_next : Nat) : Ss :=
 (.c (.fz 4) (.c (.ite (.nt (.of (.var 4))) (.c (.set 4 (.lst false (.c (.tup (.c (.idx (.idx (.idx (.var 1) (.con (.int 1))) (.con (.int 0))) (.con (.int 0))) (.c (.call l_next (.c (.var 0) (.c (.idx (.idx (.idx (.var 1) (.con (.int 1))) (.con (.int 0))) (.con (.int 1))) (.c (.bin true .sub (.var 2) (.con (.int 1))) .n)))) .n))) .n)))
 .n) .n)
 (.c (.fz 4) (.c (.set 11 (.call l_draw (.c (.var 0) (.c (.bf true .len (.c (.var 4) .n)) .n))))
 (.c (.set 4 (.sl false (.bin true .add (.sl true (.var 4) (.var 11) .no) (.sl true (.var 4) .no (.var 11))) .no (.con (.int 8))))
 (.c (.fz 5) (.c (.fz 4) (.c (.ret (.tup (.c (.con (.str sRec)) (.c (.bf true .tuple (.c (.var 4) .n)) .n))))
 .n))))))))
def b_nrA (l_draw l_name l_pick l_kind : Nat) : Ss :=
 (.c (.ite (.bo false (.c (.nt (.of (.var 4))) (.c (.cmp .eq (.call l_draw (.c (.var 0) (.c (.con (.int 3)) .n))) (.con (.int 0))) .n))) (.c (.set 8 (.call l_name (.c (.var 0) (.c (.var 5) .n))))
 (.c (.set 9 (.lc true (.var 12) (.n 12) (.of (.var 3)) (.cmp .nin (.var 12) (.var 5)) [("one", 12)]))
 (.c (.ite (.bo true (.c (.of (.var 9)) (.c (.cmp .eq (.call l_draw (.c (.var 0) (.c (.con (.int 2)) .n))) (.con (.int 0))) .n))) (.c (.set 8 (.call l_pick (.c (.var 0) (.c (.var 9) .n))))
 .n) .n)
 (b_nrB l_draw l_kind)))) .n)
 .n)
def b_law_next_record (l_draw l_next l_name l_pick l_kind : Nat) : Ss :=
 (.c (.set 4 (.lst false .n))
 (.c (.set 5 (.lc false (.idx (.var 6) (.con (.int 0))) (.n 6) (.of (.idx (.var 1) (.con (.int 1)))) .yes [("field", 6)]))
 (.c (.for_ (.n 6) (.of (.idx (.var 1) (.con (.int 1)))) (.c (.ite (.cmp .gt (.call l_draw (.c (.var 0) (.c (.con (.int 6)) .n))) (.con (.int 0))) (.c (.ex (.mt .append (.var 4) (.c (.tup (.c (.idx (.var 6) (.con (.int 0))) (.c (.call l_next (.c (.var 0) (.c (.idx (.var 6) (.con (.int 1))) (.c (.bin true .sub (.var 2) (.con (.int 1))) .n)))) .n))) .n)))
 .n) .n)
 .n))
 (.c (.for_ (.n 7) (.rng (.c (.call l_draw (.c (.var 0) (.c (.con (.int 3)) .n))) .n)) (b_nrA l_draw l_name l_pick l_kind))
 (b_nrC l_draw l_next)))))
/-- fields that the grown record may have -/
def FldOk (fs : Fs) (q : List Nat × Kd) : Prop := (Low q.1 ∧ WK q.2) ∧ dp q.2 ≤ 2 * dps fs + 9 ∧ ff (toL fs) q = true
theorem nrB_ok {Γ : Gam} {dr kd : Nat} (h1 : Γ.sp dr = spDraw) (h2 : Γ.sp kd = spKind 8) {E : EndsD} {l : List (List Nat × Kd)} {us : List D} {s : List Nat} {a b : Addr} {G : HD} {i : Int} {t pool : D} {o6 o7 o9 o10 o11 o12 : Option D}
    (hab : a ≠ b) (hl : l.length < 1000) (hu : us.length < 1000)
    (hE : ∀ k d, WK k → dp k ≤ 9 → isOneK k = true → E.nx [some .rnd, some t, some (.int i), some pool, some (.ref a), some (.ref b), o6, o7, some (.str s), o9, some d, o11, o12] (updD (updD G a (.lst ((l ++ [(s, k)]).map enc1))) b (.lst (us ++ [.str s])))) :
    wSs Γ (b_nrB dr kd) E [some .rnd, some t, some (.int i), some pool, some (.ref a), some (.ref b), o6, o7, some (.str s), o9, o10, o11, o12] (updD (updD G a (.lst (l.map enc1))) b (.lst us)) := by
  have e1 : ∀ x y : HC, (updD (updD G a x) b y) a = some x := fun x y => two_a hab
  have e2 : ∀ x y : HC, (updD (updD G a x) b y) b = some y := fun x y => updD_same
  have e3 : ∀ x y x' : HC, updD (updD (updD G a x) b y) a x' = updD (updD G a x') b y := fun x y x' => two_ua hab
  have e4 : ∀ x y y' : HC, updD (updD (updD G a x) b y) b y' = updD (updD G a x) b y' := fun x y y' => updD_updD
  have hlim : lim = 16777216 := rfl
  simp_arith [b_nrB, h1, h2, e1, e2, e3, e4]
  refine ⟨by omega, _, _, rfl, ⟨by split <;> split <;> omega, by decide⟩, by decide, fun k w1 w2 w3 => ?_⟩
  obtain ⟨r, e⟩ := enc_hd k
  have eo := (wk_hd (wk_of _ w1)).1
  have q0 := hE (.one false k) (enc k) (by simpa only [WK] using wk_of _ w1) (by simp only [dp]; omega) rfl
  have q1 := hE (.one true k) (enc k) (by simpa only [WK] using wk_of _ w1) (by simp only [dp]; omega) rfl
  rw [List.map_append] at q0 q1
  simp only [List.map_cons, List.map_nil, enc1, enc] at q0 q1
  rw [e] at q0 q1 ⊢
  simp_arith [e1, e2, e3, e4, eo]
  have d0 : l.length < lim := by omega
  cases isOpt k with
  | true => 
    simp_arith [e1, e2, e3, e4, List.length_map]
    exact ⟨d0, q0⟩
  | false =>
    refine ⟨_, rfl, by decide, fun r k0 k1 => ?_⟩
    simp_arith []
    cases (r == 0) with
    | true =>
      simp_arith [e1, e2, e3, e4, List.length_map]
      exact ⟨d0, q0⟩
    | false =>
      simp_arith [e1, e2, e3, e4, List.length_map]
      exact ⟨d0, q1⟩
theorem nrA_ok {Γ : Gam} {dr nm pk kd : Nat} (h1 : Γ.sp dr = spDraw) (h2 : Γ.sp kd = spKind 8) (h3 : Γ.sp nm = spName) (h4 : Γ.sp pk = spPick) {E : EndsD} {l : List (List Nat × Kd)} {us pool : List D} {a b : Addr} {G : HD} {i : Int} {t : D} {o6 o7 o8 o9 o10 o11 o12 : Option D}
    (hab : a ≠ b) (hl : l.length < 1000) (hu : us.length < 26) (hus : ∀ u ∈ us, ∃ s, u = .str s ∧ Low s) (hp : pool.length < 1000) (hpo : ∀ u ∈ pool, ∃ s, u = .str s ∧ Low s)
    (hE0 : E.nx [some .rnd, some t, some (.int i), some (.lst pool), some (.ref a), some (.ref b), o6, o7, o8, o9, o10, o11, o12] (updD (updD G a (.lst (l.map enc1))) b (.lst us)))
    (hE : ∀ k s o8 o9 o10 o12, WK k → dp k ≤ 9 → isOneK k = true → Low s → D.str s ∉ us → E.nx [some .rnd, some t, some (.int i), some (.lst pool), some (.ref a), some (.ref b), o6, o7, o8, o9, o10, o11, o12] (updD (updD G a (.lst ((l ++ [(s, k)]).map enc1))) b (.lst (us ++ [.str s])))) :
    wSs Γ (b_nrA dr nm pk kd) E [some .rnd, some t, some (.int i), some (.lst pool), some (.ref a), some (.ref b), o6, o7, o8, o9, o10, o11, o12] (updD (updD G a (.lst (l.map enc1))) b (.lst us)) := by
  have e1 : ∀ x y : HC, (updD (updD G a x) b y) a = some x := fun x y => two_a hab
  have hus2 : ∀ u ∈ us, ∃ s, u = .str s := fun u hx => let ⟨s, e, _⟩ := hus u hx; ⟨s, e⟩
  generalize hH : updD (updD G a (.lst (l.map enc1))) b (.lst us) = H at hE0 ⊢
  have sq : SeqIs (.ref b) us H := .inr ⟨b, rfl, by rw [← hH]; exact updD_same⟩
  have ta : truth (.ref a) H = some (l.length != 0) := by rw [q_tr_r, ← hH, e1]; simp only [List.length_map]
  have main : ∀ o8, spName [.rnd, .ref b] H (fun d H1 => wSs Γ (.c (.set 9 (.lc true (.var 12) (.n 12) (.of (.var 3)) (.cmp .nin (.var 12) (.var 5)) [("one", 12)]))
 (.c (.ite (.bo true (.c (.of (.var 9)) (.c (.cmp .eq (.call dr (.c (.var 0) (.c (.con (.int 2)) .n))) (.con (.int 0))) .n))) (.c (.set 8 (.call pk (.c (.var 0) (.c (.var 9) .n))))
 .n) .n)
 (b_nrB dr kd))) E [some .rnd, some t, some (.int i), some (.lst pool), some (.ref a), some (.ref b), o6, o7, some d, o9, o10, o11, o12] H1) fun x H1 => E.ex x [some .rnd, some t, some (.int i), some (.lst pool), some (.ref a), some (.ref b), o6, o7, o8, o9, o10, o11, o12] H1 := by
    intro o8
    refine ⟨_, us, rfl, sq, hu, hus, fun s hs hn => ?_⟩
    have fin : ∀ s o9 o12, Low s → D.str s ∉ us → wSs Γ (b_nrB dr kd) E [some .rnd, some t, some (.int i), some (.lst pool), some (.ref a), some (.ref b), o6, o7, some (.str s), o9, o10, o11, o12] H := fun s o9 o12 hs hn => by
      rw [← hH]
      exact nrB_ok h1 h2 hab hl (by omega) fun k d w1 w2 w3 => hE k s _ _ _ _ w1 w2 w3 hs hn
    simp_arith [h1, h4]
    refine lcD_ind (fun xs acc H1 => H1 = H ∧ (∀ u ∈ xs, ∃ s, u = .str s ∧ Low s) ∧ acc.length + xs.length ≤ pool.length ∧ ∀ u ∈ acc, ∃ s, u = .str s ∧ Low s ∧ D.str s ∉ us) ?_ ?_ _ _ _ ⟨rfl, hpo, by simp, fun _ h => (nomatch h)⟩
    · rintro acc H1 ⟨rfl, _, k1, k2⟩
      cases hc : (acc.length != 0) with
      | false => exact fin _ _ _ hs hn
      | true =>
        refine ⟨_, rfl, by decide, fun r k0 k3 => ?_⟩
        simp_arith []
        cases (r == 0) with
        | false => exact fin _ _ _ hs hn
        | true =>
          refine ⟨_, rfl, ⟨by simp at hc; exact List.length_pos_iff.mpr hc, by simp at k1; omega⟩, fun d hd => ?_⟩
          obtain ⟨s2, rfl, q1, q2⟩ := k2 d hd
          exact fin _ _ _ q1 q2
    · rintro x xs acc ih H1 ⟨rfl, k0, k1, k2⟩
      obtain ⟨s2, rfl, q1⟩ := k0 x List.mem_cons_self
      obtain ⟨b2, hb, hb2⟩ := in_strs (s := s2) sq hus2
      have k0' : ∀ u ∈ xs, ∃ s, u = .str s ∧ Low s := fun u hu => k0 u (List.mem_cons_of_mem _ hu)
      simp_arith [hb]
      cases b2 with
      | true => exact ih _ _ ⟨rfl, k0', by simp at k1; omega, k2⟩
      | false =>
        refine ih _ _ ⟨rfl, k0', by simp at k1 ⊢; omega, fun u hu => ?_⟩
        rcases List.mem_append.mp hu with hu | hu
        · exact k2 u hu
        · rw [List.mem_singleton] at hu
          exact ⟨s2, hu, q1, fun z => by simpa using hb2.mpr z⟩
  have m2 := main o8
  simp -implicitDefEqProofs only [Gam.isb, ok_some, ok_none, newL_t, newL_f, isTy, wipeD, isNo, wPart, wE, wEs, wBo, wT, wTs, wI, wSU, offD, onD, wS, wSs, startD, c_getD0, c_getDS, c_set0, c_setS, c_lenC, c_lenN, c_mapC, c_mapN, c_get0, c_getS, c_appC, c_appN, c_repS, c_rep0, c_anyC, c_anyN, c_decT, c_decF, c_orF, c_orT, c_Tor, c_For, c_nT, c_nF, c_Tand, c_andT, c_decE, c_oms, c_ifT, c_ifF, c_fT, q_add_ii, q_add_ss, q_add_tt, q_add_l, q_add_r, q_sub, q_mul, q_mul_l, q_mul_s, q_fdiv, q_mod, q_pow, q_xor, q_bor, q_band, q_seqH_l, q_seqH_r, q_seq_l, q_seq_s, q_seq_r, q_seq_t, q_itm_t, q_itm_l, q_itm_s, q_itm_r, q_len_str, q_len_t, q_len_l, q_len_s, q_len_r, q_tr_n, q_tr_b, q_tr_i, q_tr_str, q_tr_t, q_tr_l, q_tr_s, q_tr_r, q_eq, q_ne, q_lt, q_le, q_gt, q_ge, q_inn, q_ind, q_nind, q_nin, q_is_n, q_is_b, q_is_i, q_is_str, q_is_t, q_is_l, q_is_r, q_is_bb, q_ns_bb, q_ns_n, q_ns_b, q_ns_i, q_ns_str, q_ns_t, q_ns_l, q_ns_r, q_eq_ii, q_eq_ss, q_eq_bb, q_eq_nn, q_idx_t, q_idx_l, q_idx_s, q_idx_str, q_idx_r, at_0, at_1, at_2, at_3, at_4, at_5, q_bf_len, q_bf_abs, q_bf_int, q_bf_intb, q_bf_bool, q_bf_tup, q_imT_t, q_imT_l, q_imT_s, q_imT_r, q_itm_p, q_len_p, q_idx_p, q_walk_p, q_asg_p, q_bf_lst, q_bf_all, q_bf_any, q_bf_allT, q_bf_min2, q_bf_max2, q_bf_sum, q_bf_ord, q_ty_n, q_ty_b, q_ty_i, q_ty_str, q_ty_t, q_ty_l, q_ty_s, q_ty_r, q_app, q_ext, q_pop, q_popI, q_join, q_rcv_app, q_rcv_ext, q_rcv_pop, q_rcv_join, q_rcv_sidx, q_rcv_scnt, q_rcv_tcnt, q_tcnt, q_rcv_idxD, q_idxD, q_rcv_sfnd, q_sidx, q_scnt, q_sfnd, q_sl_str, q_sl_t, q_sl_l, q_sl_r, q_sl_s, q_frz_r, q_frz_l, q_frz_str, q_frz_t, q_frz_b, q_frz_n, q_frz_i, q_walk_t, q_walk_l, q_walk_s, q_walk_str, q_fix_t, q_fix_l, q_asg_n, q_asg_t, q_asgs_n, q_asgs_c, q_rg_t, q_rg_f, Nat.reduceAdd, Nat.reduceSub, reduceCtorEq, Int.reduceToNat, Int.reduceLT, Int.reduceLE, Int.reduceNeg, h1, h3, h4, ta] at m2
  unfold b_nrA
  simp_arith [h1, h3, h4, ta]
  cases (l.length != 0) with
  | false =>
    simp_arith []
    exact m2
  | true =>
    simp_arith []
    refine ⟨_, rfl, by decide, fun r k0 k3 => ?_⟩
    simp_arith []
    cases (r == 0) with
    | false => exact hE0
    | true => exact m2
theorem nrC_ok {Γ : Gam} {dr nx n : Nat} (h1 : Γ.sp dr = spDraw) (h2 : Γ.sp nx = spNext n) {E : EndsD} {fs : Fs} {l : List (List Nat × Kd)} {us : List D} {a b : Addr} {G : HD} {i : Int} {pool : D} {o6 o7 o8 o9 o10 o11 o12 : Option D}
    (hab : a ≠ b) (ga : G a = none) (gb : G b = none) (w : Wf (.recd fs)) (hd' : dps fs ≤ n) (hl : l.length ≤ 100) (hf : ∀ q ∈ l, FldOk fs q)
    (hQ : ∀ gs, WK (.recd gs) → dp (.recd gs) + 1 ≤ Bd (.recd fs) → fit (.recd gs) (.recd fs) = true → E.rt (enc (.recd gs)) G) :
    wSs Γ (b_nrC dr nx) E [some .rnd, some (enc (.recd fs)), some (.int i), some pool, some (.ref a), some (.ref b), o6, o7, o8, o9, o10, o11, o12] (updD (updD G a (.lst (l.map enc1))) b (.lst us)) := by
  have e1 : ∀ x y : HC, (updD (updD G a x) b y) a = some x := fun x y => two_a hab
  have e5 : ∀ x y : HC, delD (updD (updD G a x) b y) a = updD G b y := fun x y => two_da hab ga
  have hlim : lim = 16777216 := rfl
  simp only [Wf] at w
  have main : ∀ (l : List (List Nat × Kd)) o4, l ≠ [] → l.length ≤ 100 → (∀ q ∈ l, FldOk fs q) → wSs Γ (.c (.set 11 (.call dr (.c (.var 0) (.c (.bf true .len (.c (.var 4) .n)) .n))))
 (.c (.set 4 (.sl false (.bin true .add (.sl true (.var 4) (.var 11) .no) (.sl true (.var 4) .no (.var 11))) .no (.con (.int 8))))
 (.c (.fz 5) (.c (.fz 4) (.c (.ret (.tup (.c (.con (.str sRec)) (.c (.bf true .tuple (.c (.var 4) .n)) .n))))
 .n))))) E [some .rnd, some (enc (.recd fs)), some (.int i), some pool, some (.lst (l.map enc1)), some (.ref b), o6, o7, o8, o9, o10, o4, o12] (updD G b (.lst us)) := by
    intro l o4 hne hl hf
    have hpos := List.length_pos_iff.mpr hne
    simp_arith [h1, List.length_map]
    refine ⟨_, rfl, ⟨by omega, by omega⟩, fun r k0 k1 => ?_⟩
    obtain ⟨k, rfl⟩ := Int.eq_ofNat_of_zero_le k0
    have c1 : cutL (l.map enc1) (some (k : Int)) none = (l.map enc1).drop k := by rw [cut_suf ⟨by omega, by rw [List.length_map]; omega⟩]; rfl
    have c2 : cutL (l.map enc1) none (some (k : Int)) = (l.map enc1).take k := cut_pre_any
    have c3 : cutL ((l.map enc1).drop k ++ (l.map enc1).take k) none (some 8) = ((l.drop k ++ l.take k).take 8).map enc1 := by
      rw [show (8 : Int) = ((8 : Nat) : Int) from rfl, cut_pre_any]; simp only [List.map_take, List.map_append, List.map_drop]
    simp_arith [c1, c2]
    refine ⟨by rw [List.length_drop, List.length_take, List.length_map]; omega, ?_⟩
    simp_arith [c3]
    intro p hp
    have hpb : p ≠ b := fun z => by rw [z, updD_same] at hp; cases hp
    have gp : G p = none := by rw [updD_ne hpb] at hp; exact hp
    have f1 : ∀ x y : HC, (updD (updD G b x) p y) b = some x := fun x y => two_a hpb.symm
    have f2 : ∀ x y : HC, delD (updD (updD G b x) p y) b = updD G p y := fun x y => two_da hpb.symm gb
    have f3 : ∀ x : HC, delD (updD G p x) p = G := fun x => delD_updD gp
    simp_arith [f1, f2, f3, updD_same]
    generalize hm : (l.drop k ++ l.take k).take 8 = m
    have hm1 : ∀ q ∈ m, q ∈ l := fun q hq => by
      rw [← hm] at hq
      rcases List.mem_append.mp (List.mem_of_mem_take hq) with h | h
      · exact List.mem_of_mem_drop h
      · exact List.mem_of_mem_take h
    have hm2 : m ≠ [] := fun z => by
      have := congrArg List.length hm
      rw [z] at this
      simp only [List.length_take, List.length_append, List.length_drop, List.length_nil] at this
      omega
    have hm3 : m.length ≤ 8 := by rw [← hm, List.length_take]; omega
    have := hQ (fsOf m) (by
        simp only [WK]
        exact ⟨⟨by cases m <;> simp_all [fsOf], by rw [toL_of]; exact hm3⟩, wks_of fun q hq => (hf q (hm1 q hq)).1⟩)
      (by
        have := dps_of_le (l := m) (n := 2 * dps fs + 9) fun q hq => (hf q (hm1 q hq)).2.1
        simp only [Bd, dp]; omega)
      (by
        simp only [fit, fits_eq, toL_of]
        exact List.all_eq_true.mpr fun q hq => (hf q (hm1 q hq)).2.2)
    simp only [enc, encs_of] at this
    exact this
  unfold b_nrC
  simp_arith [h1, h2, e1, e5, List.length_map]
  cases hc : (l.length != 0) with
  | true =>
    have hne : l ≠ [] := fun z => by rw [z] at hc; simp at hc
    have := main l o11 hne hl hf
    simp -implicitDefEqProofs only [Gam.isb, ok_some, ok_none, newL_t, newL_f, isTy, wipeD, isNo, wPart, wE, wEs, wBo, wT, wTs, wI, wSU, offD, onD, wS, wSs, startD, c_getD0, c_getDS, c_set0, c_setS, c_lenC, c_lenN, c_mapC, c_mapN, c_get0, c_getS, c_appC, c_appN, c_repS, c_rep0, c_anyC, c_anyN, c_decT, c_decF, c_orF, c_orT, c_Tor, c_For, c_nT, c_nF, c_Tand, c_andT, c_decE, c_oms, c_ifT, c_ifF, c_fT, q_add_ii, q_add_ss, q_add_tt, q_add_l, q_add_r, q_sub, q_mul, q_mul_l, q_mul_s, q_fdiv, q_mod, q_pow, q_xor, q_bor, q_band, q_seqH_l, q_seqH_r, q_seq_l, q_seq_s, q_seq_r, q_seq_t, q_itm_t, q_itm_l, q_itm_s, q_itm_r, q_len_str, q_len_t, q_len_l, q_len_s, q_len_r, q_tr_n, q_tr_b, q_tr_i, q_tr_str, q_tr_t, q_tr_l, q_tr_s, q_tr_r, q_eq, q_ne, q_lt, q_le, q_gt, q_ge, q_inn, q_ind, q_nind, q_nin, q_is_n, q_is_b, q_is_i, q_is_str, q_is_t, q_is_l, q_is_r, q_is_bb, q_ns_bb, q_ns_n, q_ns_b, q_ns_i, q_ns_str, q_ns_t, q_ns_l, q_ns_r, q_eq_ii, q_eq_ss, q_eq_bb, q_eq_nn, q_idx_t, q_idx_l, q_idx_s, q_idx_str, q_idx_r, at_0, at_1, at_2, at_3, at_4, at_5, q_bf_len, q_bf_abs, q_bf_int, q_bf_intb, q_bf_bool, q_bf_tup, q_imT_t, q_imT_l, q_imT_s, q_imT_r, q_itm_p, q_len_p, q_idx_p, q_walk_p, q_asg_p, q_bf_lst, q_bf_all, q_bf_any, q_bf_allT, q_bf_min2, q_bf_max2, q_bf_sum, q_bf_ord, q_ty_n, q_ty_b, q_ty_i, q_ty_str, q_ty_t, q_ty_l, q_ty_s, q_ty_r, q_app, q_ext, q_pop, q_popI, q_join, q_rcv_app, q_rcv_ext, q_rcv_pop, q_rcv_join, q_rcv_sidx, q_rcv_scnt, q_rcv_tcnt, q_tcnt, q_rcv_idxD, q_idxD, q_rcv_sfnd, q_sidx, q_scnt, q_sfnd, q_sl_str, q_sl_t, q_sl_l, q_sl_r, q_sl_s, q_frz_r, q_frz_l, q_frz_str, q_frz_t, q_frz_b, q_frz_n, q_frz_i, q_walk_t, q_walk_l, q_walk_s, q_walk_str, q_fix_t, q_fix_l, q_asg_n, q_asg_t, q_asgs_n, q_asgs_c, q_rg_t, q_rg_f, Nat.reduceAdd, Nat.reduceSub, reduceCtorEq, Int.reduceToNat, Int.reduceLT, Int.reduceLE, Int.reduceNeg, h1, List.length_map] at this
    exact this
  | false =>
    obtain ⟨q, r, hq⟩ : ∃ q r, toL fs = q :: r := by
      cases e : toL fs with
      | nil => exact absurd e (toL_ne w.1.1)
      | cons q r => exact ⟨q, r, rfl⟩
    have hmem : q ∈ toL fs := by rw [hq]; exact List.mem_cons_self
    have wq := wfs_eq w.2 q hmem
    have dq := dps_eq q hmem
    have e6 : encs fs = enc1 q :: r.map enc1 := by rw [encs_eq, hq]; rfl
    simp_arith [enc, e6, enc1]
    refine ⟨q.2, _, rfl, wq.2, by omega, fun u wu bu fu => ?_⟩
    simp_arith []
    intro p hp
    have f3 : ∀ x : HC, delD (updD (updD G b (.lst us)) p x) p = updD G b (.lst us) := fun x => delD_updD hp
    have := main [(q.1, u)] o11 (by simp) (by simp) fun z hz => by
      rw [List.mem_singleton] at hz
      subst hz
      refine ⟨⟨wq.1, wu⟩, by simp only [Bd] at bu; show dp u ≤ _; omega, ?_⟩
      unfold ff
      simp only
      rw [fnd_some w.1.2.1 q hmem]
      exact fu
    simp -implicitDefEqProofs only [Gam.isb, ok_some, ok_none, newL_t, newL_f, isTy, wipeD, isNo, wPart, wE, wEs, wBo, wT, wTs, wI, wSU, offD, onD, wS, wSs, startD, c_getD0, c_getDS, c_set0, c_setS, c_lenC, c_lenN, c_mapC, c_mapN, c_get0, c_getS, c_appC, c_appN, c_repS, c_rep0, c_anyC, c_anyN, c_decT, c_decF, c_orF, c_orT, c_Tor, c_For, c_nT, c_nF, c_Tand, c_andT, c_decE, c_oms, c_ifT, c_ifF, c_fT, q_add_ii, q_add_ss, q_add_tt, q_add_l, q_add_r, q_sub, q_mul, q_mul_l, q_mul_s, q_fdiv, q_mod, q_pow, q_xor, q_bor, q_band, q_seqH_l, q_seqH_r, q_seq_l, q_seq_s, q_seq_r, q_seq_t, q_itm_t, q_itm_l, q_itm_s, q_itm_r, q_len_str, q_len_t, q_len_l, q_len_s, q_len_r, q_tr_n, q_tr_b, q_tr_i, q_tr_str, q_tr_t, q_tr_l, q_tr_s, q_tr_r, q_eq, q_ne, q_lt, q_le, q_gt, q_ge, q_inn, q_ind, q_nind, q_nin, q_is_n, q_is_b, q_is_i, q_is_str, q_is_t, q_is_l, q_is_r, q_is_bb, q_ns_bb, q_ns_n, q_ns_b, q_ns_i, q_ns_str, q_ns_t, q_ns_l, q_ns_r, q_eq_ii, q_eq_ss, q_eq_bb, q_eq_nn, q_idx_t, q_idx_l, q_idx_s, q_idx_str, q_idx_r, at_0, at_1, at_2, at_3, at_4, at_5, q_bf_len, q_bf_abs, q_bf_int, q_bf_intb, q_bf_bool, q_bf_tup, q_imT_t, q_imT_l, q_imT_s, q_imT_r, q_itm_p, q_len_p, q_idx_p, q_walk_p, q_asg_p, q_bf_lst, q_bf_all, q_bf_any, q_bf_allT, q_bf_min2, q_bf_max2, q_bf_sum, q_bf_ord, q_ty_n, q_ty_b, q_ty_i, q_ty_str, q_ty_t, q_ty_l, q_ty_s, q_ty_r, q_app, q_ext, q_pop, q_popI, q_join, q_rcv_app, q_rcv_ext, q_rcv_pop, q_rcv_join, q_rcv_sidx, q_rcv_scnt, q_rcv_tcnt, q_tcnt, q_rcv_idxD, q_idxD, q_rcv_sfnd, q_sidx, q_scnt, q_sfnd, q_sl_str, q_sl_t, q_sl_l, q_sl_r, q_sl_s, q_frz_r, q_frz_l, q_frz_str, q_frz_t, q_frz_b, q_frz_n, q_frz_i, q_walk_t, q_walk_l, q_walk_s, q_walk_str, q_fix_t, q_fix_l, q_asg_n, q_asg_t, q_asgs_n, q_asgs_c, q_rg_t, q_rg_f, Nat.reduceAdd, Nat.reduceSub, reduceCtorEq, Int.reduceToNat, Int.reduceLT, Int.reduceLE, Int.reduceNeg, h1, enc, e6, enc1] at this
    simp_arith [updD_same, f3]
    exact this
theorem next_record_ok {Γ : Gam} {dr nx nm pk kd n : Nat} (h1 : Γ.sp dr = spDraw) (h2 : Γ.sp nx = spNext n) (h3 : Γ.sp nm = spName) (h4 : Γ.sp pk = spPick) (h5 : Γ.sp kd = spKind 8) (ds : List D) (G : HD) (QD : KD) (XD : KX) (h : spNextR n ds G QD XD) :
    wSs Γ (b_law_next_record dr nx nm pk kd) { nx := fun _ H => QD .non H, rt := QD, ex := fun x _ H => XD x H } (startD 13 ds) G := by
  obtain ⟨fs, i, pool, rfl, w, hn, hp, hpo, hQ⟩ := h
  have hlim : lim = 16777216 := rfl
  have w' := w
  simp only [Wf] at w'
  unfold b_law_next_record
  simp_arith [h1, h2, h3, h4, h5, enc]
  intro a ha
  refine lcD_ind (fun xs acc H => H = updD G a (.lst []) ∧ ∃ l ls : List (List Nat × Kd), xs = ls.map enc1 ∧ toL fs = l ++ ls ∧ acc = l.map fun q => .str q.1) ?_ ?_ _ _ _ ⟨rfl, [], toL fs, encs_eq fs, rfl, rfl⟩
  · rintro acc H ⟨rfl, l0, ls, hx, hl0, rfl⟩
    have : ls = [] := by cases ls <;> first | rfl | cases hx
    subst this
    rw [List.append_nil] at hl0
    subst hl0
    intro b hb
    have hab : a ≠ b := fun z => by rw [z, updD_same] at hb; cases hb
    have gb : G b = none := by rw [updD_ne hab.symm] at hb; exact hb
    have e1 : ∀ x y : HC, (updD (updD G a x) b y) a = some x := fun x y => two_a hab
    have e3 : ∀ x y x' : HC, updD (updD (updD G a x) b y) a x' = updD (updD G a x') b y := fun x y x' => two_ua hab
    refine wFor_ind (fun xs σ H => ∃ (l ls : List (List Nat × Kd)) (o6 : Option D), xs = ls.map enc1 ∧ (∀ q ∈ ls, q ∈ toL fs) ∧ l.length + ls.length ≤ 8 ∧ (∀ q ∈ l, FldOk fs q) ∧ H = updD (updD G a (.lst (l.map enc1))) b (.lst ((toL fs).map fun q => .str q.1)) ∧
      σ = [some .rnd, some (.tup [.str sRec, .tup (encs fs)]), some (.int i), some (.lst pool), some (.ref a), some (.ref b), o6, none, none, none, none, none, none]) ?_ ?_ _ _ _
      ⟨[], toL fs, none, encs_eq fs, fun _ h => h, by simpa using w'.1.2.2, fun _ h => (nomatch h), rfl, rfl⟩
    · rintro σ H ⟨l, ls, o6, hx, _, hlen, hl, rfl, rfl⟩
      simp_arith []
      refine ⟨_, rfl, by decide, fun r k0 k1 => ?_⟩
      simp_arith []
      rw [q_rng1 ⟨by omega, by omega⟩, ok_some]
      refine And.intro (by show r.toNat ≤ lim; omega) ?_
      refine wFor_ind (fun xs σ H => ∃ (l : List (List Nat × Kd)) (us : List D) (o6 o7 o8 o9 o10 o12 : Option D), l.length + xs.length ≤ 10 ∧ us.length + xs.length ≤ 10 ∧ (∀ q ∈ l, FldOk fs q) ∧ (∀ u ∈ us, ∃ s, u = .str s ∧ Low s) ∧ (∀ q ∈ toL fs, D.str q.1 ∈ us) ∧ H = updD (updD G a (.lst (l.map enc1))) b (.lst us) ∧
        σ = [some .rnd, some (.tup [.str sRec, .tup (encs fs)]), some (.int i), some (.lst pool), some (.ref a), some (.ref b), o6, o7, o8, o9, o10, none, o12]) ?_ ?_ _ _ _
        ⟨l, _, _, _, _, _, _, _, by have : (rngL (0, r.toNat, 1)).length = r.toNat := rngF_len _ _ _; rw [this]; omega, by have : (rngL (0, r.toNat, 1)).length = r.toNat := rngF_len _ _ _; rw [this, List.length_map]; have := w'.1.2.2; omega, hl, fun u hu => ?_, fun q hq => List.mem_map.mpr ⟨q, hq, rfl⟩, rfl, rfl⟩
      · rintro σ H ⟨l, us, o6, o7, o8, o9, o10, o12, k1, _, k2, _, _, rfl, rfl⟩
        have := nrC_ok (E := { nx := fun _ H => QD .non H, rt := QD, ex := fun x _ H => XD x H }) (us := us) (i := i) (pool := .lst pool) (o6 := o6) (o7 := o7) (o8 := o8) (o9 := o9) (o10 := o10) (o11 := none) (o12 := o12) h1 h2 hab ha gb w hn.1 (by omega : l.length ≤ 100) k2 hQ
        simp only [enc] at this
        exact this
      · rintro x xs ih σ H ⟨l, us, o6, o7, o8, o9, o10, o12, k1, k2, k3, k4, k5, rfl, rfl⟩
        simp_arith []
        rw [List.length_cons] at k1 k2
        refine nrA_ok h1 h5 h3 h4 hab (by omega) (by omega) k4 hp hpo (ih _ _ ⟨l, us, _, _, _, _, _, _, by omega, by omega, k3, k4, k5, rfl, rfl⟩) fun k s o8 o9 o10 o12 wk dk ik hs hns => ?_
        refine ih _ _ ⟨l ++ [(s, k)], us ++ [.str s], _, _, _, _, _, _, by rw [List.length_append, List.length_singleton]; omega, by rw [List.length_append, List.length_singleton]; omega, fun q hq => ?_, fun u hu => ?_, fun q hq => List.mem_append_left _ (k5 q hq), rfl, rfl⟩
        · rcases List.mem_append.mp hq with hq | hq
          · exact k3 q hq
          · rw [List.mem_singleton] at hq
            subst hq
            refine ⟨⟨hs, wk⟩, by show dp k ≤ _; omega, ?_⟩
            unfold ff
            simp only
            rw [fnd_none (fun z => ?_)]
            · exact ik
            · obtain ⟨q, hq, e⟩ := List.mem_map.mp z
              exact hns (by rw [← e]; exact k5 q hq)
        · rcases List.mem_append.mp hu with hu | hu
          · exact k4 u hu
          · rw [List.mem_singleton] at hu; exact ⟨s, hu, hs⟩
      · obtain ⟨q, hq, rfl⟩ := List.mem_map.mp hu
        exact ⟨_, rfl, (wfs_eq w'.2 q hq).1⟩
    · rintro x xs ih σ H ⟨l, ls, o6, hx, hm, hlen, hl, rfl, rfl⟩
      cases ls with
      | nil => cases hx
      | cons q ls =>
        rw [List.map_cons] at hx
        injection hx with hx1 hx2
        subst hx1; subst hx2
        have hq := hm q List.mem_cons_self
        have wq := wfs_eq w'.2 q hq
        have dq := dps_eq q hq
        rw [List.length_cons] at hlen
        have hm' : ∀ z ∈ ls, z ∈ toL fs := fun z hz => hm z (List.mem_cons_of_mem _ hz)
        simp_arith [enc1]
        refine ⟨_, rfl, by decide, fun r k0 k1 => ?_⟩
        simp_arith []
        cases decide (0 < r) with
        | false => exact ih _ _ ⟨l, ls, _, rfl, hm', by omega, hl, rfl, rfl⟩
        | true =>
          simp_arith [e1]
          refine ⟨q.2, _, rfl, wq.2, by omega, fun u wu bu fu => ?_⟩
          simp_arith [e1, e3]
          refine ⟨by rw [List.length_map]; omega, ih _ _ ⟨l ++ [(q.1, u)], ls, _, rfl, hm', by rw [List.length_append, List.length_singleton]; omega, fun z hz => ?_, by rw [List.map_append]; rfl, rfl⟩⟩
          rcases List.mem_append.mp hz with hz | hz
          · exact hl z hz
          · rw [List.mem_singleton] at hz
            subst hz
            refine ⟨⟨wq.1, wu⟩, by simp only [Bd] at bu; show dp u ≤ _; omega, ?_⟩
            unfold ff
            simp only
            rw [fnd_some w'.1.2.1 q hq]
            exact fu
  · rintro x xs acc ih H ⟨rfl, l, ls, hx, hl, rfl⟩
    cases ls with
    | nil => cases hx
    | cons q ls =>
      rw [List.map_cons] at hx
      injection hx with hx1 hx2
      subst hx1; subst hx2
      simp_arith [enc1]
      exact ih _ _ ⟨rfl, l ++ [q], ls, rfl, by rw [hl]; simp, by simp⟩
end DL

namespace DL
open PySem PySem.Spec PyProof.Rows L2
/-! ### two schemas, one grown from the other -/
def b_law_chain (l_record l_draw l_next_record l_is_schema : Nat) : Ss :=
 (.c (.set 2 (.lst false (.c (.call l_record (.c (.var 0) (.c (.idx (.lst true (.c (.con (.int 3)) (.c (.con (.int 4)) (.c (.con (.int 6)) .n)))) (.call l_draw (.c (.var 0) (.c (.con (.int 3)) .n)))) (.c (.idx (.lst true (.c (.con (.int 2)) (.c (.con (.int 3)) (.c (.con (.int 5)) (.c (.con (.int 9)) .n))))) (.call l_draw (.c (.var 0) (.c (.con (.int 4)) .n)))) .n)))) .n)))
 (.c (.set 3 (.lc true (.idx (.var 6) (.con (.int 0))) (.n 6) (.of (.idx (.idx (.var 2) (.con (.int 0))) (.con (.int 1)))) .yes [("field", 6)]))
 (.c (.for_ (.n 4) (.rng (.c (.bin true .sub (.var 1) (.con (.int 1))) .n)) (.c (.set 5 (.call l_next_record (.c (.var 0) (.c (.idx (.var 2) (.var 4)) (.c (.con (.int 8)) (.c (.var 3) .n))))))
 (.c (.ite (.of (.call l_is_schema (.c (.var 5) .n))) (.c (.ex (.mt .append (.var 2) (.c (.var 5) .n)))
 .n) (.c (.ex (.mt .append (.var 2) (.c (.idx (.var 2) (.var 4)) .n)))
 .n))
 .n)))
 (.c (.ret (.frz (.var 2)))
 .n))))
/-! ### a part turned -/
def spOther (n : Nat) : SpD := fun ds G Q _ => ∃ k i, ds = [.rnd, enc k, .int i] ∧ WK k ∧ dp k ≤ n ∧ ∀ u, WK u → dp u ≤ dp k + 8 → Q (enc u) G
def b_law_other (l_draw l_pick l_kind l_name l_other : Nat) : Ss :=
 (.c (.set 3 (.call l_draw (.c (.var 0) (.c (.con (.int 6)) .n))))
 (.c (.ite (.bo true (.c (.cmp .eq (.var 3) (.con (.int 0))) (.c (.cmp .inn (.idx (.var 1) (.con (.int 0))) (.tup (.c (.con (.str sOpt)) (.c (.con (.str sList)) .n)))) .n))) (.c (.ret (.idx (.var 1) (.con (.int 1))))
 .n) .n)
 (.c (.ite (.bo true (.c (.cmp .eq (.var 3) (.con (.int 1))) (.c (.cmp .ne (.idx (.var 1) (.con (.int 0))) (.con (.str sOpt))) .n))) (.c (.ret (.tup (.c (.con (.str sOpt)) (.c (.var 1) .n))))
 .n) .n)
 (.c (.ite (.cmp .eq (.var 3) (.con (.int 2))) (.c (.ret (.tup (.c (.con (.str sList)) (.c (.var 1) .n))))
 .n) .n)
 (.c (.ite (.cmp .inn (.idx (.var 1) (.con (.int 0))) (.tup (.c (.con (.str sInt)) (.c (.con (.str sText)) (.c (.con (.str sBool)) .n))))) (.c (.ret (.tup (.c (.call l_pick (.c (.var 0) (.c (.lst true (.c (.con (.str sInt)) (.c (.con (.str sText)) (.c (.con (.str sBool)) .n)))) .n))) .n)))
 .n) .n)
 (.c (.ite (.cmp .eq (.idx (.var 1) (.con (.int 0))) (.con (.str sRec))) (.c (.set 4 (.call l_draw (.c (.var 0) (.c (.bf true .len (.c (.idx (.var 1) (.con (.int 1))) .n)) .n))))
 (.c (.set 5 (.bf false .list (.c (.idx (.var 1) (.con (.int 1))) .n)))
 (.c (.ite (.bo true (.c (.cmp .eq (.var 3) (.con (.int 3))) (.c (.cmp .gt (.bf true .len (.c (.var 5) .n)) (.con (.int 1))) .n))) (.c (.fz 5) (.c (.ret (.tup (.c (.con (.str sRec)) (.c (.bf true .tuple (.c (.bin true .add (.sl true (.var 5) .no (.var 4)) (.sl true (.var 5) (.bin true .add (.var 4) (.con (.int 1))) .no)) .n)) .n))))
 .n)) .n)
 (.c (.ite (.cmp .eq (.var 3) (.con (.int 4))) (.c (.fz 5) (.c (.set 6 (.lc true (.idx (.var 8) (.con (.int 0))) (.n 8) (.of (.var 5)) .yes [("field", 8)]))
 (.c (.set 7 (.call l_kind (.c (.var 0) (.c (.con (.int 2)) (.c (.con (.int 1)) .n)))))
 (.c (.ret (.tup (.c (.con (.str sRec)) (.c (.bf true .tuple (.c (.sl true (.bin true .add (.bin true .add (.sl true (.var 5) .no (.var 4)) (.lst true (.c (.tup (.c (.call l_name (.c (.var 0) (.c (.var 6) .n))) (.c (.var 7) .n))) .n))) (.sl true (.var 5) (.var 4) .no)) .no (.con (.int 8))) .n)) .n))))
 .n)))) .n)
 (.c (.setI (.var 5) (.var 4) (.tup (.c (.idx (.idx (.var 5) (.var 4)) (.con (.int 0))) (.c (.call l_other (.c (.var 0) (.c (.idx (.idx (.var 5) (.var 4)) (.con (.int 1))) (.c (.bin true .sub (.var 2) (.con (.int 1))) .n)))) .n))))
 (.c (.fz 5) (.c (.ret (.tup (.c (.con (.str sRec)) (.c (.bf true .tuple (.c (.var 5) .n)) .n))))
 .n))))))) .n)
 (.c (.set 7 (.call l_other (.c (.var 0) (.c (.idx (.var 1) (.con (.int 1))) (.c (.bin true .sub (.var 2) (.con (.int 1))) .n)))))
 (.c (.ite (.bo true (.c (.cmp .eq (.idx (.var 1) (.con (.int 0))) (.con (.str sOpt))) (.c (.cmp .eq (.idx (.var 7) (.con (.int 0))) (.con (.str sOpt))) .n))) (.c (.ret (.var 7))
 .n) .n)
 (.c (.ret (.tup (.c (.idx (.var 1) (.con (.int 0))) (.c (.var 7) .n))))
 .n)))))))))
theorem wk_rec {l : List (List Nat × Kd)} (h : ∀ q ∈ l, Low q.1 ∧ WK q.2) (hne : l ≠ []) (h8 : l.length ≤ 8) : WK (.recd (fsOf l)) := by
  simp only [WK]
  exact ⟨⟨by cases l <;> simp_all [fsOf], by rw [toL_of]; exact h8⟩, wks_of h⟩
theorem other_ok {Γ : Gam} {dr pk kd nm ot n : Nat} (h1 : Γ.sp dr = spDraw) (h2 : Γ.sp pk = spPick) (h3 : Γ.sp kd = spKind 8) (h4 : Γ.sp nm = spName) (h5 : Γ.sp ot = spOther n) (ds : List D) (G : HD) (QD : KD) (XD : KX) (h : spOther (n + 1) ds G QD XD) :
    wSs Γ (b_law_other dr pk kd nm ot) { nx := fun _ H => QD .non H, rt := QD, ex := fun x _ H => XD x H } (startD 9 ds) G := by
  obtain ⟨k, i, rfl, w, hn, hQ⟩ := h
  have hlim : lim = 16777216 := rfl
  have qo : QD (.tup [.str sOpt, enc k]) G := by
    have := hQ (.one true k) (by simpa only [WK] using w) (by simp only [dp]; omega)
    exact (by simpa only [enc] using this : QD (.tup [.str (sOne true), enc k]) G)
  have ql : QD (.tup [.str sList, enc k]) G := by
    have := hQ (.one false k) (by simpa only [WK] using w) (by simp only [dp]; omega)
    exact (by simpa only [enc] using this : QD (.tup [.str (sOne false), enc k]) G)
  unfold b_law_other
  cases k with
  | leaf k =>
    simp only [enc] at qo ql
    have leaf : spPick [.rnd, .lst [.str sInt, .str sText, .str sBool]] G (fun d H1 => QD (.tup [d]) H1) fun x H1 => XD x H1 := by
      refine ⟨_, rfl, by decide, fun d hd => ?_⟩
      simp only [List.mem_cons, List.not_mem_nil, or_false] at hd
      rcases hd with rfl | rfl | rfl
      · simpa only [enc] using hQ (.leaf sInt) (by simp [WK]) (by simp [dp])
      · simpa only [enc] using hQ (.leaf sText) (by simp [WK]) (by simp [dp])
      · simpa only [enc] using hQ (.leaf sBool) (by simp [WK]) (by simp [dp])
    simp_arith [h1, h2, h3, h4, h5, enc]
    refine ⟨_, rfl, by decide, fun r q0 q1 => ?_⟩
    simp_arith [k_in2 w, k_in3 w, k_opt w, k_list w, k_rec w]
    cases (r == 0) <;> cases (r == 1) <;> cases (r == 2)
    all_goals (simp_arith [k_in2 w, k_in3 w, k_opt w, k_list w, k_rec w])
    all_goals first | exact leaf | exact qo | exact ql
  | one o a =>
    simp only [WK] at w
    simp only [dp] at hn
    have wa := wk_hd w
    have q0 : QD (enc a) G := hQ a w (by simp only [dp]; omega)
    simp only [enc] at qo ql
    have fin : spOther n [.rnd, enc a, .int (i - 1)] G (fun d H1 => wSs Γ (.c (.ite (.bo true (.c (.cmp .eq (.idx (.var 1) (.con (.int 0))) (.con (.str sOpt))) (.c (.cmp .eq (.idx (.var 7) (.con (.int 0))) (.con (.str sOpt))) .n))) (.c (.ret (.var 7))
 .n) .n)
 (.c (.ret (.tup (.c (.idx (.var 1) (.con (.int 0))) (.c (.var 7) .n)))) .n)) { nx := fun _ H => QD .non H, rt := QD, ex := fun x _ H => XD x H } [some .rnd, some (.tup [.str (sOne o), enc a]), some (.int i), some (.int 0), none, none, none, some d, none] H1) fun x H1 => XD x H1 := by
      refine ⟨a, _, rfl, w, by omega, fun u wu bu => ?_⟩
      obtain ⟨r, e⟩ := enc_hd u
      have e1 := (wk_hd wu).1
      have r1 : QD (enc u) G := hQ u wu (by simp only [dp]; omega)
      have r2 : QD (.tup [.str (sOne o), enc u]) G := by
        have := hQ (.one o u) (by simpa only [WK] using wu) (by simp only [dp]; omega)
        simpa only [enc] using this
      rw [e] at r1 r2 ⊢
      simp_arith [o_opt, e1]
      cases o with
      | false => exact r2
      | true =>
        simp_arith [e1]
        cases isOpt u with
        | true => exact r1
        | false => exact r2
    simp_arith [h1, h2, h3, h4, h5, enc]
    refine ⟨_, rfl, by decide, fun r k0 k1 => ?_⟩
    simp -implicitDefEqProofs only [Gam.isb, ok_some, ok_none, newL_t, newL_f, isTy, wipeD, isNo, wPart, wE, wEs, wBo, wT, wTs, wI, wSU, offD, onD, wS, wSs, startD, c_getD0, c_getDS, c_set0, c_setS, c_lenC, c_lenN, c_mapC, c_mapN, c_get0, c_getS, c_appC, c_appN, c_repS, c_rep0, c_anyC, c_anyN, c_decT, c_decF, c_orF, c_orT, c_Tor, c_For, c_nT, c_nF, c_Tand, c_andT, c_decE, c_oms, c_ifT, c_ifF, c_fT, q_add_ii, q_add_ss, q_add_tt, q_add_l, q_add_r, q_sub, q_mul, q_mul_l, q_mul_s, q_fdiv, q_mod, q_pow, q_xor, q_bor, q_band, q_seqH_l, q_seqH_r, q_seq_l, q_seq_s, q_seq_r, q_seq_t, q_itm_t, q_itm_l, q_itm_s, q_itm_r, q_len_str, q_len_t, q_len_l, q_len_s, q_len_r, q_tr_n, q_tr_b, q_tr_i, q_tr_str, q_tr_t, q_tr_l, q_tr_s, q_tr_r, q_eq, q_ne, q_lt, q_le, q_gt, q_ge, q_inn, q_ind, q_nind, q_nin, q_is_n, q_is_b, q_is_i, q_is_str, q_is_t, q_is_l, q_is_r, q_is_bb, q_ns_bb, q_ns_n, q_ns_b, q_ns_i, q_ns_str, q_ns_t, q_ns_l, q_ns_r, q_eq_ii, q_eq_ss, q_eq_bb, q_eq_nn, q_idx_t, q_idx_l, q_idx_s, q_idx_str, q_idx_r, at_0, at_1, at_2, at_3, at_4, at_5, q_bf_len, q_bf_abs, q_bf_int, q_bf_intb, q_bf_bool, q_bf_tup, q_imT_t, q_imT_l, q_imT_s, q_imT_r, q_itm_p, q_len_p, q_idx_p, q_walk_p, q_asg_p, q_bf_lst, q_bf_all, q_bf_any, q_bf_allT, q_bf_min2, q_bf_max2, q_bf_sum, q_bf_ord, q_ty_n, q_ty_b, q_ty_i, q_ty_str, q_ty_t, q_ty_l, q_ty_s, q_ty_r, q_app, q_ext, q_pop, q_popI, q_join, q_rcv_app, q_rcv_ext, q_rcv_pop, q_rcv_join, q_rcv_sidx, q_rcv_scnt, q_rcv_tcnt, q_tcnt, q_rcv_idxD, q_idxD, q_rcv_sfnd, q_sidx, q_scnt, q_sfnd, q_sl_str, q_sl_t, q_sl_l, q_sl_r, q_sl_s, q_frz_r, q_frz_l, q_frz_str, q_frz_t, q_frz_b, q_frz_n, q_frz_i, q_walk_t, q_walk_l, q_walk_s, q_walk_str, q_fix_t, q_fix_l, q_asg_n, q_asg_t, q_asgs_n, q_asgs_c, q_rg_t, q_rg_f, Nat.reduceAdd, Nat.reduceSub, reduceCtorEq, Int.reduceToNat, Int.reduceLT, Int.reduceLE, Int.reduceNeg, o_opt] at fin
    simp_arith [o_in2, one_in, o_opt, o_list, one_nr]
    cases (r == 0) <;> cases (r == 1) <;> cases (r == 2) <;> cases o
    all_goals (simp_arith [o_in2, one_in, o_opt, o_list, one_nr])
    all_goals first | exact q0 | exact qo | exact ql | exact fin
  | recd fs =>
    simp only [WK] at w
    simp only [dp] at hn
    simp only [enc] at qo ql
    have hpos : 0 < (toL fs).length := List.length_pos_iff.mpr (toL_ne w.1.1)
    have hw : ∀ q ∈ toL fs, Low q.1 ∧ WK q.2 := fun q hq => wks_eq w.2 q hq
    have fin : ∀ l : List (List Nat × Kd), l ≠ [] → l.length ≤ 8 → (∀ q ∈ l, (Low q.1 ∧ WK q.2) ∧ dp q.2 ≤ dps fs + 8) → QD (.tup [.str sRec, .tup (l.map enc1)]) G := fun l l1 l2 l3 => by
      have := hQ (.recd (fsOf l)) (wk_rec (fun q hq => (l3 q hq).1) l1 l2) (by
        have := dps_of_le (l := l) (n := dps fs + 8) fun q hq => (l3 q hq).2
        simp only [dp]; omega)
      simp only [enc, encs_of] at this
      exact this
    have el : (encs fs).length = (toL fs).length := by rw [encs_eq, List.length_map]
    simp_arith [h1, h2, h3, h4, h5, enc]
    refine ⟨_, rfl, by decide, fun r k0 k1 => ?_⟩
    simp_arith [r_in2, rec_in, r_opt, r_list, r_rec]
    have main : ∀ r : Int, spDraw [.rnd, .int (encs fs).length] G (fun d H1 => wSs Γ (.c (.set 5 (.bf false .list (.c (.idx (.var 1) (.con (.int 1))) .n)))
 (.c (.ite (.bo true (.c (.cmp .eq (.var 3) (.con (.int 3))) (.c (.cmp .gt (.bf true .len (.c (.var 5) .n)) (.con (.int 1))) .n))) (.c (.fz 5) (.c (.ret (.tup (.c (.con (.str sRec)) (.c (.bf true .tuple (.c (.bin true .add (.sl true (.var 5) .no (.var 4)) (.sl true (.var 5) (.bin true .add (.var 4) (.con (.int 1))) .no)) .n)) .n))))
 .n)) .n)
 (.c (.ite (.cmp .eq (.var 3) (.con (.int 4))) (.c (.fz 5) (.c (.set 6 (.lc true (.idx (.var 8) (.con (.int 0))) (.n 8) (.of (.var 5)) .yes [("field", 8)]))
 (.c (.set 7 (.call kd (.c (.var 0) (.c (.con (.int 2)) (.c (.con (.int 1)) .n)))))
 (.c (.ret (.tup (.c (.con (.str sRec)) (.c (.bf true .tuple (.c (.sl true (.bin true .add (.bin true .add (.sl true (.var 5) .no (.var 4)) (.lst true (.c (.tup (.c (.call nm (.c (.var 0) (.c (.var 6) .n))) (.c (.var 7) .n))) .n))) (.sl true (.var 5) (.var 4) .no)) .no (.con (.int 8))) .n)) .n))))
 .n)))) .n)
 (.c (.setI (.var 5) (.var 4) (.tup (.c (.idx (.idx (.var 5) (.var 4)) (.con (.int 0))) (.c (.call ot (.c (.var 0) (.c (.idx (.idx (.var 5) (.var 4)) (.con (.int 1))) (.c (.bin true .sub (.var 2) (.con (.int 1))) .n)))) .n))))
 (.c (.fz 5) (.c (.ret (.tup (.c (.con (.str sRec)) (.c (.bf true .tuple (.c (.var 5) .n)) .n))))
 .n)))))) { nx := fun _ H => QD .non H, rt := QD, ex := fun x _ H => XD x H } [some .rnd, some (.tup [.str sRec, .tup (encs fs)]), some (.int i), some (.int r), some d, none, none, none, none] H1) fun x H1 => XD x H1 := by
      intro r
      refine ⟨_, rfl, ⟨by omega, by have := w.1.2; omega⟩, fun at' k0 k1 => ?_⟩
      obtain ⟨k, rfl⟩ := Int.eq_ofNat_of_zero_le k0
      have hk : k < (toL fs).length := by omega
      have c1 : cutL (encs fs) none (some (k : Int)) = ((toL fs).take k).map enc1 := by rw [cut_pre_any, encs_eq, List.map_take]
      have c2 : cutL (encs fs) (some ((k : Int) + 1)) none = ((toL fs).drop (k + 1)).map enc1 := by rw [cut_suf ⟨by omega, by omega⟩, encs_eq, List.map_drop]; rfl
      have c3 : cutL (encs fs) (some (k : Int)) none = ((toL fs).drop k).map enc1 := by rw [cut_suf ⟨by omega, by omega⟩, encs_eq, List.map_drop]; rfl
      have ea : atI (encs fs) (k : Int) = some (enc1 (toL fs)[k]) := by
        rw [at_nat, encs_eq, List.getElem?_map, List.getElem?_eq_getElem hk]; rfl
      simp_arith []
      intro p hp
      have e3 : ∀ x, delD (updD G p x) p = G := fun x => delD_updD hp
      have tail : wSs Γ (.c (.ite (.cmp .eq (.var 3) (.con (.int 4))) (.c (.fz 5) (.c (.set 6 (.lc true (.idx (.var 8) (.con (.int 0))) (.n 8) (.of (.var 5)) .yes [("field", 8)]))
 (.c (.set 7 (.call kd (.c (.var 0) (.c (.con (.int 2)) (.c (.con (.int 1)) .n)))))
 (.c (.ret (.tup (.c (.con (.str sRec)) (.c (.bf true .tuple (.c (.sl true (.bin true .add (.bin true .add (.sl true (.var 5) .no (.var 4)) (.lst true (.c (.tup (.c (.call nm (.c (.var 0) (.c (.var 6) .n))) (.c (.var 7) .n))) .n))) (.sl true (.var 5) (.var 4) .no)) .no (.con (.int 8))) .n)) .n))))
 .n)))) .n)
 (.c (.setI (.var 5) (.var 4) (.tup (.c (.idx (.idx (.var 5) (.var 4)) (.con (.int 0))) (.c (.call ot (.c (.var 0) (.c (.idx (.idx (.var 5) (.var 4)) (.con (.int 1))) (.c (.bin true .sub (.var 2) (.con (.int 1))) .n)))) .n))))
 (.c (.fz 5) (.c (.ret (.tup (.c (.con (.str sRec)) (.c (.bf true .tuple (.c (.var 5) .n)) .n))))
 .n)))) { nx := fun _ H => QD .non H, rt := QD, ex := fun x _ H => XD x H } [some .rnd, some (.tup [.str sRec, .tup (encs fs)]), some (.int i), some (.int r), some (.int k), some (.ref p), none, none, none] (updD G p (.lst (encs fs))) := by
        simp_arith []
        cases (r == 4) with
        | true =>
          simp_arith [updD_same, e3]
          refine lcD_ind (fun xs acc H => H = G ∧ ∃ l ls : List (List Nat × Kd), xs = ls.map enc1 ∧ toL fs = l ++ ls ∧ acc = l.map fun q => .str q.1) ?_ ?_ _ _ _ ⟨rfl, [], toL fs, encs_eq fs, rfl, rfl⟩
          · rintro acc H ⟨rfl, l0, ls, hx, hl0, rfl⟩
            have : ls = [] := by cases ls <;> first | rfl | cases hx
            subst this
            rw [List.append_nil] at hl0
            simp_arith [h3, h4]
            refine ⟨2, 1, rfl, by decide, by decide, fun u wu du _ => ?_⟩
            simp_arith [c1, c3, h4]
            refine ⟨_, _, rfl, .inl rfl, by rw [List.length_map, ← hl0]; have := w.1.2; omega, fun u hu => ?_, fun s hs _ => ?_⟩
            · obtain ⟨q, hq, rfl⟩ := List.mem_map.mp hu
              exact ⟨_, rfl, (hw q (by rw [hl0]; exact hq)).1⟩
            · simp_arith []
              have hb := w.1.2
              refine ⟨by rw [List.length_map, List.length_take]; omega, ?_⟩
              refine ⟨by rw [List.length_append, List.length_map, List.length_take, List.length_map, List.length_drop]; (try simp only [List.length_cons, List.length_nil]); omega, ?_⟩
              have c4 : cutL (((toL fs).take k).map enc1 ++ [.tup [.str s, enc u]] ++ ((toL fs).drop k).map enc1) none (some 8) = (((toL fs).take k ++ [(s, u)] ++ (toL fs).drop k).take 8).map enc1 := by
                rw [show (8 : Int) = ((8 : Nat) : Int) from rfl, cut_pre_any]; simp only [List.map_take, List.map_append, List.map_drop]; rfl
              simp_arith [c4]
              refine fin _ (fun z => ?_) (by rw [List.length_take]; omega) fun q hq => ?_
              · have := congrArg List.length z
                simp only [List.length_take, List.length_append, List.length_drop, List.length_nil, List.length_cons] at this
                omega
              · rcases List.mem_append.mp (List.mem_of_mem_take hq) with hq | hq
                · rcases List.mem_append.mp hq with hq | hq
                  · have hq := List.mem_of_mem_take hq
                    exact ⟨hw q hq, by have := dps_eq q hq; omega⟩
                  · rw [List.mem_singleton] at hq
                    subst hq
                    exact ⟨⟨hs, wk_of _ wu⟩, by show dp u ≤ _; omega⟩
                · have hq := List.mem_of_mem_drop hq
                  exact ⟨hw q hq, by have := dps_eq q hq; omega⟩
          · rintro x xs acc ih H ⟨rfl, l, ls, hx, hl, rfl⟩
            cases ls with
            | nil => cases hx
            | cons q ls =>
              rw [List.map_cons] at hx
              injection hx with hx1 hx2
              subst hx1; subst hx2
              simp_arith [enc1]
              exact ih _ _ ⟨rfl, l ++ [q], ls, rfl, by rw [hl]; simp, by simp⟩
        | false =>
          have hq : (toL fs)[k] ∈ toL fs := List.getElem_mem hk
          have dq := dps_eq _ hq
          simp_arith [updD_same, ea, enc1, h5]
          refine ⟨_, _, rfl, (hw _ hq).2, by omega, fun u wu bu => ?_⟩
          simp_arith [updD_same, updD_updD, e3]
          refine ⟨⟨by omega, by omega⟩, ?_⟩
          have e4 : (encs fs).set (k : Int).toNat (.tup [.str (toL fs)[k].1, enc u]) = ((toL fs).set k ((toL fs)[k].1, u)).map enc1 := by
            rw [encs_eq, List.map_set]; rfl
          rw [e4]
          refine fin _ (fun z => ?_) (by rw [List.length_set]; exact w.1.2) fun q hq' => ?_
          · have := congrArg List.length z
            rw [List.length_set, List.length_nil] at this
            omega
          · rcases List.mem_or_eq_of_mem_set hq' with hq' | hq'
            · exact ⟨hw q hq', by have := dps_eq q hq'; omega⟩
            · subst hq'
              exact ⟨⟨(hw _ hq).1, wu⟩, by show dp u ≤ _; omega⟩
      simp -implicitDefEqProofs only [Gam.isb, ok_some, ok_none, newL_t, newL_f, isTy, wipeD, isNo, wPart, wE, wEs, wBo, wT, wTs, wI, wSU, offD, onD, wS, wSs, startD, c_getD0, c_getDS, c_set0, c_setS, c_lenC, c_lenN, c_mapC, c_mapN, c_get0, c_getS, c_appC, c_appN, c_repS, c_rep0, c_anyC, c_anyN, c_decT, c_decF, c_orF, c_orT, c_Tor, c_For, c_nT, c_nF, c_Tand, c_andT, c_decE, c_oms, c_ifT, c_ifF, c_fT, q_add_ii, q_add_ss, q_add_tt, q_add_l, q_add_r, q_sub, q_mul, q_mul_l, q_mul_s, q_fdiv, q_mod, q_pow, q_xor, q_bor, q_band, q_seqH_l, q_seqH_r, q_seq_l, q_seq_s, q_seq_r, q_seq_t, q_itm_t, q_itm_l, q_itm_s, q_itm_r, q_len_str, q_len_t, q_len_l, q_len_s, q_len_r, q_tr_n, q_tr_b, q_tr_i, q_tr_str, q_tr_t, q_tr_l, q_tr_s, q_tr_r, q_eq, q_ne, q_lt, q_le, q_gt, q_ge, q_inn, q_ind, q_nind, q_nin, q_is_n, q_is_b, q_is_i, q_is_str, q_is_t, q_is_l, q_is_r, q_is_bb, q_ns_bb, q_ns_n, q_ns_b, q_ns_i, q_ns_str, q_ns_t, q_ns_l, q_ns_r, q_eq_ii, q_eq_ss, q_eq_bb, q_eq_nn, q_idx_t, q_idx_l, q_idx_s, q_idx_str, q_idx_r, at_0, at_1, at_2, at_3, at_4, at_5, q_bf_len, q_bf_abs, q_bf_int, q_bf_intb, q_bf_bool, q_bf_tup, q_imT_t, q_imT_l, q_imT_s, q_imT_r, q_itm_p, q_len_p, q_idx_p, q_walk_p, q_asg_p, q_bf_lst, q_bf_all, q_bf_any, q_bf_allT, q_bf_min2, q_bf_max2, q_bf_sum, q_bf_ord, q_ty_n, q_ty_b, q_ty_i, q_ty_str, q_ty_t, q_ty_l, q_ty_s, q_ty_r, q_app, q_ext, q_pop, q_popI, q_join, q_rcv_app, q_rcv_ext, q_rcv_pop, q_rcv_join, q_rcv_sidx, q_rcv_scnt, q_rcv_tcnt, q_tcnt, q_rcv_idxD, q_idxD, q_rcv_sfnd, q_sidx, q_scnt, q_sfnd, q_sl_str, q_sl_t, q_sl_l, q_sl_r, q_sl_s, q_frz_r, q_frz_l, q_frz_str, q_frz_t, q_frz_b, q_frz_n, q_frz_i, q_walk_t, q_walk_l, q_walk_s, q_walk_str, q_fix_t, q_fix_l, q_asg_n, q_asg_t, q_asgs_n, q_asgs_c, q_rg_t, q_rg_f, Nat.reduceAdd, Nat.reduceSub, reduceCtorEq, Int.reduceToNat, Int.reduceLT, Int.reduceLE, Int.reduceNeg, updD_same, updD_updD, e3, h3, h4, h5] at tail
      simp_arith [updD_same, updD_updD, e3, h3, h4, h5]
      cases (r == 3) with
      | false =>
        simp_arith []
        exact tail
      | true =>
        simp_arith []
        cases hc : decide ((1 : Int) < (encs fs).length) with
        | false => exact tail
        | true =>
          have hc := of_decide_eq_true hc
          have hb := w.1.2
          simp_arith [c1, c2]
          refine ⟨by rw [List.length_map, List.length_take, List.length_map, List.length_drop]; omega, ?_⟩
          rw [← List.map_append]
          refine fin _ (fun z => ?_) (by rw [List.length_append, List.length_take, List.length_drop]; omega) fun q hq => ?_
          · have := congrArg List.length z
            simp only [List.length_take, List.length_append, List.length_drop, List.length_nil] at this
            omega
          · have hq : q ∈ toL fs := by
              rcases List.mem_append.mp hq with hq | hq
              · exact List.mem_of_mem_take hq
              · exact List.mem_of_mem_drop hq
            exact ⟨hw q hq, by have := dps_eq q hq; omega⟩
    have m2 := main r
    simp -implicitDefEqProofs only [Gam.isb, ok_some, ok_none, newL_t, newL_f, isTy, wipeD, isNo, wPart, wE, wEs, wBo, wT, wTs, wI, wSU, offD, onD, wS, wSs, startD, c_getD0, c_getDS, c_set0, c_setS, c_lenC, c_lenN, c_mapC, c_mapN, c_get0, c_getS, c_appC, c_appN, c_repS, c_rep0, c_anyC, c_anyN, c_decT, c_decF, c_orF, c_orT, c_Tor, c_For, c_nT, c_nF, c_Tand, c_andT, c_decE, c_oms, c_ifT, c_ifF, c_fT, q_add_ii, q_add_ss, q_add_tt, q_add_l, q_add_r, q_sub, q_mul, q_mul_l, q_mul_s, q_fdiv, q_mod, q_pow, q_xor, q_bor, q_band, q_seqH_l, q_seqH_r, q_seq_l, q_seq_s, q_seq_r, q_seq_t, q_itm_t, q_itm_l, q_itm_s, q_itm_r, q_len_str, q_len_t, q_len_l, q_len_s, q_len_r, q_tr_n, q_tr_b, q_tr_i, q_tr_str, q_tr_t, q_tr_l, q_tr_s, q_tr_r, q_eq, q_ne, q_lt, q_le, q_gt, q_ge, q_inn, q_ind, q_nind, q_nin, q_is_n, q_is_b, q_is_i, q_is_str, q_is_t, q_is_l, q_is_r, q_is_bb, q_ns_bb, q_ns_n, q_ns_b, q_ns_i, q_ns_str, q_ns_t, q_ns_l, q_ns_r, q_eq_ii, q_eq_ss, q_eq_bb, q_eq_nn, q_idx_t, q_idx_l, q_idx_s, q_idx_str, q_idx_r, at_0, at_1, at_2, at_3, at_4, at_5, q_bf_len, q_bf_abs, q_bf_int, q_bf_intb, q_bf_bool, q_bf_tup, q_imT_t, q_imT_l, q_imT_s, q_imT_r, q_itm_p, q_len_p, q_idx_p, q_walk_p, q_asg_p, q_bf_lst, q_bf_all, q_bf_any, q_bf_allT, q_bf_min2, q_bf_max2, q_bf_sum, q_bf_ord, q_ty_n, q_ty_b, q_ty_i, q_ty_str, q_ty_t, q_ty_l, q_ty_s, q_ty_r, q_app, q_ext, q_pop, q_popI, q_join, q_rcv_app, q_rcv_ext, q_rcv_pop, q_rcv_join, q_rcv_sidx, q_rcv_scnt, q_rcv_tcnt, q_tcnt, q_rcv_idxD, q_idxD, q_rcv_sfnd, q_sidx, q_scnt, q_sfnd, q_sl_str, q_sl_t, q_sl_l, q_sl_r, q_sl_s, q_frz_r, q_frz_l, q_frz_str, q_frz_t, q_frz_b, q_frz_n, q_frz_i, q_walk_t, q_walk_l, q_walk_s, q_walk_str, q_fix_t, q_fix_l, q_asg_n, q_asg_t, q_asgs_n, q_asgs_c, q_rg_t, q_rg_f, Nat.reduceAdd, Nat.reduceSub, reduceCtorEq, Int.reduceToNat, Int.reduceLT, Int.reduceLE, Int.reduceNeg, h3, h4, h5] at m2
    cases (r == 0) <;> cases (r == 1) <;> cases (r == 2)
    all_goals (simp_arith [r_in2, rec_in, r_opt, r_list, r_rec])
    all_goals first | exact m2 | exact qo | exact ql
end DL

namespace DL
open PySem PySem.Spec PyProof.Rows L2
/-! ## 26. Columns: what stands in them -/
def trip (t l : Int) (v : D) : D := .tup [.int t, .int l, v]
def enl (f : Int → D → List D) (t s : Int) : List D → List D
  | [] => []
  | x :: xs => f t x ++ xs.flatMap (f (s + 1))
-- the entries of the i-th leaf
mutual
def en : Kd → Nat → D → Int → Int → Int → List D
  | .leaf _, _, v, t, l, _ => [trip t l v]
  | .one true a, i, v, t, l, s => match v with
    | .non => [trip t l .non]
    | v => en a i v t (l + 1) s
  | .one false a, i, v, t, l, s => match v with
    | .tup (x :: xs) => enl (fun t' y => en a i y t' (l + 1) (s + 1)) t s (x :: xs)
    | _ => [trip t l .non]
  | .recd fs, i, v, t, l, s => match v with
    | .tup vs => ens fs i vs t l s
    | _ => []
def ens : Fs → Nat → List D → Int → Int → Int → List D
  | .nil, _, _, _, _, _ => []
  | .cons _ k fs, i, vs, t, l, s => match vs with
    | v :: r => if i < (lv k).length then en k i v t l s else ens fs (i - (lv k).length) r t l s
    | [] => []
end
theorem mem_le_sum : ∀ {l : List Nat} {x : Nat}, x ∈ l → x ≤ l.sum
  | [], _, h => nomatch h
  | y :: l, x, h => by
    rw [List.sum_cons]
    rcases List.mem_cons.mp h with rfl | h
    · omega
    · have := mem_le_sum h; omega
theorem okv_list {a : Kd} {v : D} {n : Nat} (h : OkV (.one false a) v n) : ∃ vs, v = .tup vs ∧ vs.length ≤ n ∧ ∀ x ∈ vs, ∃ m, m ≤ n ∧ OkV a x m := by
  simp only [OkV] at h
  obtain ⟨vs, ms, rfl, h1, h2, h3⟩ := h
  refine ⟨vs, rfl, by omega, fun x hx => ?_⟩
  obtain ⟨i, hi, e⟩ := List.mem_iff_getElem.mp hx
  have hm : i < ms.length := by omega
  have := mem_le_sum (List.getElem_mem hm)
  exact ⟨ms[i], by omega, h3 i x _ (by rw [← e]; exact List.getElem?_eq_getElem hi) (List.getElem?_eq_getElem hm)⟩
theorem okvs_len : ∀ {fs : Fs} {vs : List D} {n : Nat}, OkVs fs vs n → vs.length = (toL fs).length
  | .nil, vs, n, h => by simp only [OkVs] at h; subst h; rfl
  | .cons m k fs, vs, n, h => by
    simp only [OkVs] at h
    obtain ⟨v, r, a, b, rfl, _, _, h2⟩ := h
    simp only [toL, List.length_cons, okvs_len h2]
theorem okv_ne {k : Kd} {v : D} {n : Nat} (h : OkV k v n) (ho : isOpt k = false) : v ≠ .non := by
  rintro rfl
  cases k with
  | leaf k => simp only [OkV, LeafV] at h; rcases h with ⟨_, _, z, _⟩ | ⟨_, _, z, _⟩ | ⟨_, _, z⟩ <;> cases z
  | one o a =>
    cases o with
    | true => cases ho
    | false => simp only [OkV] at h; obtain ⟨_, _, z, _⟩ := h; cases z
  | recd fs => simp only [OkV] at h; obtain ⟨_, z, _⟩ := h; cases z
theorem pys_all : ∀ {vs : List D}, (∀ x ∈ vs, ∃ y, py x = some y) → ∃ ys, pys vs = some ys
  | [], _ => ⟨[], by simp [pys]⟩
  | v :: vs, h => by
    obtain ⟨y, e⟩ := h v List.mem_cons_self
    obtain ⟨ys, e2⟩ := pys_all (vs := vs) fun x hx => h x (List.mem_cons_of_mem _ hx)
    exact ⟨y :: ys, by simp [pys, e, e2]⟩
mutual
theorem py_okv : ∀ k v n, OkV k v n → ∃ x, py v = some x
  | .leaf k, v, n, h => by
    simp only [OkV, LeafV] at h
    rcases h with ⟨_, i, rfl, _⟩ | ⟨_, i, rfl, _⟩ | ⟨_, i, rfl⟩ <;> (simp only [py]; exact ⟨_, rfl⟩)
  | .one true a, v, n, h => by
    simp only [OkV] at h
    rcases h with rfl | h
    · simp only [py]; exact ⟨_, rfl⟩
    · exact py_okv a v n h
  | .one false a, v, n, h => by
    obtain ⟨vs, rfl, _, h2⟩ := okv_list h
    obtain ⟨ys, e⟩ := pys_all (vs := vs) fun x hx => let ⟨m, _, q⟩ := h2 x hx; py_okv a x m q
    simp only [py, e]; exact ⟨_, rfl⟩
  | .recd fs, v, n, h => by
    simp only [OkV] at h
    obtain ⟨vs, rfl, h⟩ := h
    obtain ⟨ys, e⟩ := py_okvs fs vs n h
    simp only [py, e]; exact ⟨_, rfl⟩
theorem py_okvs : ∀ fs vs n, OkVs fs vs n → ∃ x, pys vs = some x
  | .nil, vs, n, h => by simp only [OkVs] at h; subst h; exact ⟨[], by simp only [pys]⟩
  | .cons m k fs, vs, n, h => by
    simp only [OkVs] at h
    obtain ⟨v, r, a, b, rfl, _, h1, h2⟩ := h
    obtain ⟨x, e⟩ := py_okv k v a h1
    obtain ⟨ys, e2⟩ := py_okvs fs r b h2
    simp only [pys, e, e2]; exact ⟨_, rfl⟩
end
theorem flat_len {f : D → List D} : ∀ {vs : List D} {ms : List Nat}, vs.length = ms.length → (∀ (i : Nat) (x : D) (m : Nat), vs[i]? = some x → ms[i]? = some m → (f x).length ≤ m + 1) → (vs.flatMap f).length ≤ vs.length + ms.sum
  | [], _, _, _ => by simp
  | v :: vs, [], h, _ => by simp at h
  | v :: vs, m :: ms, h, h2 => by
    have h1 := h2 0 v m rfl rfl
    have := flat_len (f := f) (vs := vs) (ms := ms) (by simpa using h) fun i x m a b => h2 (i + 1) x m (by simpa using a) (by simpa using b)
    rw [List.flatMap_cons, List.length_append, List.length_cons, List.sum_cons]; omega
mutual
theorem en_len : ∀ k i v n t l s, OkV k v n → (en k i v t l s).length ≤ n + 1
  | .leaf k, i, v, n, t, l, s, h => by simp [en]
  | .one true a, i, v, n, t, l, s, h => by
    simp only [OkV] at h
    by_cases hv : v = .non
    · subst hv; simp [en]
    · have := en_len a i v n t (l + 1) s (h.resolve_left hv)
      cases v <;> first | exact absurd rfl hv | simpa only [en] using this
  | .one false a, i, v, n, t, l, s, h => by
    simp only [OkV] at h
    obtain ⟨vs, ms, rfl, h1, h2, h3⟩ := h
    cases vs with
    | nil => simp [en]
    | cons v vs =>
      cases ms with
      | nil => simp at h1
      | cons m ms =>
        have q0 := en_len a i v m t (l + 1) (s + 1) (h3 0 v m rfl rfl)
        have q1 := flat_len (f := fun y => en a i y (s + 1) (l + 1) (s + 1)) (vs := vs) (ms := ms) (by simpa using h1) fun j x m' a1 b1 => en_len a i x m' (s + 1) (l + 1) (s + 1) (h3 (j + 1) x m' (by simpa using a1) (by simpa using b1))
        simp only [en, enl, List.length_append]
        simp only [List.length_cons, List.sum_cons] at h2
        omega
  | .recd fs, i, v, n, t, l, s, h => by
    simp only [OkV] at h
    obtain ⟨vs, rfl, h⟩ := h
    simp only [en]
    exact ens_len fs i vs n t l s h
theorem ens_len : ∀ fs i vs n t l s, OkVs fs vs n → (ens fs i vs t l s).length ≤ n + 1
  | .nil, i, vs, n, t, l, s, h => by simp [ens]
  | .cons m k fs, i, vs, n, t, l, s, h => by
    simp only [OkVs] at h
    obtain ⟨v, r, a, b, rfl, hab, h1, h2⟩ := h
    simp only [ens]
    split
    · have := en_len k i v a t l s h1; omega
    · have := ens_len fs (i - (lv k).length) r b t l s h2; omega
end
theorem trip_pl {t l : Int} {v : D} (h : Pl 1 v) : Pl 3 (trip t l v) := by
  have hlim : lim = 16777216 := rfl
  refine ⟨by show 3 ≤ lim; decide, fun x hx => ?_⟩
  simp only [List.mem_cons, List.not_mem_nil, or_false] at hx
  rcases hx with rfl | rfl | rfl
  · trivial
  · trivial
  · exact Pl.mono (n := 1) (m := 2) (by decide) h
theorem leafv_pl {k : List Nat} {v : D} (h : LeafV k v) : Pl 1 v := by
  rcases h with ⟨_, i, rfl, _⟩ | ⟨_, i, rfl, _⟩ | ⟨_, i, rfl⟩ <;> trivial
mutual
theorem en_pl : ∀ k i v n t l s, OkV k v n → ∀ e ∈ en k i v t l s, Pl 3 e
  | .leaf k, i, v, n, t, l, s, h, e, he => by
    simp only [OkV] at h
    simp only [en, List.mem_singleton] at he
    subst he
    exact trip_pl (leafv_pl h)
  | .one true a, i, v, n, t, l, s, h, e, he => by
    simp only [OkV] at h
    by_cases hv : v = .non
    · subst hv
      simp only [en, List.mem_singleton] at he
      subst he
      exact trip_pl trivial
    · have := en_pl a i v n t (l + 1) s (h.resolve_left hv) e
      cases v <;> first | exact absurd rfl hv | exact this (by simpa only [en] using he)
  | .one false a, i, v, n, t, l, s, h, e, he => by
    obtain ⟨vs, rfl, _, h2⟩ := okv_list h
    cases vs with
    | nil =>
      simp only [en, List.mem_singleton] at he
      subst he
      exact trip_pl trivial
    | cons v vs =>
      simp only [en, enl, List.mem_append, List.mem_flatMap] at he
      rcases he with he | ⟨x, hx, he⟩
      · obtain ⟨m, _, q⟩ := h2 v List.mem_cons_self
        exact en_pl a i v m _ _ _ q e he
      · obtain ⟨m, _, q⟩ := h2 x (List.mem_cons_of_mem _ hx)
        exact en_pl a i x m _ _ _ q e he
  | .recd fs, i, v, n, t, l, s, h, e, he => by
    simp only [OkV] at h
    obtain ⟨vs, rfl, h⟩ := h
    simp only [en] at he
    exact ens_pl fs i vs n t l s h e he
theorem ens_pl : ∀ fs i vs n t l s, OkVs fs vs n → ∀ e ∈ ens fs i vs t l s, Pl 3 e
  | .nil, i, vs, n, t, l, s, h, e, he => by simp [ens] at he
  | .cons m k fs, i, vs, n, t, l, s, h, e, he => by
    simp only [OkVs] at h
    obtain ⟨v, r, a, b, rfl, hab, h1, h2⟩ := h
    simp only [ens] at he
    split at he
    · exact en_pl k i v a t l s h1 e he
    · exact ens_pl fs (i - (lv k).length) r b t l s h2 e he
end
mutual
theorem okv_pl : ∀ k v n, OkV k v n → n ≤ 16000000 → Wf k → Pl (dp k) v
  | .leaf k, v, n, h, _, _ => by simp only [OkV] at h; simp only [dp]; exact leafv_pl h
  | .one true a, v, n, h, hn, w => by
    simp only [OkV] at h
    simp only [Wf] at w
    simp only [dp]
    rcases h with rfl | h
    · trivial
    · exact Pl.mono (by omega) (okv_pl a v n h hn w.2)
  | .one false a, v, n, h, hn, w => by
    have hlim : lim = 16777216 := rfl
    obtain ⟨vs, rfl, h1, h2⟩ := okv_list h
    simp only [Wf] at w
    simp only [dp]
    exact ⟨by omega, fun x hx => let ⟨m, hm, q⟩ := h2 x hx; okv_pl a x m q (by omega) w.2⟩
  | .recd fs, v, n, h, hn, w => by
    have hlim : lim = 16777216 := rfl
    simp only [OkV] at h
    obtain ⟨vs, rfl, h⟩ := h
    simp only [Wf] at w
    simp only [dp]
    have := okvs_len h
    have := w.1.2.2
    exact ⟨by omega, okvs_pl fs vs n h hn w.2⟩
theorem okvs_pl : ∀ fs vs n, OkVs fs vs n → n ≤ 16000000 → Wfs fs → ∀ x ∈ vs, Pl (dps fs) x
  | .nil, vs, n, h, _, _, x, hx => by simp only [OkVs] at h; subst h; cases hx
  | .cons m k fs, vs, n, h, hn, w, x, hx => by
    simp only [OkVs] at h
    obtain ⟨v, r, a, b, rfl, hab, h1, h2⟩ := h
    simp only [Wfs] at w
    simp only [dps]
    rcases List.mem_cons.mp hx with rfl | hx
    · exact Pl.mono (by omega) (okv_pl k x a h1 (by omega) w.2.1)
    · exact Pl.mono (by omega) (okvs_pl fs r b h2 (by omega) w.2.2 x hx)
end
/-! ### the law's own reading -/
end DL

namespace DL
open PySem PySem.Spec PyProof.Rows L2
/-! ## 28. A choice of leaves, plain -/
def anyP (P : Nat → Bool) (f n : Nat) : Bool := (List.range n).any fun i => P (f + i)
theorem anyP_iff {P : Nat → Bool} {f n : Nat} : anyP P f n = true ↔ ∃ i, f ≤ i ∧ i < f + n ∧ P i = true := by
  unfold anyP
  rw [List.any_eq_true]
  constructor
  · rintro ⟨i, hi, hp⟩
    have := List.mem_range.mp hi
    exact ⟨f + i, by omega, by omega, hp⟩
  · rintro ⟨i, h1, h2, hp⟩
    exact ⟨i - f, List.mem_range.mpr (by omega), by rw [show f + (i - f) = i by omega]; exact hp⟩
mutual
def chs (P : Nat → Bool) : Kd → Nat → Kd
  | .leaf k, _ => .leaf k
  | .one o a, f => .one o (chs P a f)
  | .recd fs, f => .recd (chss P fs f)
def chss (P : Nat → Bool) : Fs → Nat → Fs
  | .nil, _ => .nil
  | .cons n k fs, f => if anyP P f (lv k).length = true then .cons n (chs P k f) (chss P fs (f + (lv k).length)) else chss P fs (f + (lv k).length)
end
mutual
def wo (P : Nat → Bool) : Kd → Nat → D → D
  | .leaf _, _, v => v
  | .one true a, f, v => match v with
    | .non => .non
    | v => wo P a f v
  | .one false a, f, v => match v with
    | .tup vs => .tup (vs.map fun x => wo P a f x)
    | v => v
  | .recd fs, f, v => match v with
    | .tup vs => .tup (wos P fs f vs)
    | v => v
def wos (P : Nat → Bool) : Fs → Nat → List D → List D
  | .nil, _, _ => []
  | .cons _ k fs, f, vs => match vs with
    | v :: r => if anyP P f (lv k).length = true then wo P k f v :: wos P fs (f + (lv k).length) r else wos P fs (f + (lv k).length) r
    | [] => []
end
def cnt (P : Nat → Bool) : Nat → Nat
  | 0 => 0
  | n + 1 => cnt P n + (if P n = true then 1 else 0)
section
variable {P P1 P2 : Nat → Bool}
theorem cnt_mono {a : Nat} : ∀ {b : Nat}, a ≤ b → cnt P a ≤ cnt P b
  | 0, h => by have : a = 0 := by omega
               subst this; exact Nat.le_refl _
  | b + 1, h => by
    by_cases e : a = b + 1
    · subst e; exact Nat.le_refl _
    · exact Nat.le_trans (cnt_mono (b := b) (by omega)) (Nat.le_add_right _ _)
theorem cnt_none {f : Nat} : ∀ {n : Nat}, anyP P f n = false → cnt P (f + n) = cnt P f
  | 0, _ => rfl
  | n + 1, h => by
    have h1 : anyP P f n = false := by
      cases e : anyP P f n with
      | false => rfl
      | true =>
        obtain ⟨i, a, b, c⟩ := anyP_iff.mp e
        rw [anyP_iff.mpr ⟨i, a, by omega, c⟩] at h
        cases h
    have h2 : P (f + n) = false := by
      cases e : P (f + n) with
      | false => rfl
      | true => rw [anyP_iff.mpr ⟨f + n, by omega, by omega, e⟩] at h; cases h
    show cnt P (f + n) + (if P (f + n) = true then 1 else 0) = _
    rw [cnt_none h1, h2]; rfl
theorem cnt_step {i : Nat} (h : P i = true) : cnt P (i + 1) = cnt P i + 1 := by
  show cnt P i + _ = _
  rw [h]; rfl
theorem cnt_surj {f j : Nat} : ∀ {n : Nat}, cnt P f ≤ j → j < cnt P (f + n) → ∃ i, f ≤ i ∧ i < f + n ∧ P i = true ∧ cnt P i = j
  | 0, h1, h2 => by rw [Nat.add_zero] at h2; omega
  | n + 1, h1, h2 => by
    by_cases h : j < cnt P (f + n)
    · obtain ⟨i, a, b, c, d⟩ := cnt_surj h1 h
      exact ⟨i, a, by omega, c, d⟩
    · have h2 : j < cnt P (f + n) + (if P (f + n) = true then 1 else 0) := h2
      split at h2
      · rename_i hp
        exact ⟨f + n, by omega, by omega, hp, by omega⟩
      · omega
mutual
theorem lv_chs : ∀ (k : Kd) (f : Nat), anyP P f (lv k).length = true → cnt P f + (lv (chs P k f)).length = cnt P (f + (lv k).length)
  | .leaf k, f, h => by
    obtain ⟨i, a, b, c⟩ := anyP_iff.mp h
    simp only [lv, List.length_singleton] at b
    have : i = f := by omega
    subst this
    simp only [chs, lv, List.length_singleton]
    exact (cnt_step c).symm
  | .one o a, f, h => by
    simp only [lv, List.length_map] at h
    simp only [chs, lv, List.length_map]
    exact lv_chs a f h
  | .recd fs, f, h => by
    simp only [chs, lv]
    exact lvs_chss fs f
theorem lvs_chss : ∀ (fs : Fs) (f : Nat), cnt P f + (lvs (chss P fs f)).length = cnt P (f + (lvs fs).length)
  | .nil, f => by simp [chss, lvs]
  | .cons n k fs, f => by
    have h2 := lvs_chss fs (f + (lv k).length)
    simp only [chss, lvs, List.length_append, List.length_map]
    rw [show f + ((lv k).length + (lvs fs).length) = f + (lv k).length + (lvs fs).length by omega]
    cases e : anyP P f (lv k).length with
    | true =>
      have h1 := lv_chs k f e
      simp only [if_true, lvs, List.length_append, List.length_map]
      omega
    | false =>
      have h1 := cnt_none e
      simp only [Bool.false_eq_true, if_false]
      omega
end
def comb (P1 P2 : Nat → Bool) (i : Nat) : Bool := P1 i && P2 (cnt P1 i)
theorem any_comb {f n m : Nat} (h : cnt P1 f + m = cnt P1 (f + n)) : anyP P2 (cnt P1 f) m = anyP (comb P1 P2) f n := by
  rw [Bool.eq_iff_iff, anyP_iff, anyP_iff]
  constructor
  · rintro ⟨j, a, b, c⟩
    obtain ⟨i, h1, h2, h3, h4⟩ := cnt_surj a (by omega : j < cnt P1 (f + n))
    exact ⟨i, h1, h2, by unfold comb; rw [h3, h4, c]; rfl⟩
  · rintro ⟨i, a, b, c⟩
    unfold comb at c
    rw [Bool.and_eq_true] at c
    have h1 := cnt_mono (P := P1) a
    have h2 := cnt_mono (P := P1) (show i + 1 ≤ f + n by omega)
    have h3 := cnt_step c.1
    exact ⟨cnt P1 i, h1, by omega, c.2⟩
theorem comb_none {f n : Nat} (h : anyP P1 f n = false) : anyP (comb P1 P2) f n = false := by
  cases e : anyP (comb P1 P2) f n with
  | false => rfl
  | true =>
    obtain ⟨i, a, b, c⟩ := anyP_iff.mp e
    unfold comb at c
    rw [Bool.and_eq_true] at c
    rw [anyP_iff.mpr ⟨i, a, b, c.1⟩] at h
    cases h
mutual
theorem chs_chs : ∀ (k : Kd) (f : Nat), anyP P1 f (lv k).length = true → chs P2 (chs P1 k f) (cnt P1 f) = chs (comb P1 P2) k f
  | .leaf k, f, h => by simp only [chs]
  | .one o a, f, h => by
    simp only [lv, List.length_map] at h
    simp only [chs]
    rw [chs_chs a f h]
  | .recd fs, f, h => by
    simp only [chs]
    rw [chss_chss fs f]
theorem chss_chss : ∀ (fs : Fs) (f : Nat), chss P2 (chss P1 fs f) (cnt P1 f) = chss (comb P1 P2) fs f
  | .nil, f => by simp only [chss]
  | .cons n k fs, f => by
    have h2 := chss_chss fs (f + (lv k).length)
    simp only [chss]
    cases e : anyP P1 f (lv k).length with
    | true =>
      have h1 := lv_chs k f e
      simp only [if_true, chss]
      rw [any_comb h1, h1, h2, chs_chs k f e]
    | false =>
      rw [comb_none e]
      have h1 := cnt_none e
      simp only [Bool.false_eq_true, if_false]
      rw [← h2, h1]
end
mutual
theorem okv_mono : ∀ (k : Kd) (v : D) (n m : Nat), n ≤ m → OkV k v n → OkV k v m
  | .leaf k, v, n, m, _, h => by simpa only [OkV] using h
  | .one true a, v, n, m, hm, h => by
    simp only [OkV] at h ⊢
    exact h.imp id (okv_mono a v n m hm)
  | .one false a, v, n, m, hm, h => by
    simp only [OkV] at h ⊢
    obtain ⟨vs, ms, h1, h2, h3, h4⟩ := h
    exact ⟨vs, ms, h1, h2, by omega, h4⟩
  | .recd fs, v, n, m, hm, h => by
    simp only [OkV] at h ⊢
    obtain ⟨vs, h1, h2⟩ := h
    exact ⟨vs, h1, okvs_mono fs vs n m hm h2⟩
theorem okvs_mono : ∀ (fs : Fs) (vs : List D) (n m : Nat), n ≤ m → OkVs fs vs n → OkVs fs vs m
  | .nil, vs, n, m, _, h => by simpa only [OkVs] using h
  | .cons x k fs, vs, n, m, hm, h => by
    simp only [OkVs] at h ⊢
    obtain ⟨v, r, a, b, h1, h2, h3, h4⟩ := h
    exact ⟨v, r, a, b, h1, by omega, h3, h4⟩
end
theorem wo_opt {a : Kd} {f : Nat} {v : D} (h : v ≠ .non) : wo P (.one true a) f v = wo P a f v := by
  cases v <;> first | exact absurd rfl h | simp only [wo]
mutual
theorem okv_wo : ∀ (k : Kd) (f : Nat) (v : D) (n : Nat), OkV k v n → OkV (chs P k f) (wo P k f v) n
  | .leaf k, f, v, n, h => by simpa only [chs, wo] using h
  | .one true a, f, v, n, h => by
    by_cases hv : v = .non
    · subst hv; simp only [chs, wo, OkV]; exact .inl trivial
    · rw [wo_opt hv]
      simp only [OkV] at h
      simp only [chs, OkV]
      exact .inr (okv_wo a f v n (h.resolve_left hv))
  | .one false a, f, v, n, h => by
    simp only [OkV] at h
    obtain ⟨vs, ms, rfl, h1, h2, h3⟩ := h
    simp only [chs, wo, OkV]
    refine ⟨_, ms, rfl, by rw [List.length_map]; exact h1, by rw [List.length_map]; exact h2, fun i x m hx hm => ?_⟩
    rw [List.getElem?_map] at hx
    cases e : vs[i]? with
    | none => rw [e] at hx; cases hx
    | some y =>
      rw [e] at hx
      simp only [Option.map_some, Option.some.injEq] at hx
      subst hx
      exact okv_wo a f y m (h3 i y m e hm)
  | .recd fs, f, v, n, h => by
    simp only [OkV] at h
    obtain ⟨vs, rfl, h⟩ := h
    simp only [chs, wo, OkV]
    exact ⟨_, rfl, okvs_wos fs f vs n h⟩
theorem okvs_wos : ∀ (fs : Fs) (f : Nat) (vs : List D) (n : Nat), OkVs fs vs n → OkVs (chss P fs f) (wos P fs f vs) n
  | .nil, f, vs, n, h => by simp only [chss, wos, OkVs]
  | .cons x k fs, f, vs, n, h => by
    simp only [OkVs] at h
    obtain ⟨v, r, a, b, rfl, hab, h1, h2⟩ := h
    have q := okvs_wos fs (f + (lv k).length) r b h2
    simp only [chss, wos]
    cases anyP P f (lv k).length with
    | true => simp only [if_true, OkVs]; exact ⟨_, _, a, b, rfl, hab, okv_wo k f v a h1, q⟩
    | false => simp only [Bool.false_eq_true, if_false]; exact okvs_mono _ _ b n (by omega) q
end
theorem wo_ne {k : Kd} {f : Nat} {v : D} {n : Nat} (h : OkV k v n) (ho : isOpt k = false) : wo P k f v ≠ .non := by
  have hv := okv_ne h ho
  cases k with
  | leaf k => simpa only [wo] using hv
  | one o a =>
    cases o with
    | true => cases ho
    | false => simp only [OkV] at h; obtain ⟨vs, _, rfl, _⟩ := h; simp only [wo]; exact fun z => nomatch z
  | recd fs => simp only [OkV] at h; obtain ⟨vs, rfl, _⟩ := h; simp only [wo]; exact fun z => nomatch z
mutual
theorem wo_wo : ∀ (k : Kd) (f : Nat) (v : D) (n : Nat), Wf k → OkV k v n → anyP P1 f (lv k).length = true → wo P2 (chs P1 k f) (cnt P1 f) (wo P1 k f v) = wo (comb P1 P2) k f v
  | .leaf k, f, v, n, _, _, _ => by simp only [chs, wo]
  | .one true a, f, v, n, w, h, hp => by
    by_cases hv : v = .non
    · subst hv; simp only [chs, wo]
    · simp only [OkV] at h
      simp only [Wf] at w
      simp only [lv, List.length_map] at hp
      have h := h.resolve_left hv
      rw [wo_opt hv, wo_opt hv]
      simp only [chs]
      rw [wo_opt (wo_ne h (by first | exact w.1 rfl | exact w.1 trivial)), wo_wo a f v n w.2 h hp]
  | .one false a, f, v, n, w, h, hp => by
    obtain ⟨vs, rfl, _, h2⟩ := okv_list h
    simp only [Wf] at w
    simp only [lv, List.length_map] at hp
    simp only [chs, wo, List.map_map]
    congr 1
    apply List.map_congr_left
    intro x hx
    obtain ⟨m, _, q⟩ := h2 x hx
    exact wo_wo a f x m w.2 q hp
  | .recd fs, f, v, n, w, h, hp => by
    simp only [OkV] at h
    obtain ⟨vs, rfl, h⟩ := h
    simp only [Wf] at w
    simp only [chs, wo]
    rw [wos_wos fs f vs n w.2 h]
theorem wos_wos : ∀ (fs : Fs) (f : Nat) (vs : List D) (n : Nat), Wfs fs → OkVs fs vs n → wos P2 (chss P1 fs f) (cnt P1 f) (wos P1 fs f vs) = wos (comb P1 P2) fs f vs
  | .nil, f, vs, n, _, _ => by simp only [chss, wos]
  | .cons x k fs, f, vs, n, w, h => by
    simp only [OkVs] at h
    obtain ⟨v, r, a, b, rfl, hab, h1, h2⟩ := h
    simp only [Wfs] at w
    have q := wos_wos fs (f + (lv k).length) r b w.2.2 h2
    simp only [chss, wos]
    cases e : anyP P1 f (lv k).length with
    | true =>
      have c := lv_chs k f e
      simp only [if_true, wos]
      rw [any_comb c, c, q, wo_wo k f v a w.2.1 h1 e]
    | false =>
      rw [comb_none e]
      simp only [Bool.false_eq_true, if_false]
      rw [← q, cnt_none e]
end
mutual
theorem chs_all : ∀ (k : Kd) (f : Nat), Wf k → (∀ i, f ≤ i → i < f + (lv k).length → P i = true) → chs P k f = k
  | .leaf k, f, _, _ => by simp only [chs]
  | .one o a, f, w, h => by
    simp only [Wf] at w
    simp only [lv, List.length_map] at h
    simp only [chs]
    rw [chs_all a f w.2 h]
  | .recd fs, f, w, h => by
    simp only [Wf] at w
    simp only [lv] at h
    simp only [chs]
    rw [chss_all fs f w.2 h]
theorem chss_all : ∀ (fs : Fs) (f : Nat), Wfs fs → (∀ i, f ≤ i → i < f + (lvs fs).length → P i = true) → chss P fs f = fs
  | .nil, f, _, _ => by simp only [chss]
  | .cons x k fs, f, w, h => by
    simp only [Wfs] at w
    simp only [lvs, List.length_append, List.length_map] at h
    have hp := lv_pos k w.2.1
    have ha : anyP P f (lv k).length = true := anyP_iff.mpr ⟨f, Nat.le_refl _, by omega, h f (Nat.le_refl _) (by omega)⟩
    simp only [chss]
    rw [if_pos ha, chs_all k f w.2.1 (fun i a b => h i a (by omega)), chss_all fs _ w.2.2 (fun i a b => h i (by omega) (by omega))]
end
mutual
theorem wo_all : ∀ (k : Kd) (f : Nat) (v : D) (n : Nat), Wf k → OkV k v n → (∀ i, f ≤ i → i < f + (lv k).length → P i = true) → wo P k f v = v
  | .leaf k, f, v, n, _, _, _ => by simp only [wo]
  | .one true a, f, v, n, w, h, hp => by
    by_cases hv : v = .non
    · subst hv; simp only [wo]
    · simp only [OkV] at h
      simp only [Wf] at w
      simp only [lv, List.length_map] at hp
      rw [wo_opt hv, wo_all a f v n w.2 (h.resolve_left hv) hp]
  | .one false a, f, v, n, w, h, hp => by
    obtain ⟨vs, rfl, _, h2⟩ := okv_list h
    simp only [Wf] at w
    simp only [lv, List.length_map] at hp
    simp only [wo]
    congr 1
    have : vs.map (fun x => wo P a f x) = vs.map id := List.map_congr_left fun x hx => let ⟨m, _, q⟩ := h2 x hx; wo_all a f x m w.2 q hp
    rw [this, List.map_id]
  | .recd fs, f, v, n, w, h, hp => by
    simp only [OkV] at h
    obtain ⟨vs, rfl, h⟩ := h
    simp only [Wf] at w
    simp only [lv] at hp
    simp only [wo]
    rw [wos_all fs f vs n w.2 h hp]
theorem wos_all : ∀ (fs : Fs) (f : Nat) (vs : List D) (n : Nat), Wfs fs → OkVs fs vs n → (∀ i, f ≤ i → i < f + (lvs fs).length → P i = true) → wos P fs f vs = vs
  | .nil, f, vs, n, _, h, _ => by simp only [OkVs] at h; subst h; simp only [wos]
  | .cons x k fs, f, vs, n, w, h, hp => by
    simp only [OkVs] at h
    obtain ⟨v, r, a, b, rfl, hab, h1, h2⟩ := h
    simp only [Wfs] at w
    simp only [lvs, List.length_append, List.length_map] at hp
    have hpos := lv_pos k w.2.1
    have ha : anyP P f (lv k).length = true := anyP_iff.mpr ⟨f, Nat.le_refl _, by omega, hp f (Nat.le_refl _) (by omega)⟩
    simp only [wos]
    rw [if_pos ha, wo_all k f v a w.2.1 h1 (fun i a b => hp i a (by omega)), wos_all fs _ r b w.2.2 h2 (fun i a b => hp i (by omega) (by omega))]
end
theorem opt_chs (k : Kd) (f : Nat) : isOpt (chs P k f) = isOpt k := by
  cases k with
  | leaf k => simp only [chs]
  | one o a => cases o <;> simp only [chs, isOpt]
  | recd fs => simp only [chs, isOpt]
mutual
theorem dp_chs : ∀ (k : Kd) (f : Nat), dp (chs P k f) ≤ dp k
  | .leaf k, f => by simp only [chs]; exact Nat.le_refl _
  | .one o a, f => by simp only [chs, dp]; have := dp_chs a f; omega
  | .recd fs, f => by simp only [chs, dp]; have := dps_chss fs f; omega
theorem dps_chss : ∀ (fs : Fs) (f : Nat), dps (chss P fs f) ≤ dps fs
  | .nil, f => by simp only [chss]; exact Nat.le_refl _
  | .cons x k fs, f => by
    have h1 := dp_chs k f
    have h2 := dps_chss fs (f + (lv k).length)
    simp only [chss]
    split
    · simp only [dps]; omega
    · simp only [dps]; omega
end
mutual
theorem lv_chs_le : ∀ (k : Kd) (f : Nat), (lv (chs P k f)).length ≤ (lv k).length
  | .leaf k, f => by simp only [chs]; exact Nat.le_refl _
  | .one o a, f => by simp only [chs, lv, List.length_map]; exact lv_chs_le a f
  | .recd fs, f => by simp only [chs, lv]; exact lvs_chss_le fs f
theorem lvs_chss_le : ∀ (fs : Fs) (f : Nat), (lvs (chss P fs f)).length ≤ (lvs fs).length
  | .nil, f => by simp only [chss]; exact Nat.le_refl _
  | .cons x k fs, f => by
    have h1 := lv_chs_le k f
    have h2 := lvs_chss_le fs (f + (lv k).length)
    simp only [chss]
    split
    · simp only [lvs, List.length_append, List.length_map]; omega
    · simp only [lvs, List.length_append, List.length_map]; omega
end
theorem chss_sub : ∀ (fs : Fs) (f : Nat), ((toL (chss P fs f)).map Prod.fst).Sublist ((toL fs).map Prod.fst)
  | .nil, f => by simp [chss, toL]
  | .cons x k fs, f => by
    have h2 := chss_sub fs (f + (lv k).length)
    simp only [chss]
    split
    · simp only [toL, List.map_cons]; exact h2.cons₂ _
    · simp only [toL, List.map_cons]; exact h2.cons _
theorem chss_ne : ∀ (fs : Fs) (f : Nat), anyP P f (lvs fs).length = true → chss P fs f ≠ .nil
  | .nil, f, h => by
    obtain ⟨i, a, b, _⟩ := anyP_iff.mp h
    simp [lvs] at b; omega
  | .cons x k fs, f, h => by
    simp only [chss]
    cases e : anyP P f (lv k).length with
    | true => simp only [if_true]; exact fun z => nomatch z
    | false =>
      simp only [Bool.false_eq_true, if_false]
      refine chss_ne fs _ ?_
      obtain ⟨i, a, b, c⟩ := anyP_iff.mp h
      simp only [lvs, List.length_append, List.length_map] at b
      refine anyP_iff.mpr ⟨i, ?_, by omega, c⟩
      by_cases hi : i < f + (lv k).length
      · rw [anyP_iff.mpr ⟨i, a, hi, c⟩] at e; cases e
      · omega
mutual
theorem wf_chs : ∀ (k : Kd) (f : Nat), Wf k → anyP P f (lv k).length = true → Wf (chs P k f)
  | .leaf k, f, w, _ => by simpa only [chs] using w
  | .one o a, f, w, h => by
    simp only [Wf] at w
    simp only [lv, List.length_map] at h
    simp only [chs, Wf]
    exact ⟨fun z => by rw [opt_chs]; exact w.1 z, wf_chs a f w.2 h⟩
  | .recd fs, f, w, h => by
    simp only [Wf] at w
    simp only [lv] at h
    simp only [chs, Wf]
    have hs := chss_sub (P := P) fs f
    refine ⟨⟨chss_ne fs f h, w.1.2.1.sublist hs, ?_⟩, wfs_chss fs f w.2⟩
    have := hs.length_le
    rw [List.length_map, List.length_map] at this
    have := w.1.2.2
    omega
theorem wfs_chss : ∀ (fs : Fs) (f : Nat), Wfs fs → Wfs (chss P fs f)
  | .nil, f, w => by simpa only [chss] using w
  | .cons x k fs, f, w => by
    simp only [Wfs] at w
    have h2 := wfs_chss fs (f + (lv k).length) w.2.2
    simp only [chss]
    cases e : anyP P f (lv k).length with
    | true => simp only [if_true, Wfs]; exact ⟨w.1, wf_chs k f w.2.1 e, h2⟩
    | false => simp only [Bool.false_eq_true, if_false]; exact h2
end
end
/-! ### paths -/
def under (n : List Nat) (ps : List (List (List Nat))) : List (List (List Nat)) := ps.filterMap fun p => match p with
  | [] => none
  | x :: r => if (x == n) = true then some r else none
/-! ### a choice as a list -/
end DL

namespace DL
open PySem PySem.Spec PyProof.Rows L2
/-! ## 29. A choice of leaves: the code -/
/-! ### first_leaves -/
/-! ### is_chosen -/
/-! ### chosen_from -/
/-! ### without_from -/
/-! ### the law's own -/
end DL

namespace DL
open PySem PySem.Spec PyProof.Rows L2
/-! ## 30. is_schema, is_row, where they are right -/
/-! ### is_name -/
theorem all_in {s t : List Nat} {G : HD} {QD : KD} {i : Nat} {σ : StD} (h : ∀ c ∈ s, c ∈ t) (hQ : QD (.bl true) G) (hg : ∀ d : D, ((σ.set i (some d)).getD i none) = some d) :
    lcD (fun x H2 K => ok (asg (.n i) x σ) fun σ' => ok (σ'.getD i none) fun d => ok (inD d (.str t) H2) fun c => K (some (.bl c)) H2) (fun acc H2 => ok (blsOf acc) fun bs => QD (.bl (bs.all id)) H2) (s.map fun c => .str [c]) [] G := by
  refine lcD_ind (fun xs acc H => H = G ∧ (∀ d ∈ acc, d = .bl true) ∧ ∀ x ∈ xs, ∃ c, x = .str [c] ∧ c ∈ t) ?_ ?_ _ _ _ ⟨rfl, fun _ h => (nomatch h), fun x hx => ?_⟩
  · rintro acc H ⟨rfl, h1, _⟩
    obtain ⟨bs, k1, k2⟩ := all_true h1
    rw [k1, ok_some, k2]
    exact hQ
  · rintro x xs acc ih H ⟨rfl, h1, h2⟩
    obtain ⟨c, rfl, hc⟩ := h2 x List.mem_cons_self
    show ok ((σ.set i (some (.str [c]))).getD i none) _
    rw [hg, ok_some]
    show lcD _ _ xs (acc ++ [.bl (decide (c ∈ t))]) H
    rw [decide_eq_true hc]
    refine ih _ _ ⟨rfl, fun d hd => ?_, fun y hy => h2 y (List.mem_cons_of_mem _ hy)⟩
    rcases List.mem_append.mp hd with hd | hd
    · exact h1 d hd
    · rw [List.mem_singleton] at hd; exact hd
  · obtain ⟨c, hc, rfl⟩ := List.mem_map.mp hx
    exact ⟨c, rfl, h c hc⟩
/-! ### are_fields -/
/-! ### parts_of -/
/-! ### is_schema -/
abbrev SE := Kd × Nat
def SE.d (e : SE) : D := .tup [enc e.1, .int (e.2 : Nat)]
theorem sum_ge_len {α : Type} {f : α → Nat} : ∀ {l : List α}, (∀ a ∈ l, 1 ≤ f a) → l.length ≤ (l.map f).sum
  | [], _ => by simp
  | a :: l, h => by
    have h1 := h a List.mem_cons_self
    have h2 := sum_ge_len (l := l) fun b hb => h b (List.mem_cons_of_mem _ hb)
    rw [List.length_cons, List.map_cons, List.sum_cons]; omega
end DL

namespace DL
open PySem PySem.Spec PyProof.Rows L2
/-! ## 31. Any values: is_schema and the law's own -/
/-- a plain value, its lists and tuples of at most b items -/
def PB (b : Nat) : Nat → D → Prop
  | 0, _ => False
  | n + 1, d => match d with
    | .non | .bl _ | .int _ | .str _ => True
    | .tup ds => ds.length ≤ b ∧ ∀ x ∈ ds, PB b n x
    | .lst ds => ds.length ≤ b ∧ ∀ x ∈ ds, PB b n x
    | _ => False
def PX (b : Nat) (d : D) : Prop := ∃ n, PB b n d
theorem PB.mono {b b' : Nat} (hb : b ≤ b') : ∀ {n m : Nat} {d : D}, n ≤ m → PB b n d → PB b' m d
  | 0, _, _, _, h => h.elim
  | n + 1, 0, _, hm, _ => by omega
  | n + 1, m + 1, d, hm, h => by
    cases d <;> first | trivial | exact h.elim | exact ⟨Nat.le_trans h.1 hb, fun x hx => PB.mono hb (by omega) (h.2 x hx)⟩
theorem PX.mono {b b' : Nat} (hb : b ≤ b') {d : D} : PX b d → PX b' d := fun ⟨n, h⟩ => ⟨n, h.mono hb (Nat.le_refl _)⟩
theorem PX.all {b : Nat} : ∀ {ds : List D}, (∀ x ∈ ds, PX b x) → ∃ n, ∀ x ∈ ds, PB b n x
  | [], _ => ⟨0, fun _ h => nomatch h⟩
  | d :: ds, h => by
    obtain ⟨n, hn⟩ := PX.all (ds := ds) fun x hx => h x (List.mem_cons_of_mem _ hx)
    obtain ⟨m, hm⟩ := h d List.mem_cons_self
    refine ⟨max n m, fun x hx => ?_⟩
    rcases List.mem_cons.mp hx with rfl | hx
    · exact hm.mono (Nat.le_refl _) (Nat.le_max_right _ _)
    · exact (hn x hx).mono (Nat.le_refl _) (Nat.le_max_left _ _)
theorem PX.tup {b : Nat} {ds : List D} (hl : ds.length ≤ b) (h : ∀ x ∈ ds, PX b x) : PX b (.tup ds) := let ⟨n, hn⟩ := PX.all h; ⟨n + 1, hl, hn⟩
theorem PX.lst {b : Nat} {ds : List D} (hl : ds.length ≤ b) (h : ∀ x ∈ ds, PX b x) : PX b (.lst ds) := let ⟨n, hn⟩ := PX.all h; ⟨n + 1, hl, hn⟩
theorem PX.of_tup {b : Nat} {ds : List D} (h : PX b (.tup ds)) : ds.length ≤ b ∧ ∀ x ∈ ds, PX b x := by
  obtain ⟨n, h⟩ := h
  cases n with
  | zero => exact h.elim
  | succ n => exact ⟨h.1, fun x hx => ⟨n, h.2 x hx⟩⟩
theorem PX.str {b : Nat} (s : List Nat) : PX b (.str s) := ⟨1, trivial⟩
theorem PX.non {b : Nat} : PX b .non := ⟨1, trivial⟩
theorem PX.int {b : Nat} (i : Int) : PX b (.int i) := ⟨1, trivial⟩
theorem PX.bl {b : Nat} (c : Bool) : PX b (.bl c) := ⟨1, trivial⟩
/-- the six kinds of them -/
theorem PX.cases {b : Nat} {d : D} (h : PX b d) : d = .non ∨ (∃ c, d = .bl c) ∨ (∃ i, d = .int i) ∨ (∃ s, d = .str s) ∨ (∃ ds, d = .tup ds) ∨ ∃ ds, d = .lst ds := by
  obtain ⟨n, h⟩ := h
  cases n with
  | zero => exact h.elim
  | succ n =>
    cases d <;> first | exact h.elim | skip
    · exact .inl rfl
    · exact .inr (.inl ⟨_, rfl⟩)
    · exact .inr (.inr (.inl ⟨_, rfl⟩))
    · exact .inr (.inr (.inr (.inl ⟨_, rfl⟩)))
    · exact .inr (.inr (.inr (.inr (.inl ⟨_, rfl⟩))))
    · exact .inr (.inr (.inr (.inr (.inr ⟨_, rfl⟩))))
theorem py_pb {b : Nat} : ∀ {n : Nat} {d : D}, PB b n d → ∃ x, py d = some x
  | 0, _, h => h.elim
  | n + 1, d, h => by
    cases d <;> first | exact h.elim | (simp only [py]; exact ⟨_, rfl⟩) | skip
    all_goals
      obtain ⟨ys, e⟩ := pys_all' fun x hx => py_pb (h.2 x hx)
      simp only [py, e]; exact ⟨_, rfl⟩
where pys_all' : ∀ {vs : List D}, (∀ x ∈ vs, ∃ y, py x = some y) → ∃ ys, pys vs = some ys
  | [], _ => ⟨[], by simp [pys]⟩
  | v :: vs, h => by
    obtain ⟨y, e⟩ := h v List.mem_cons_self
    obtain ⟨ys, e2⟩ := pys_all' (vs := vs) fun x hx => h x (List.mem_cons_of_mem _ hx)
    exact ⟨y :: ys, by simp [pys, e, e2]⟩
def strB (d : D) (s : List Nat) : Bool := match d with
  | .str t => t == s
  | _ => false
theorem pyT_pb {b : Nat} {d : D} {G : HD} (h : PX b d) : pyT d G = py d := by
  rcases h.cases with rfl | ⟨_, rfl⟩ | ⟨_, rfl⟩ | ⟨_, rfl⟩ | ⟨_, rfl⟩ | ⟨_, rfl⟩ <;> rfl
theorem eq_strB {b : Nat} {d : D} {s : List Nat} {G : HD} (h : PX b d) : eqD d (.str s) G = some (strB d s) := by
  obtain ⟨n, hn⟩ := h
  obtain ⟨x, e⟩ := py_pb hn
  have dd : ∀ x : PyData, min x.depth (PyData.str (mkStr s)).depth ≤ 64 := fun x => Nat.le_trans (Nat.min_le_right _ _) (by simp [PyData.depth])
  unfold eqD
  rw [pyT_pb ⟨n, hn⟩, e]
  simp only [pyT, py]
  rw [if_pos (dd _)]
  rcases (PX.cases ⟨n, hn⟩) with rfl | ⟨c, rfl⟩ | ⟨i, rfl⟩ | ⟨t, rfl⟩ | ⟨ds, rfl⟩ | ⟨ds, rfl⟩
  · simp only [py, Option.some.injEq] at e; subst e; simp [PyData.eqv, strB]
  · simp only [py, Option.some.injEq] at e; subst e; simp [PyData.eqv, strB]
  · simp only [py, Option.some.injEq] at e; subst e; simp [PyData.eqv, strB]
  · simp only [py, Option.some.injEq] at e; subst e; simp [PyData.eqv, strB, mkStr_eq]
  · simp only [py] at e; split at e <;> cases e; simp [PyData.eqv, strB]
  · simp only [py] at e; split at e <;> cases e; simp [PyData.eqv, strB]
/-! ### names -/
def nameB (d : D) : Bool := match d with
  | .str s => decide (1 ≤ s.length) && decide (s.length ≤ 12) && s.all fun c => decide (c ∈ abc)
  | _ => false
def spNm : SpD := fun ds G Q _ => ∃ v, ds = [v] ∧ PX 1000 v ∧ Q (.bl (nameB v)) G
theorem all_inB {s t : List Nat} {G : HD} {QD : KD} {i : Nat} {σ : StD} (hQ : QD (.bl (s.all fun c => decide (c ∈ t))) G) (hg : ∀ d : D, ((σ.set i (some d)).getD i none) = some d) :
    lcD (fun x H2 K => ok (asg (.n i) x σ) fun σ' => ok (σ'.getD i none) fun d => ok (inD d (.str t) H2) fun c => K (some (.bl c)) H2) (fun acc H2 => ok (blsOf acc) fun bs => QD (.bl (bs.all id)) H2) (s.map fun c => .str [c]) [] G := by
  refine lcD_ind (fun xs acc H => H = G ∧ ∃ a b : List Nat, s = a ++ b ∧ xs = b.map (fun c => .str [c]) ∧ acc = (a.map fun c => decide (c ∈ t)).map D.bl) ?_ ?_ _ _ _ ⟨rfl, [], s, rfl, rfl, rfl⟩
  · rintro acc H ⟨rfl, a, b, e, hx, rfl⟩
    have : b = [] := by cases b <;> first | rfl | cases hx
    subst this
    rw [List.append_nil] at e
    subst e
    have bls : ∀ bs : List Bool, blsOf (bs.map D.bl) = some bs := fun bs => by
      induction bs with
      | nil => rfl
      | cons b bs ih => show (blsOf (bs.map D.bl)).map (b :: ·) = _; rw [ih]; rfl
    rw [bls, ok_some, List.all_map]
    exact hQ
  · rintro x xs acc ih H ⟨rfl, a, b, e, hx, rfl⟩
    cases b with
    | nil => cases hx
    | cons c b =>
      rw [List.map_cons] at hx
      injection hx with hx1 hx2
      subst hx1; subst hx2
      show ok ((σ.set i (some (.str [c]))).getD i none) _
      rw [hg, ok_some]
      exact ih _ _ ⟨rfl, a ++ [c], b, by rw [e]; simp, rfl, by simp⟩
theorem nm_1 {s : List Nat} (e : decide ((1 : Int) ≤ (s.length : Nat)) = false) : nameB (.str s) = false := by
  simp only [nameB]
  have : decide (1 ≤ s.length) = false := decide_eq_false (by have := of_decide_eq_false e; omega)
  rw [this]; rfl
theorem nm_2 {s : List Nat} (e : decide (((s.length : Nat) : Int) ≤ 12) = false) : nameB (.str s) = false := by
  simp only [nameB]
  have : decide (s.length ≤ 12) = false := decide_eq_false (by have := of_decide_eq_false e; omega)
  rw [this, Bool.and_false]; rfl
theorem nm_3 {s : List Nat} (e1 : decide ((1 : Int) ≤ (s.length : Nat)) = true) (e2 : decide (((s.length : Nat) : Int) ≤ 12) = true) : nameB (.str s) = s.all fun c => decide (c ∈ abc) := by
  simp only [nameB]
  have f1 : decide (1 ≤ s.length) = true := decide_eq_true (by have := of_decide_eq_true e1; omega)
  have f2 : decide (s.length ≤ 12) = true := decide_eq_true (by have := of_decide_eq_true e2; omega)
  rw [f1, f2]; rfl
def b_law_is_name : Ss :=
 (.c (.ite (.bo false (.c (.nt (.of (.isi (.var 0) [.str]))) (.c (.nt (.chn .le .le (.con (.int 1)) (.bf true .len (.c (.var 0) .n)) (.con (.int 12)))) .n))) (.c (.ret (.con (.bl false)))
 .n) .n)
 (.c (.ret (.bf true .all (.c (.lc true (.cmp .inn (.var 1) (.con (.str abc))) (.n 1) (.of (.var 0)) .yes [("sign", 1)]) .n)))
 .n))
theorem nmL_ok {Γ : Gam} (ds : List D) (G : HD) (QD : KD) (XD : KX) (h : spNm ds G QD XD) : wSs Γ b_law_is_name { nx := fun _ H => QD .non H, rt := QD, ex := fun x _ H => XD x H } (startD 2 ds) G := by
  obtain ⟨v, rfl, hv, hQ⟩ := h
  rcases hv.cases with rfl | ⟨c, rfl⟩ | ⟨i, rfl⟩ | ⟨s, rfl⟩ | ⟨ds, rfl⟩ | ⟨ds, rfl⟩
  case inr.inr.inr.inl =>
    simp_arith [b_law_is_name]
    cases e1 : decide ((1 : Int) ≤ (s.length : Nat)) with
    | false => rw [nm_1 e1] at hQ; exact hQ
    | true =>
      simp_arith []
      cases e2 : decide (((s.length : Nat) : Int) ≤ 12) with
      | false => rw [nm_2 e2] at hQ; exact hQ
      | true => rw [nm_3 e1 e2] at hQ; exact all_inB (i := 1) (σ := [some (.str s), none]) hQ fun d => rfl
  all_goals
    simp_arith [b_law_is_name]
    exact hQ
/-! ### fields -/
def fieldB (d : D) : Bool := match d with
  | .tup [a, _] => nameB a
  | _ => false
def fnm (d : D) : List Nat := match d with
  | .tup (.str s :: _) => s
  | _ => []
def fsec (d : D) : D := match d with
  | .tup [_, b] => b
  | _ => .non
def fieldsB (d : D) : Bool := match d with
  | .tup fs => decide (1 ≤ fs.length) && decide (fs.length ≤ 8) && fs.all fieldB && decide ((fs.map fnm).Nodup)
  | _ => false
theorem fieldB_iff {d : D} (h : fieldB d = true) : ∃ s w, d = .tup [.str s, w] := by
  unfold fieldB at h
  split at h
  · rename_i a w
    cases a <;> first | exact ⟨_, _, rfl⟩ | cases h
  · cases h
end DL

namespace DL
open PySem PySem.Spec PyProof.Rows L2
theorem is2 {n : Nat} (h : n ≠ 2) : (((n : Nat) : Int) == 2) = false := by rw [beq_eq_false_iff_ne]; omega
theorem is1 {n : Nat} (h : n ≠ 1) : (((n : Nat) : Int) == 1) = false := by rw [beq_eq_false_iff_ne]; omega
theorem is22 : (((2 : Nat) : Int) == 2) = true := rfl
theorem is11 : (((1 : Nat) : Int) == 1) = true := rfl
/-! ### are_fields -/
/-! ### parts_of -/
def leafW (k : List Nat) : Bool := sInt == k || (sText == k || sBool == k)
theorem in_leafW {k : List Nat} {G : HD} : inD (.str k) (.tup [.str sInt, .str sText, .str sBool]) G = some (leafW k) := by
  show (if (true && true) = true then some (List.any [D.str sInt, D.str sText, D.str sBool] fun z => eqF z (.str k)) else none) = _
  simp [eqF, leafW]
theorem leafW_no {k : List Nat} (h : leafW k = true) : (k == sRec) = false ∧ (k == sList) = false ∧ (k == sOpt) = false := by
  unfold leafW at h
  simp only [Bool.or_eq_true, beq_iff_eq] at h
  rcases h with rfl | rfl | rfl <;> exact ⟨rfl, rfl, rfl⟩
def secs (w : D) : List D := match w with
  | .tup fs => fs.map fsec
  | _ => []
def isTupD (w : D) : Bool := match w with
  | .tup _ => true
  | _ => false
def optHd (w : D) : Bool := match w with
  | .tup (x :: _) => strB x sOpt
  | _ => false
def partsD (v : D) : Option (List D) := match v with
  | .tup [.str k] => if leafW k = true then some [] else none
  | .tup [.str k, w] => if (k == sRec && fieldsB w) = true then some (secs w) else if (k == sList) = true then some [w] else if (k == sOpt && (isTupD w && !optHd w)) = true then some [w] else none
  | _ => none
theorem parts_nostr {a : D} {r : List D} (h : ∀ k, a ≠ .str k) : partsD (.tup (a :: r)) = none := by
  unfold partsD
  split
  · rename_i k e; injection e with e; injection e with e1 e2; exact absurd e1 (h _)
  · rename_i k w e; injection e with e; injection e with e1 e2; exact absurd e1 (h _)
  · rfl
end DL

namespace DL
open PySem PySem.Spec PyProof.Rows L2
/-! ### is_schema of any value -/
def cntD : Nat → D → Nat
  | 0, _ => 1000
  | n + 1, v => match partsD v with
    | none => 1000
    | some ps => if ps.isEmpty = true then 1 else (ps.map fun p => cntD n p).sum
def isS (v : D) : Bool := match v with
  | .tup (x :: _) => strB x sRec && decide (cntD 8 v ≤ 24)
  | _ => false
def spSG : SpD := fun ds G Q _ => ∃ v, ds = [v] ∧ PX 1000 v ∧ Q (.bl (isS v)) G
abbrev GE := D × Nat
def GE.d (e : GE) : D := .tup [e.1, .int (e.2 : Nat)]
end DL

namespace DL
open PySem PySem.Spec PyProof.Rows L2
/-! ### the law's count -/
def b_lcF (l_count l_is_name : Nat) : Ss :=
 (.c (.set 2 (.con (.int 0)))
 (.c (.set 3 (.lst false .n))
 (.c (.for_ (.n 4) (.of (.idx (.var 0) (.con (.int 1)))) (.c (.ite (.bo false (.c (.nt (.of (.isi (.var 4) [.tuple]))) (.c (.cmp .ne (.bf true .len (.c (.var 4) .n)) (.con (.int 2))) (.c (.nt (.of (.call l_is_name (.c (.idx (.var 4) (.con (.int 0))) .n)))) (.c (.cmp .inn (.idx (.var 4) (.con (.int 0))) (.var 3)) .n))))) (.c (.fz 3) (.c (.ret (.con (.int 1000)))
 .n)) .n)
 (.c (.ex (.mt .append (.var 3) (.c (.idx (.var 4) (.con (.int 0))) .n)))
 (.c (.set 2 (.bin true .add (.var 2) (.call l_count (.c (.idx (.var 4) (.con (.int 1))) (.c (.bin true .add (.var 1) (.con (.int 1))) .n)))))
 .n))))
 (.c (.fz 3) (.c (.ret (.var 2))
 .n)))))
def b_lcE (l_count l_is_name : Nat) : Ss :=
 (.c (.ite (.bo false (.c (.nt (.of (.isi (.idx (.var 0) (.con (.int 1))) [.tuple]))) (.c (.nt (.chn .le .le (.con (.int 1)) (.bf true .len (.c (.idx (.var 0) (.con (.int 1))) .n)) (.con (.int 8)))) .n))) (.c (.ret (.con (.int 1000)))
 .n) .n)
 (b_lcF l_count l_is_name))
def b_lcO (l_count : Nat) : Ss := (.c (.ite (.bo true (.c (.cmp .eq (.idx (.var 0) (.con (.int 0))) (.con (.str sOpt))) (.c (.of (.isi (.idx (.var 0) (.con (.int 1))) [.tuple])) (.c (.cmp .gt (.bf true .len (.c (.idx (.var 0) (.con (.int 1))) .n)) (.con (.int 0))) (.c (.cmp .eq (.idx (.idx (.var 0) (.con (.int 1))) (.con (.int 0))) (.con (.str sOpt))) .n))))) (.c (.ret (.con (.int 1000)))
 .n) .n)
 (.c (.ret (.call l_count (.c (.idx (.var 0) (.con (.int 1))) (.c (.bin true .add (.var 1) (.con (.int 1))) .n))))
 .n))
def b_lcD (l_count l_is_name : Nat) : Ss :=
 (.c (.ite (.cmp .ne (.idx (.var 0) (.con (.int 0))) (.con (.str sRec))) (b_lcO l_count) .n)
 (b_lcE l_count l_is_name))
def b_lcC (l_count l_is_name : Nat) : Ss :=
 (.c (.ite (.bo false (.c (.cmp .ne (.bf true .len (.c (.var 0) .n)) (.con (.int 2))) (.c (.cmp .nin (.idx (.var 0) (.con (.int 0))) (.tup (.c (.con (.str sRec)) (.c (.con (.str sOpt)) (.c (.con (.str sList)) .n))))) .n))) (.c (.ret (.con (.int 1000)))
 .n) .n)
 (b_lcD l_count l_is_name))
def b_lcB (l_count l_is_name : Nat) : Ss :=
 (.c (.ite (.cmp .inn (.idx (.var 0) (.con (.int 0))) (.tup (.c (.con (.str sInt)) (.c (.con (.str sText)) (.c (.con (.str sBool)) .n))))) (.c (.ite (.cmp .eq (.bf true .len (.c (.var 0) .n)) (.con (.int 1))) (.c (.ret (.con (.int 1)))
 .n) .n)
 (.c (.ret (.con (.int 1000)))
 .n)) .n)
 (b_lcC l_count l_is_name))
def b_law_countG (l_count l_is_name : Nat) : Ss :=
 (.c (.ite (.bo false (.c (.nt (.of (.isi (.var 0) [.tuple]))) (.c (.cmp .lt (.bf true .len (.c (.var 0) .n)) (.con (.int 1))) (.c (.nt (.of (.isi (.idx (.var 0) (.con (.int 0))) [.str]))) (.c (.cmp .gt (.var 1) (.con (.int 8))) .n))))) (.c (.ret (.con (.int 1000)))
 .n) .n)
 (b_lcB l_count l_is_name))
def spLc (N : Nat) : SpD := fun ds G Q _ => ∃ (v : D) (n : Nat), ds = [v, .int (9 - (n : Int))] ∧ PX 1000 v ∧ n ≤ 8 ∧ n < N ∧ Q (.int (cntD n v : Nat)) G
theorem cnt_bad {n : Nat} {v : D} (h : partsD v = none) : cntD n v = 1000 := by
  cases n with
  | zero => rfl
  | succ n => simp only [cntD, h]
def recW (k : List Nat) : Bool := sRec == k || (sOpt == k || sList == k)
theorem in_recW {k : List Nat} {G : HD} : inD (.str k) (.tup [.str sRec, .str sOpt, .str sList]) G = some (recW k) := by
  show (if (true && true) = true then some (List.any [D.str sRec, D.str sOpt, D.str sList] fun z => eqF z (.str k)) else none) = _
  simp [eqF, recW]
theorem lcF_ok {Γ : Gam} {lc nm N : Nat} (h1 : Γ.sp lc = spLc N) (h2 : Γ.sp nm = spNm) {E : EndsD} {k : List Nat} {fs : List D} {n : Nat} {G : HD} (hn : n ≤ 8) (hN : n < N) (hv : PX 1000 (.tup fs)) (l1 : 1 ≤ fs.length) (l8 : fs.length ≤ 8)
    (hbad : fieldsB (.tup fs) = false → E.rt (.int 1000) G) (hgood : fieldsB (.tup fs) = true → E.rt (.int (((fs.map fsec).map fun p => cntD n p).sum : Nat)) G) :
    wSs Γ (b_lcF lc nm) E [some (.tup [.str k, .tup fs]), some (.int (9 - ((n + 1 : Nat) : Int))), none, none, none] G := by
  have hlim : lim = 16777216 := rfl
  obtain ⟨_, hx⟩ := hv.of_tup
  simp_arith [b_lcF, h1, h2]
  intro p hp
  have e3 : ∀ x, delD (updD G p x) p = G := fun x => delD_updD hp
  refine wFor_ind (fun xs σ H => ∃ (a : List D) (o4 : Option D), fs = a ++ xs ∧ a.all fieldB = true ∧ (a.map fnm).Nodup ∧ H = updD G p (.lst (a.map fun z => .str (fnm z))) ∧
    σ = [some (.tup [.str k, .tup fs]), some (.int (9 - ((n + 1 : Nat) : Int))), some (.int (((a.map fsec).map fun p => cntD n p).sum : Nat)), some (.ref p), o4]) ?_ ?_ _ _ _ ⟨[], none, rfl, rfl, .nil, rfl, rfl⟩
  · rintro σ H ⟨a, o4, e, ha, hnd, rfl, rfl⟩
    rw [List.append_nil] at e
    subst e
    simp_arith [updD_same, e3]
    exact hgood (by simp only [fieldsB, ha, Bool.and_true, Bool.and_eq_true, decide_eq_true_eq]; exact ⟨⟨l1, l8⟩, hnd⟩)
  · rintro x xs ih σ H ⟨a, o4, e, ha, hnd, rfl, rfl⟩
    have px := hx x (by rw [e]; simp)
    have nof : fieldB x = false → E.rt (.int 1000) G := fun z => hbad (by
      simp only [fieldsB]
      rw [e, List.all_append, List.all_cons, z]; simp)
    have hal : a.length < 8 := by rw [e, List.length_append, List.length_cons] at l8; omega
    rcases px.cases with rfl | ⟨c, rfl⟩ | ⟨i, rfl⟩ | ⟨s, rfl⟩ | ⟨ws, rfl⟩ | ⟨ws, rfl⟩
    case inr.inr.inr.inr.inl =>
      match ws, px, nof, e, ih with
      | [], px, nof, e, ih =>
        have := nof rfl
        simp_arith [is2 (show 0 ≠ 2 by decide), updD_same, e3]
        exact this
      | [y], px, nof, e, ih =>
        have := nof rfl
        simp_arith [is2 (show 1 ≠ 2 by decide), updD_same, e3]
        exact this
      | y :: z :: u :: r, px, nof, e, ih =>
        have := nof rfl
        simp_arith [is2 (show r.length + 1 + 1 + 1 ≠ 2 by omega), updD_same, e3]
        exact this
      | [y, z], px, nof, e, ih =>
        simp_arith [is22]
        refine ⟨y, rfl, px.of_tup.2 y (by simp), ?_⟩
        simp_arith []
        cases e1 : nameB y with
        | false =>
          have := nof e1
          simp_arith [updD_same, e3]
          exact this
        | true =>
          obtain ⟨s, w, ey⟩ := fieldB_iff (d := .tup [y, z]) e1
          injection ey with ey; injection ey with ey _
          subst ey
          have hus : ∀ u ∈ a.map (fun z => D.str (fnm z)), ∃ s, u = .str s := fun u hu => by
            obtain ⟨q, _, rfl⟩ := List.mem_map.mp hu; exact ⟨_, rfl⟩
          obtain ⟨b2, hb, hb2⟩ := in_strs (s := s) (n := .ref p) (us := a.map fun z => .str (fnm z)) (G := updD G p (.lst (a.map fun z => .str (fnm z)))) (.inr ⟨p, rfl, updD_same⟩) hus
          have hmem : D.str s ∈ a.map (fun z => D.str (fnm z)) ↔ s ∈ a.map fnm := by
            constructor
            · intro q; obtain ⟨z, hz, ez⟩ := List.mem_map.mp q; injection ez with ez; exact List.mem_map.mpr ⟨z, hz, ez⟩
            · intro q; obtain ⟨z, hz, ez⟩ := List.mem_map.mp q; exact List.mem_map.mpr ⟨z, hz, by rw [ez]⟩
          simp_arith [hb]
          cases b2 with
          | true =>
            have hin := hmem.mp (hb2.mp rfl)
            have := hbad (by
              simp only [fieldsB]
              have : ¬ (fs.map fnm).Nodup := by
                rw [e, List.map_append, List.nodup_append]
                rintro ⟨_, _, q⟩
                exact q s hin s (by simp [fnm]) rfl
              rw [decide_eq_false this, Bool.and_false])
            simp_arith [updD_same, e3]
            exact this
          | false =>
            have hnin : s ∉ a.map fnm := fun q => by simpa using hb2.mpr (hmem.mpr q)
            simp_arith [updD_same, updD_updD, List.length_map]
            have ei : (9 - ((n + 1 : Nat) : Int)) + 1 = 9 - (n : Int) := by omega
            rw [ei]
            refine ⟨by omega, z, n, rfl, px.of_tup.2 z (by simp), hn, hN, ?_⟩
            simp_arith []
            refine ih _ _ ⟨a ++ [.tup [.str s, z]], some (.tup [.str s, z]), by rw [e]; simp, by rw [List.all_append, ha]; simp [fieldB, e1], ?_, by rw [List.map_append]; rfl, ?_⟩
            · rw [List.map_append, List.nodup_append]
              refine ⟨hnd, by simp, fun q hq q' hq' => ?_⟩
              simp [fnm] at hq'
              subst hq'
              rintro rfl
              exact hnin hq
            · simp only [List.map_append, List.sum_append, List.map_cons, List.map_nil, List.sum_cons, List.sum_nil, fsec, Nat.add_zero, Int.natCast_add]
    all_goals
      have := nof rfl
      simp_arith [updD_same, e3]
      exact this
theorem lcG_ok {Γ : Gam} {lc nm N : Nat} (h1 : Γ.sp lc = spLc N) (h2 : Γ.sp nm = spNm) (ds : List D) (G : HD) (QD : KD) (XD : KX) (h : spLc (N + 1) ds G QD XD) : wSs Γ (b_law_countG lc nm) { nx := fun _ H => QD .non H, rt := QD, ex := fun x _ H => XD x H } (startD 5 ds) G := by
  obtain ⟨v, n, rfl, hv, hn8, hnN, hQ⟩ := h
  have bad : partsD v = none → QD (.int 1000) G := fun z => by rw [cnt_bad z] at hQ; exact hQ
  rcases hv.cases with rfl | ⟨c, rfl⟩ | ⟨i, rfl⟩ | ⟨s, rfl⟩ | ⟨vs, rfl⟩ | ⟨vs, rfl⟩
  case inr.inr.inr.inr.inl =>
    cases vs with
    | nil =>
      have := bad rfl
      have z : (((0 : Nat) : Int) < 1) = True := by simp
      simp_arith [b_law_countG, z]
      exact this
    | cons a r =>
      have z : ((((r.length + 1 : Nat)) : Int) < 1) = False := by simp only [eq_iff_iff, iff_false]; omega
      have pa := hv.of_tup.2 a List.mem_cons_self
      rcases pa.cases with rfl | ⟨c, rfl⟩ | ⟨i, rfl⟩ | ⟨k, rfl⟩ | ⟨ws, rfl⟩ | ⟨ws, rfl⟩
      case inr.inr.inr.inl =>
        simp_arith [b_law_countG, z]
        cases n with
        | zero =>
          have e : ((8 : Int) < 9 - ((0 : Nat) : Int)) = True := by simp
          simp_arith [e]
          exact hQ
        | succ n =>
          have e : ((8 : Int) < 9 - ((n + 1 : Nat) : Int)) = False := by simp only [eq_iff_iff, iff_false]; omega
          simp_arith [e]
          simp_arith [b_lcB, in_leafW]
          cases el : leafW k with
          | true =>
            obtain ⟨w1, w2, w3⟩ := leafW_no el
            cases r with
            | nil =>
              have : cntD (n + 1) (.tup [.str k]) = 1 := by
                have e2 : partsD (.tup [.str k]) = some [] := by simp only [partsD, el]; rfl
                simp only [cntD, e2]; rfl
              rw [this] at hQ
              simp_arith [is11]
              exact hQ
            | cons w r =>
              have hp : partsD (.tup (.str k :: w :: r)) = none := by
                cases r with
                | nil => simp only [partsD, w1, w2, w3, Bool.false_and]; rfl
                | cons _ _ => rfl
              have := bad hp
              simp_arith [is1 (show r.length + 1 + 1 ≠ 1 by omega)]
              exact this
          | false =>
            simp_arith []
            simp_arith [b_lcC, in_recW]
            match r, hv, z, hQ, bad with
            | [], hv, z, hQ, bad =>
              have := bad (by simp only [partsD, el]; rfl)
              simp_arith [is2 (show 1 ≠ 2 by decide)]
              exact this
            | w :: x :: r, hv, z, hQ, bad =>
              have := bad rfl
              simp_arith [is2 (show r.length + 1 + 1 + 1 ≠ 2 by omega)]
              exact this
            | [w], hv, z, hQ, bad =>
              have pw := hv.of_tup.2 w (by simp)
              simp_arith [is22]
              have hpd : partsD (.tup [.str k, w]) = if (k == sRec && fieldsB w) = true then some (secs w) else if (k == sList) = true then some [w] else if (k == sOpt && (isTupD w && !optHd w)) = true then some [w] else none := rfl
              cases er : recW k with
              | false =>
                have hk : (k == sRec) = false ∧ (k == sList) = false ∧ (k == sOpt) = false := by
                  unfold recW at er
                  simp only [Bool.or_eq_false_iff, beq_eq_false_iff_ne] at er ⊢
                  exact ⟨fun q => er.1 q.symm, fun q => er.2.2 q.symm, fun q => er.2.1 q.symm⟩
                have := bad (by rw [hpd, hk.1, hk.2.1, hk.2.2]; rfl)
                exact this
              | true =>
                simp_arith []
                simp_arith [b_lcD]
                have ei : (9 - ((n + 1 : Nat) : Int)) + 1 = 9 - (n : Int) := by omega
                cases ek : (k == sRec) with
                | false =>
                  have one : ∀ ps, partsD (.tup [.str k, w]) = some [ps] → QD (.int (cntD n ps : Nat)) G := fun ps e => by
                    have : cntD (n + 1) (.tup [.str k, w]) = cntD n ps := by simp only [cntD, e]; simp
                    rw [this] at hQ; exact hQ
                  rw [ek] at hpd
                  have hpd : partsD (.tup [.str k, w]) = if (k == sList) = true then some [w] else if (k == sOpt && (isTupD w && !optHd w)) = true then some [w] else none := hpd
                  cases eo : (k == sOpt) with
                  | false =>
                    have elist : (k == sList) = true := by
                      unfold recW at er
                      simp only [Bool.or_eq_true, beq_iff_eq] at er
                      rw [beq_eq_false_iff_ne] at ek eo
                      rw [beq_iff_eq]
                      rcases er with q | q | q
                      · exact absurd q.symm ek
                      · exact absurd q.symm eo
                      · exact q.symm
                    have := one w (by rw [hpd, elist]; rfl)
                    simp_arith [b_lcO, h1, eo, ei]
                    exact ⟨w, n, rfl, pw, by omega, by omega, this⟩
                  | true =>
                    have elist : (k == sList) = false := by
                      rw [beq_iff_eq] at eo; subst eo; rfl
                    rw [elist, eo] at hpd
                    have hpd : partsD (.tup [.str k, w]) = if (isTupD w && !optHd w) = true then some [w] else none := hpd
                    rcases pw.cases with rfl | ⟨c, rfl⟩ | ⟨i, rfl⟩ | ⟨s, rfl⟩ | ⟨us, rfl⟩ | ⟨us, rfl⟩
                    case inr.inr.inr.inr.inl =>
                      cases us with
                      | nil =>
                        have := one _ hpd
                        have z0 : ((0 : Int) < ((0 : Nat) : Int)) = False := by simp
                        simp_arith [b_lcO, h1, eo, z0, ei]
                        exact ⟨_, n, rfl, pw, by omega, by omega, this⟩
                      | cons y ys =>
                        have z0 : ((0 : Int) < ((ys.length + 1 : Nat) : Int)) = True := by simp only [eq_iff_iff, iff_true]; omega
                        have ey := eq_strB (s := sOpt) (G := G) (pw.of_tup.2 y List.mem_cons_self)
                        have hpd : partsD (.tup [.str k, .tup (y :: ys)]) = if (true && !strB y sOpt) = true then some [.tup (y :: ys)] else none := hpd
                        simp_arith [b_lcO, h1, eo, z0, ey, ei]
                        cases e5 : strB y sOpt with
                        | true =>
                          rw [e5] at hpd
                          exact bad hpd
                        | false =>
                          rw [e5] at hpd
                          have := one _ hpd
                          exact ⟨_, n, rfl, pw, by omega, by omega, this⟩
                    all_goals
                      have := bad hpd
                      simp_arith [b_lcO, h1, eo, ei]
                      exact ⟨_, n, rfl, pw, by omega, by omega, by rw [cnt_bad rfl]; exact this⟩
                | true =>
                  have hk : k = sRec := by rw [beq_iff_eq] at ek; exact ek
                  subst hk
                  have hpd : partsD (.tup [.str sRec, w]) = if fieldsB w = true then some (secs w) else none := hpd
                  simp_arith []
                  simp_arith [b_lcE]
                  rcases pw.cases with rfl | ⟨c, rfl⟩ | ⟨i, rfl⟩ | ⟨s, rfl⟩ | ⟨fs, rfl⟩ | ⟨us, rfl⟩
                  case inr.inr.inr.inr.inl =>
                    have hb : fieldsB (.tup fs) = false → QD (.int 1000) G := fun z => bad (by rw [hpd, z]; rfl)
                    have hg : 1 ≤ fs.length → fieldsB (.tup fs) = true → QD (.int (((fs.map fsec).map fun p => cntD n p).sum : Nat)) G := fun z1 z => by
                      rw [z] at hpd
                      have hpd : partsD (.tup [.str sRec, .tup fs]) = some (fs.map fsec) := hpd
                      have : cntD (n + 1) (.tup [.str sRec, .tup fs]) = ((fs.map fsec).map fun p => cntD n p).sum := by
                        have hne : (fs.map fsec).isEmpty = false := by cases fs <;> first | (simp at z1; done) | rfl
                        simp only [cntD, hpd, hne]
                        rfl
                      rw [this] at hQ; exact hQ
                    simp_arith []
                    cases e1 : decide ((1 : Int) ≤ (fs.length : Nat)) with
                    | false => exact hb (by simp only [fieldsB]; rw [show decide (1 ≤ fs.length) = false from decide_eq_false (by have := of_decide_eq_false e1; omega)]; rfl)
                    | true =>
                      have e1 := of_decide_eq_true e1
                      simp_arith []
                      cases e2 : decide (((fs.length : Nat) : Int) ≤ 8) with
                      | false => exact hb (by simp only [fieldsB]; rw [show decide (fs.length ≤ 8) = false from decide_eq_false (by have := of_decide_eq_false e2; omega)]; simp)
                      | true =>
                        have e2 := of_decide_eq_true e2
                        simp_arith []
                        exact lcF_ok h1 h2 (by omega) (by omega) pw (by omega) (by omega) hb (hg (by omega))
                  all_goals
                    exact bad hpd
      all_goals
        have := bad (parts_nostr (by intro k z; cases z))
        simp_arith [b_law_countG, z]
        exact this
  all_goals
    have := bad rfl
    simp_arith [b_law_countG]
    exact this
def b_law_is_schema (l_count : Nat) : Ss :=
 (.c (.ite (.bo false (.c (.nt (.of (.isi (.var 0) [.tuple]))) (.c (.cmp .ne (.bf true .len (.c (.var 0) .n)) (.con (.int 2))) (.c (.cmp .ne (.idx (.var 0) (.con (.int 0))) (.con (.str sRec))) .n)))) (.c (.ret (.con (.bl false)))
 .n) .n)
 (.c (.ret (.cmp .le (.call l_count (.c (.var 0) (.c (.con (.int 1)) .n))) (.con (.int 24))))
 .n))
theorem lsG_ok {Γ : Gam} {lc : Nat} (h1 : Γ.sp lc = spLc 9) (ds : List D) (G : HD) (QD : KD) (XD : KX) (h : spSG ds G QD XD) : wSs Γ (b_law_is_schema lc) { nx := fun _ H => QD .non H, rt := QD, ex := fun x _ H => XD x H } (startD 1 ds) G := by
  obtain ⟨v, rfl, hv, hQ⟩ := h
  rcases hv.cases with rfl | ⟨c, rfl⟩ | ⟨i, rfl⟩ | ⟨s, rfl⟩ | ⟨vs, rfl⟩ | ⟨vs, rfl⟩
  case inr.inr.inr.inr.inl =>
    match vs, hv, hQ with
    | [], hv, hQ =>
      simp_arith [b_law_is_schema, is2 (show 0 ≠ 2 by decide)]
      exact hQ
    | [x], hv, hQ =>
      have hz : isS (.tup [x]) = false := by
        show (strB x sRec && decide (cntD 8 (.tup [x]) ≤ 24)) = false
        cases e : strB x sRec with
        | false => rfl
        | true =>
          have : partsD (.tup [x]) = none := by
            cases x <;> first | cases e | skip
            rename_i k
            have hk : k = sRec := by simpa [strB] using e
            subst hk; rfl
          rw [cnt_bad this]; rfl
      rw [hz] at hQ
      simp_arith [b_law_is_schema, is2 (show 1 ≠ 2 by decide)]
      exact hQ
    | x :: y :: z :: r, hv, hQ =>
      have hz : isS (.tup (x :: y :: z :: r)) = false := by
        show (strB x sRec && decide (cntD 8 (.tup (x :: y :: z :: r)) ≤ 24)) = false
        have : partsD (.tup (x :: y :: z :: r)) = none := by cases x <;> rfl
        rw [cnt_bad this, Bool.and_comm]; rfl
      rw [hz] at hQ
      simp_arith [b_law_is_schema, is2 (show r.length + 1 + 1 + 1 ≠ 2 by omega)]
      exact hQ
    | [x, y], hv, hQ =>
      have ex := eq_strB (s := sRec) (G := G) (hv.of_tup.2 x (by simp))
      have hQ : QD (.bl (strB x sRec && decide (cntD 8 (.tup [x, y]) ≤ 24))) G := hQ
      simp_arith [b_law_is_schema, h1, is22, ex]
      cases e : strB x sRec with
      | false => rw [e] at hQ; exact hQ
      | true =>
        rw [e] at hQ
        refine ⟨.tup [x, y], 8, rfl, hv, by decide, by decide, ?_⟩
        simp_arith []
        have : decide (((cntD 8 (.tup [x, y]) : Nat) : Int) ≤ 24) = decide (cntD 8 (.tup [x, y]) ≤ 24) := by
          congr 1; rw [eq_iff_iff]; omega
        rw [this]
        exact hQ
  all_goals
    simp_arith [b_law_is_schema]
    exact hQ
end DL

namespace DL
open PySem PySem.Spec PyProof.Rows L2
/-! ### is_row -/
def b_is_integer : Ss :=
 (.c (.ret (.boo true (.c (.isi (.var 0) [.int]) (.c (.nt (.isi (.var 0) [.bool])) .n))))
 .n)
def spIsInt : SpD := fun ds G Q _ => ∃ i, ds = [.int i] ∧ Q (.bl true) G
theorem is_integer_ok {Γ : Gam} (ds : List D) (G : HD) (QD : KD) (XD : KX) (h : spIsInt ds G QD XD) : wSs Γ b_is_integer { nx := fun _ H => QD .non H, rt := QD, ex := fun x _ H => XD x H } (startD 1 ds) G := by
  obtain ⟨i, rfl, hQ⟩ := h
  simp_arith [b_is_integer]
  exact hQ
def b_is_text (gMOST_SIGNS gSIGNS : Nat) : Ss :=
 (.c (.ite (.bo false (.c (.nt (.of (.isi (.var 0) [.str]))) (.c (.cmp .gt (.bf true .len (.c (.var 0) .n)) (.glb gMOST_SIGNS)) .n))) (.c (.ret (.con (.bl false)))
 .n) .n)
 (.c (.ret (.bf true .all (.c (.lc true (.cmp .inn (.var 1) (.glb gSIGNS)) (.n 1) (.of (.var 0)) .yes [("sign", 1)]) .n)))
 .n))
def spIsTx : SpD := fun ds G Q _ => ∃ s, ds = [.str s] ∧ TextOk s ∧ Q (.bl true) G
theorem is_text_ok {Γ : Gam} {gm gs : Nat} (hm : Γ.gl gm = .int 200) (hg : Γ.gl gs = .str signs) (ds : List D) (G : HD) (QD : KD) (XD : KX) (h : spIsTx ds G QD XD) : wSs Γ (b_is_text gm gs) { nx := fun _ H => QD .non H, rt := QD, ex := fun x _ H => XD x H } (startD 2 ds) G := by
  obtain ⟨s, rfl, hs, hQ⟩ := h
  have h2 := hs.1
  have e2 : ((200 : Int) < ((s.length : Nat) : Int)) = False := by simp only [eq_iff_iff, iff_false]; omega
  simp_arith [b_is_text, hm, hg, e2]
  exact all_in (i := 1) (σ := [some (.str s), none]) hs.2 hQ fun d => rfl
def b_is_leaf_value (cis_integer cis_text : Nat) : Ss :=
 (.c (.ite (.cmp .eq (.var 0) (.con (.str sInt))) (.c (.ret (.boo true (.c (.call cis_integer (.c (.var 1) .n)) (.c (.chn .le .lt (.neg (.bin true .pow (.con (.int 2)) (.con (.int 63)))) (.var 1) (.bin true .pow (.con (.int 2)) (.con (.int 63)))) .n))))
 .n) .n)
 (.c (.ite (.cmp .eq (.var 0) (.con (.str sBool))) (.c (.ret (.isi (.var 1) [.bool]))
 .n) .n)
 (.c (.ret (.call cis_text (.c (.var 1) .n)))
 .n)))
def spIsLv : SpD := fun ds G Q _ => ∃ k v, ds = [.str k, v] ∧ LeafV k v ∧ Q (.bl true) G
theorem is_leaf_value_ok {Γ : Gam} {ii it : Nat} (h1 : Γ.sp ii = spIsInt) (h2 : Γ.sp it = spIsTx) (ds : List D) (G : HD) (QD : KD) (XD : KX) (h : spIsLv ds G QD XD) : wSs Γ (b_is_leaf_value ii it) { nx := fun _ H => QD .non H, rt := QD, ex := fun x _ H => XD x H } (startD 2 ds) G := by
  obtain ⟨k, v, rfl, hv, hQ⟩ := h
  have a1 : (sText == sInt) = false := rfl
  have a2 : (sBool == sInt) = false := rfl
  have a3 : (sText == sBool) = false := rfl
  rcases hv with ⟨rfl, i, rfl, hi⟩ | ⟨rfl, s, rfl, hs⟩ | ⟨rfl, b, rfl⟩
  · have e2 : (2 : Int) ^ 63 = 9223372036854775808 := by decide
    have f1 : ((-9223372036854775808 : Int) ≤ i) = True := by simp only [eq_iff_iff, iff_true]; exact hi.1
    have f2 : (i < (9223372036854775808 : Int)) = True := by simp only [eq_iff_iff, iff_true]; exact hi.2
    simp_arith [b_is_leaf_value, h1, h2, beq_self_eq_true]
    refine ⟨i, rfl, ?_⟩
    simp_arith [e2, f1, f2]
    first
      | exact hQ
      | exact ⟨by decide, by decide, hQ⟩
      | exact ⟨by decide, ⟨by decide, hQ⟩⟩
  · simp_arith [b_is_leaf_value, h1, h2, a1, a3]
    exact ⟨s, rfl, hs, hQ⟩
  · simp_arith [b_is_leaf_value, h1, h2, a2, beq_self_eq_true]
    exact hQ
/-! ### is_value -/
def b_iv3 : Ss := (.c (.ite (.cmp .eq (.idx (.var 0) (.con (.int 0))) (.con (.str sList))) (.c (.ex (.mt .extend (.var 2) (.c (.lc true (.tup (.c (.idx (.var 0) (.con (.int 1))) (.c (.var 3) .n))) (.n 3) (.of (.var 1)) .yes [("one", 3)]) .n)))
 .n) (.c (.ite (.cmp .ne (.bf true .len (.c (.var 1) .n)) (.bf true .len (.c (.idx (.var 0) (.con (.int 1))) .n))) (.c (.ret (.con (.bl false)))
 .n) (.c (.ex (.mt .extend (.var 2) (.c (.lc true (.tup (.c (.idx (.var 4) (.con (.int 1))) (.c (.var 3) .n))) (.t [(.n 4), (.n 3)]) (.zip (.c (.idx (.var 0) (.con (.int 1))) (.c (.var 1) .n))) .yes [("field", 4), ("one", 3)]) .n)))
 .n))
 .n))
 .n)
def b_iv2 : Ss := (.c (.ite (.cmp .eq (.idx (.var 0) (.con (.int 0))) (.con (.str sOpt))) (.c (.ite (.cmp .nisn (.var 1) (.con .non)) (.c (.ex (.mt .append (.var 2) (.c (.tup (.c (.idx (.var 0) (.con (.int 1))) (.c (.var 1) .n))) .n)))
 .n) .n)
 .n) (.c (.ite (.nt (.of (.isi (.var 1) [.tuple]))) (.c (.ret (.con (.bl false)))
 .n) b_iv3)
 .n))
 .n)
def b_iv1 (cis_leaf_value gLEAVES : Nat) : Ss := (.c (.ite (.cmp .inn (.idx (.var 0) (.con (.int 0))) (.glb gLEAVES)) (.c (.ite (.nt (.of (.call cis_leaf_value (.c (.idx (.var 0) (.con (.int 0))) (.c (.var 1) .n))))) (.c (.ret (.con (.bl false)))
 .n) .n)
 .n) b_iv2)
 .n)
def b_is_value (cis_leaf_value gLEAVES : Nat) : Ss :=
 (.c (.set 2 (.lst false (.c (.tup (.c (.var 0) (.c (.var 1) .n))) .n)))
 (.c (.whl (.of (.var 2)) (.c (.asg (.t [(.n 0), (.n 1)]) (.mt .pop (.var 2) .n))
 (b_iv1 cis_leaf_value gLEAVES)))
 (.c (.fz 2) (.c (.ret (.con (.bl true)))
 .n))))
abbrev IV := Kd × D × Nat
def IV.d (e : IV) : D := .tup [enc e.1, e.2.1]
def IV.w (e : IV) : Nat := sz e.1 * (e.2.2 + 1)
def IV.Ok (e : IV) : Prop := Wf e.1 ∧ OkV e.1 e.2.1 e.2.2
theorem sz_pos (k : Kd) : 1 ≤ sz k := by cases k <;> simp [sz]
def spIsVal : SpD := fun ds G Q _ => ∃ k v m, ds = [enc k, v] ∧ Wf k ∧ OkV k v m ∧ sz k * (m + 1) ≤ 1000000 ∧ Q (.bl true) G
theorem nis_val {v : D} {H : HD} (h : v ≠ .non) : cmpD .nisn v .non H = some true := by
  cases v <;> first | rfl | exact absurd rfl h
theorem zip_w {a : Kd} : ∀ {vs : List D} {ms : List Nat}, vs.length = ms.length → (((vs.zip ms).map fun p => ((a, p.1, p.2) : IV)).map IV.w).sum = sz a * (vs.length + ms.sum)
  | [], [], _ => by simp
  | [], _ :: _, h => by simp at h
  | _ :: _, [], h => by simp at h
  | v :: vs, m :: ms, h => by
    have := zip_w (a := a) (vs := vs) (ms := ms) (by simpa using h)
    simp only [List.zip_cons_cons, List.map_cons, List.sum_cons, this, List.length_cons]
    simp only [IV.w]
    rw [← Nat.mul_add]; congr 1; omega
theorem zip_d {a : Kd} : ∀ {vs : List D} {ms : List Nat}, vs.length = ms.length → ((vs.zip ms).map fun p => ((a, p.1, p.2) : IV)).map IV.d = vs.map fun x => .tup [enc a, x]
  | [], [], _ => rfl
  | [], _ :: _, h => by simp at h
  | _ :: _, [], h => by simp at h
  | v :: vs, m :: ms, h => by
    have := zip_d (a := a) (vs := vs) (ms := ms) (by simpa using h)
    simp only [List.zip_cons_cons, List.map_cons, this]; rfl
theorem zip_ok {a : Kd} (w : Wf a) : ∀ {vs : List D} {ms : List Nat}, (∀ (i : Nat) (x : D) (m : Nat), vs[i]? = some x → ms[i]? = some m → OkV a x m) → ∀ e ∈ (vs.zip ms).map fun p => ((a, p.1, p.2) : IV), IV.Ok e
  | [], _, _, e, he => by simp at he
  | _ :: _, [], _, e, he => by simp at he
  | v :: vs, m :: ms, h, e, he => by
    simp only [List.zip_cons_cons, List.map_cons] at he
    rcases List.mem_cons.mp he with rfl | he
    · exact ⟨w, h 0 v m rfl rfl⟩
    · exact zip_ok w (fun i x m a b => h (i + 1) x m (by simpa using a) (by simpa using b)) e he
def pz : Fs → List D → List D
  | .nil, _ => []
  | .cons _ k fs, vs => match vs with
    | v :: r => .tup [enc k, v] :: pz fs r
    | [] => []
theorem okvs_pile : ∀ (fs : Fs) (vs : List D) (n : Nat), Wfs fs → OkVs fs vs n → ∃ L : List IV, L.map IV.d = pz fs vs ∧ (∀ e ∈ L, e.Ok) ∧ (L.map IV.w).sum ≤ szs fs * (n + 1)
  | .nil, vs, n, _, _ => ⟨[], by simp [pz], fun _ h => (nomatch h), by simp⟩
  | .cons x k fs, vs, n, w, h => by
    simp only [OkVs] at h
    obtain ⟨v, r, a, b, rfl, hab, h1, h2⟩ := h
    simp only [Wfs] at w
    obtain ⟨L, l1, l2, l3⟩ := okvs_pile fs r b w.2.2 h2
    refine ⟨(k, v, a) :: L, by simp only [List.map_cons, l1, pz]; rfl, fun e he => ?_, ?_⟩
    · rcases List.mem_cons.mp he with rfl | he
      · exact ⟨w.2.1, h1⟩
      · exact l2 e he
    · simp only [List.map_cons, List.sum_cons, szs, Nat.add_mul]
      have q1 : IV.w (k, v, a) ≤ sz k * (n + 1) := Nat.mul_le_mul_left _ (by show a + 1 ≤ n + 1; omega)
      have q2 : szs fs * (b + 1) ≤ szs fs * (n + 1) := Nat.mul_le_mul_left _ (by omega)
      omega
theorem is_value_ok {Γ : Gam} {il gl : Nat} (h1 : Γ.sp il = spIsLv) (hg : Γ.gl gl = .tup [.str sInt, .str sText, .str sBool]) (ds : List D) (G : HD) (QD : KD) (XD : KX) (h : spIsVal ds G QD XD) : wSs Γ (b_is_value il gl) { nx := fun _ H => QD .non H, rt := QD, ex := fun x _ H => XD x H } (startD 5 ds) G := by
  obtain ⟨k0, v0, m0, rfl, w, hv, hb, hQ⟩ := h
  have hlim : lim = 16777216 := rfl
  simp_arith [b_is_value]
  intro p hp
  have e3 : ∀ x, delD (updD G p x) p = G := fun x => delD_updD hp
  refine ⟨fun m σ H => ∃ (st : List IV) (o0 o1 : Option D), m = (st.map IV.w).sum ∧ σ = [o0, o1, some (.ref p), none, none] ∧ H = updD G p (.lst (st.map IV.d)) ∧ (∀ e ∈ st, e.Ok) ∧ (st.map IV.w).sum ≤ 1000000, ⟨_, [(k0, v0, m0)], _, _, rfl, rfl, rfl, fun e he => ?_, by simpa [IV.w] using hb⟩, ?_⟩
  · rw [List.mem_singleton] at he; subst he; exact ⟨w, hv⟩
  · rintro m σ H ⟨st, o0, o1, rfl, rfl, rfl, k1, k2⟩
    simp_arith [updD_same, List.length_map]
    rcases List.eq_nil_or_concat st with rfl | ⟨st, t, rfl⟩
    · simp_arith [bne_self_eq_false, updD_same, e3]
      exact hQ
    · obtain ⟨k, v, m⟩ := t
      have hne : ((st.concat (k, v, m)).length != 0) = true := by simp
      have l1 : ((st.concat (k, v, m)).map IV.d).getLast? = some (IV.d (k, v, m)) := by simp
      have l2 : ((st.concat (k, v, m)).map IV.d).dropLast = st.map IV.d := by simp
      obtain ⟨wk, hvk⟩ := k1 (k, v, m) (by simp)
      simp only at wk hvk
      have hw : ((st.concat (k, v, m)).map IV.w).sum = (st.map IV.w).sum + sz k * (m + 1) := by simp [IV.w]
      rw [hw] at k2
      have hst : st.length ≤ (st.map IV.w).sum := sum_ge_len fun e he => Nat.mul_pos (sz_pos _) (Nat.succ_pos _)
      have hso : ∀ e ∈ st, e.Ok := fun e he => k1 e (by simp [he])
      have hpos : 0 < sz k * (m + 1) := Nat.mul_pos (sz_pos _) (Nat.succ_pos _)
      simp_arith [hne, l1, l2, updD_same, updD_updD, IV.d]
      rw [hw]
      cases k with
      | leaf k =>
        simp only [OkV] at hvk
        simp_arith [b_iv1, h1, hg, enc, leaf_in wk]
        refine ⟨k, v, rfl, hvk, ?_⟩
        simp_arith []
        exact ⟨_, by omega, st, _, _, rfl, rfl, rfl, hso, by omega⟩
      | one o a =>
        simp only [Wf] at wk
        have hsz : sz (.one o a) = sz a + 1 := by simp only [sz]
        rw [hsz] at k2 hpos ⊢
        cases o with
        | true =>
          have o2 : (sOne true == sOpt) = true := rfl
          by_cases hz : v = .non
          · subst hz
            simp_arith [b_iv1, hg, enc, one_in]
            simp_arith [b_iv2, o2]
            exact ⟨_, by omega, st, _, _, rfl, rfl, rfl, hso, by omega⟩
          · simp only [OkV] at hvk
            have hvk := hvk.resolve_left hz
            have isv : ∀ H, cmpD .nisn v .non H = some true := fun H => nis_val hz
            have hlt : sz a * (m + 1) < (sz a + 1) * (m + 1) := Nat.mul_lt_mul_of_pos_right (by omega) (by omega)
            simp_arith [b_iv1, hg, enc, one_in]
            simp_arith [b_iv2, o2, isv, updD_same, updD_updD, List.length_map]
            refine ⟨by omega, _, ?_, st ++ [(a, v, m)], _, _, rfl, rfl, by rw [List.map_append]; rfl, fun e he => ?_, ?_⟩
            · simp only [List.map_append, List.map_cons, List.map_nil, List.sum_append, List.sum_cons, List.sum_nil, IV.w]; omega
            · rcases List.mem_append.mp he with he | he
              · exact hso e he
              · rw [List.mem_singleton] at he; subst he; exact ⟨wk.2, hvk⟩
            · simp only [List.map_append, List.map_cons, List.map_nil, List.sum_append, List.sum_cons, List.sum_nil, IV.w]; omega
        | false =>
          have o1 : (sOne false == sList) = true := rfl
          have o2 : (sOne false == sOpt) = false := rfl
          simp only [OkV] at hvk
          obtain ⟨vs, ms, rfl, z1, z2, z3⟩ := hvk
          have zw := zip_w (a := a) z1
          have zd := zip_d (a := a) z1
          have zo := zip_ok wk.2 z3
          generalize hL : (vs.zip ms).map (fun p => ((a, p.1, p.2) : IV)) = L at zw zd zo
          have hlt : sz a * (vs.length + ms.sum) < (sz a + 1) * (m + 1) := Nat.lt_of_le_of_lt (Nat.mul_le_mul_left _ z2) (by rw [Nat.add_mul, Nat.mul_add]; omega)
          have hLl : L.length ≤ (L.map IV.w).sum := sum_ge_len fun e he => Nat.mul_pos (sz_pos _) (Nat.succ_pos _)
          have hLv : L.length = vs.length := by have := congrArg List.length zd; simpa using this
          simp_arith [b_iv1, hg, enc, one_in]
          simp_arith [b_iv2, o2]
          simp_arith [b_iv3, o1, updD_same]
          refine lcD_ind (fun xs acc H => H = updD G p (.lst (st.map IV.d)) ∧ ∃ a1 : List D, vs = a1 ++ xs ∧ acc = a1.map fun x => .tup [enc a, x]) ?_ ?_ _ _ _ ⟨rfl, [], rfl, rfl⟩
          · rintro acc H ⟨rfl, a1, hx, rfl⟩
            rw [List.append_nil] at hx
            subst hx
            simp_arith [updD_same, updD_updD, List.length_map]
            refine ⟨by omega, _, ?_, st ++ L, _, _, rfl, rfl, by rw [List.map_append, zd], fun e he => ?_, ?_⟩
            · simp only [List.map_append, List.sum_append, zw]; omega
            · rcases List.mem_append.mp he with he | he
              · exact hso e he
              · exact zo e he
            · simp only [List.map_append, List.sum_append, zw]; omega
          · rintro x xs acc ih H ⟨rfl, a1, hx, rfl⟩
            simp_arith []
            exact ih _ _ ⟨rfl, a1 ++ [x], by rw [hx]; simp, by simp⟩
      | recd fs =>
        simp only [Wf] at wk
        have hsz : sz (.recd fs) = szs fs + 1 := by simp only [sz]
        rw [hsz] at k2 hpos ⊢
        simp only [OkV] at hvk
        obtain ⟨vs, rfl, hvk⟩ := hvk
        obtain ⟨L, zd, zo, zw⟩ := okvs_pile fs vs m wk.2 hvk
        have hlen := okvs_len hvk
        have hlen2 : (encs fs).length = (toL fs).length := by rw [encs_eq, List.length_map]
        have r1 : (sRec == sOpt) = false := rfl
        have r2 : (sRec == sList) = false := rfl
        have hlt : szs fs * (m + 1) < (szs fs + 1) * (m + 1) := Nat.mul_lt_mul_of_pos_right (by omega) (by omega)
        have hLl : L.length ≤ (L.map IV.w).sum := sum_ge_len fun e he => Nat.mul_pos (sz_pos _) (Nat.succ_pos _)
        have hLv : L.length = (pz fs vs).length := by have := congrArg List.length zd; simpa using this
        have ezip : ∀ xs ys : List D, zipD [.tup xs, .tup ys] = some (zip2L xs ys) := fun _ _ => rfl
        have elen : ((((vs.length : Nat)) : Int) == (((encs fs).length : Nat) : Int)) = true := by rw [beq_iff_eq]; omega
        simp_arith [b_iv1, hg, enc, rec_in]
        simp_arith [b_iv2, r1]
        simp_arith [b_iv3, r2, elen, ezip, updD_same]
        refine lcD_ind (fun xs acc H => H = updD G p (.lst (st.map IV.d)) ∧ ∃ (ls : List (List Nat × Kd)) (ws : List D) (b : Nat), xs = zip2L (ls.map enc1) ws ∧ OkVs (fsOf ls) ws b ∧ acc ++ pz (fsOf ls) ws = pz fs vs) ?_ ?_ _ _ _ ⟨rfl, toL fs, vs, m, congrArg (fun l => zip2L l vs) (encs_eq fs), by rw [fsOf_toL]; exact hvk, by rw [fsOf_toL]; exact List.nil_append _⟩
        · rintro acc H ⟨rfl, ls, ws, b, hx, hok, hz⟩
          have : ls = [] := by
            cases ls with
            | nil => rfl
            | cons q ls => simp only [fsOf, OkVs] at hok; obtain ⟨_, _, _, _, rfl, _⟩ := hok; cases hx
          subst this
          simp only [fsOf, pz, List.append_nil] at hz
          simp_arith [updD_same, updD_updD, List.length_map]
          refine ⟨by rw [hz]; omega, _, ?_, st ++ L, _, _, rfl, rfl, by rw [List.map_append, zd, hz], fun e he => ?_, ?_⟩
          · simp only [List.map_append, List.sum_append]; omega
          · rcases List.mem_append.mp he with he | he
            · exact hso e he
            · exact zo e he
          · simp only [List.map_append, List.sum_append]; omega
        · rintro x xs acc ih H ⟨rfl, ls, ws, b, hx, hok, hz⟩
          cases ls with
          | nil => cases hx
          | cons q ls =>
            simp only [fsOf, OkVs] at hok
            obtain ⟨y, ws', a1, b1, rfl, _, _, hok2⟩ := hok
            have hx : x :: xs = D.tpl [enc1 q, y] :: zip2L (ls.map enc1) ws' := hx
            injection hx with hx1 hx2
            subst hx1; subst hx2
            simp_arith [enc1]
            exact ih _ _ ⟨rfl, ls, ws', b1, rfl, hok2, by rw [← hz]; simp [fsOf, pz]⟩
def b_is_row (cis_value : Nat) : Ss :=
 (.c (.ret (.call cis_value (.c (.var 0) (.c (.var 1) .n))))
 .n)
theorem is_row_ok {Γ : Gam} {iv : Nat} (h1 : Γ.sp iv = spIsVal) (ds : List D) (G : HD) (QD : KD) (XD : KX) (h : spIsVal ds G QD XD) : wSs Γ (b_is_row iv) { nx := fun _ H => QD .non H, rt := QD, ex := fun x _ H => XD x H } (startD 2 ds) G := by
  obtain ⟨k, v, m, rfl, w, hv, hb, hQ⟩ := h
  simp_arith [b_is_row, h1]
  exact ⟨k, v, m, rfl, w, hv, hb, hQ⟩
mutual
theorem sz_le : ∀ k, Wf k → sz k ≤ (lv k).length * dp k
  | .leaf k, _ => by simp [sz, lv, dp]
  | .one o a, w => by
    simp only [Wf] at w
    have h1 := sz_le a w.2
    have h2 := lv_pos a w.2
    simp only [sz, lv, dp, List.length_map, Nat.mul_add]
    omega
  | .recd fs, w => by
    simp only [Wf] at w
    have h1 := szs_le fs w.2
    have h2 := lvs_pos fs w.1.1 w.2
    simp only [sz, lv, dp, Nat.mul_add]
    omega
theorem szs_le : ∀ fs, Wfs fs → szs fs ≤ (lvs fs).length * dps fs
  | .nil, _ => by simp [szs]
  | .cons n k fs, w => by
    simp only [Wfs] at w
    have h1 := sz_le k w.2.1
    have h2 := szs_le fs w.2.2
    simp only [szs, lvs, dps, List.length_append, List.length_map, Nat.add_mul]
    have q1 : (lv k).length * dp k ≤ (lv k).length * max (dp k) (dps fs) := Nat.mul_le_mul_left _ (Nat.le_max_left _ _)
    have q2 : (lvs fs).length * dps fs ≤ (lvs fs).length * max (dp k) (dps fs) := Nat.mul_le_mul_left _ (Nat.le_max_right _ _)
    omega
end
/-! ### the leaves of a choice -/
def pick (P : Nat → Bool) : Nat → List Lf → List Lf
  | _, [] => []
  | f, x :: r => if P f = true then x :: pick P (f + 1) r else pick P (f + 1) r
section
variable {P : Nat → Bool}
theorem pick_app : ∀ (a b : List Lf) (f : Nat), pick P f (a ++ b) = pick P f a ++ pick P (f + a.length) b
  | [], b, f => rfl
  | x :: a, b, f => by
    have := pick_app a b (f + 1)
    simp only [List.cons_append, pick, List.length_cons]
    rw [this, show f + 1 + a.length = f + (a.length + 1) by omega]
    split <;> rfl
theorem pick_map (g : Lf → Lf) : ∀ (a : List Lf) (f : Nat), pick P f (a.map g) = (pick P f a).map g
  | [], f => rfl
  | x :: a, f => by
    simp only [List.map_cons, pick, pick_map g a (f + 1)]
    split <;> rfl
theorem pick_none : ∀ (a : List Lf) (f : Nat), anyP P f a.length = false → pick P f a = []
  | [], _, _ => rfl
  | x :: a, f, h => by
    have h1 : P f = false := by
      cases e : P f with
      | false => rfl
      | true => rw [anyP_iff.mpr ⟨f, Nat.le_refl _, by simp, e⟩] at h; cases h
    have h2 : anyP P (f + 1) a.length = false := by
      cases e : anyP P (f + 1) a.length with
      | false => rfl
      | true =>
        obtain ⟨i, q1, q2, q3⟩ := anyP_iff.mp e
        rw [anyP_iff.mpr ⟨i, by omega, by simp; omega, q3⟩] at h; cases h
    simp only [pick, h1, pick_none a (f + 1) h2]
    simp
mutual
theorem lv_pick : ∀ (k : Kd) (f : Nat), anyP P f (lv k).length = true → lv (chs P k f) = pick P f (lv k)
  | .leaf k, f, h => by
    obtain ⟨i, a, b, c⟩ := anyP_iff.mp h
    simp only [lv, List.length_singleton] at b
    have : i = f := by omega
    subst this
    simp only [chs, lv, pick, c, if_true]
  | .one o a, f, h => by
    simp only [lv, List.length_map] at h
    simp only [chs, lv, lv_pick a f h, pick_map]
  | .recd fs, f, h => by
    simp only [chs, lv]
    exact lvs_pick fs f
theorem lvs_pick : ∀ (fs : Fs) (f : Nat), lvs (chss P fs f) = pick P f (lvs fs)
  | .nil, f => by simp [chss, lvs, pick]
  | .cons n k fs, f => by
    have h2 := lvs_pick fs (f + (lv k).length)
    simp only [chss, lvs, pick_app, List.length_map, pick_map]
    cases e : anyP P f (lv k).length with
    | true => simp only [if_true, lvs, lv_pick k f e, h2]
    | false => simp only [Bool.false_eq_true, if_false, h2, pick_none _ f e, List.map_nil, List.nil_append]
end
end
end DL

namespace DL
open PySem PySem.Spec PyProof.Rows L2
/-! ## 40. Values of any form, and their texts -/
inductive TX : Nat → D → Prop
  | non {n : Nat} : TX n .non
  | bl {n : Nat} (b : Bool) : TX n (.bl b)
  | int {n : Nat} {i : Int} : i.natAbs.log2 < 1920 → TX n (.int i)
  | str {n : Nat} {s : List Nat} : s.length ≤ 201 → (∀ c ∈ s, c < 1114112) → TX n (.str s)
  | tup {n : Nat} {ds : List D} : (∀ x ∈ ds, TX n x) → TX (n + 1) (.tup ds)
  | lst {n : Nat} {ds : List D} : (∀ x ∈ ds, TX n x) → TX (n + 1) (.lst ds)
theorem TX.mono : ∀ {n m : Nat} {d : D}, TX n d → n ≤ m → TX m d
  | _, _, _, .non, _ => .non
  | _, _, _, .bl b, _ => .bl b
  | _, _, _, .int h, _ => .int h
  | _, _, _, .str h1 h2, _ => .str h1 h2
  | n + 1, m + 1, _, .tup h, l => .tup fun x hx => (h x hx).mono (by omega)
  | n + 1, m + 1, _, .lst h, l => .lst fun x hx => (h x hx).mono (by omega)
mutual
def nd : D → Nat
  | .tup ds => nds ds + 1
  | .lst ds => nds ds + 1
  | _ => 1
def nds : List D → Nat
  | [] => 0
  | d :: ds => nd d + nds ds
end
theorem nd_pos (d : D) : 1 ≤ nd d := by cases d <;> simp only [nd] <;> omega
/-! ### the text -/
/-! ### values of a kind -/
mutual
theorem okv_tx : ∀ (k : Kd) (v : D) (m : Nat), Wf k → OkV k v m → TX (dp k) v ∧ nd v ≤ sz k * (m + 1)
  | .leaf k, v, m, _, h => by
    simp only [OkV] at h
    simp only [sz, Nat.one_mul]
    rcases h with ⟨_, i, rfl, hi⟩ | ⟨_, s, rfl, hs⟩ | ⟨_, b, rfl⟩
    · refine ⟨.int ?_, by simp only [nd]; omega⟩
      have h1 := hi.1
      have h2 := hi.2
      have : i.natAbs < 2 ^ 64 := by
        have e : (2 : Nat) ^ 64 = 18446744073709551616 := by decide
        omega
      by_cases hz : i.natAbs = 0
      · rw [hz]; decide
      · have := (Nat.log2_lt hz).mpr this
        omega
    · refine ⟨.str (by have := hs.1; omega) fun c hc => ?_, by simp only [nd]; omega⟩
      have h75 : ∀ c ∈ signs, c < 1114112 := by decide
      exact h75 c (hs.2 c hc)
    · exact ⟨.bl b, by simp only [nd]; omega⟩
  | .one true a, v, m, w, h => by
    simp only [Wf] at w
    simp only [OkV] at h
    simp only [dp, sz]
    have hp := sz_pos a
    rcases h with rfl | h
    · refine ⟨.non, ?_⟩
      simp only [nd]
      have : 1 * 1 ≤ (sz a + 1) * (m + 1) := Nat.mul_le_mul (by omega) (by omega)
      omega
    · obtain ⟨h1, h2⟩ := okv_tx a v m w.2 h
      refine ⟨h1.mono (by omega), Nat.le_trans h2 (Nat.mul_le_mul_right _ (by omega))⟩
  | .one false a, v, m, w, h => by
    simp only [Wf] at w
    simp only [OkV] at h
    obtain ⟨vs, ms, rfl, hl, hs, hv⟩ := h
    simp only [dp, sz]
    have each : ∀ (i : Nat) (x : D) (n : Nat), vs[i]? = some x → ms[i]? = some n → TX (dp a) x ∧ nd x ≤ sz a * (n + 1) := fun i x n e1 e2 => okv_tx a x n w.2 (hv i x n e1 e2)
    have hall : ∀ x ∈ vs, TX (dp a) x := fun x hx => by
      obtain ⟨i, hi, e⟩ := List.getElem_of_mem hx
      exact (each i x ms[i] (by rw [List.getElem?_eq_getElem hi, e]) (by rw [List.getElem?_eq_getElem (by omega)])).1
    have hsum : ∀ (vs : List D) (ms : List Nat), vs.length = ms.length → (∀ (i : Nat) (x : D) (n : Nat), vs[i]? = some x → ms[i]? = some n → nd x ≤ sz a * (n + 1)) → nds vs ≤ sz a * (vs.length + ms.sum) := by
      intro vs
      induction vs with
      | nil => intro ms _ _; simp only [nds]; omega
      | cons x vs ih =>
        intro ms hl h
        cases ms with
        | nil => simp at hl
        | cons n ms =>
          have h1 := h 0 x n rfl rfl
          have h2 := ih ms (by simpa using hl) fun i y k a b => h (i + 1) y k (by simpa using a) (by simpa using b)
          simp only [nds, List.length_cons, List.sum_cons]
          have : sz a * (vs.length + 1 + (n + ms.sum)) = sz a * (n + 1) + sz a * (vs.length + ms.sum) := by rw [← Nat.mul_add]; congr 1; omega
          omega
    have h3 := hsum vs ms hl fun i x n a b => (each i x n a b).2
    refine ⟨.tup hall, ?_⟩
    simp only [nd]
    have h4 : sz a * (vs.length + ms.sum) ≤ sz a * m := Nat.mul_le_mul_left _ hs
    rw [Nat.add_mul, Nat.mul_add]
    omega
  | .recd fs, v, m, w, h => by
    simp only [Wf] at w
    simp only [OkV] at h
    obtain ⟨vs, rfl, h⟩ := h
    obtain ⟨h1, h2⟩ := okvs_tx fs vs m w.2 h
    simp only [dp, sz, nd]
    refine ⟨.tup h1, ?_⟩
    rw [Nat.add_mul]
    omega
theorem okvs_tx : ∀ (fs : Fs) (vs : List D) (m : Nat), Wfs fs → OkVs fs vs m → (∀ x ∈ vs, TX (dps fs) x) ∧ nds vs ≤ szs fs * (m + 1)
  | .nil, vs, m, _, h => by
    simp only [OkVs] at h
    subst h
    exact ⟨fun _ h => (nomatch h), by simp only [nds]; omega⟩
  | .cons n k fs, vs, m, w, h => by
    simp only [Wfs] at w
    simp only [OkVs] at h
    obtain ⟨v, r, a, b, rfl, hab, h1, h2⟩ := h
    obtain ⟨q1, q2⟩ := okv_tx k v a w.2.1 h1
    obtain ⟨q3, q4⟩ := okvs_tx fs r b w.2.2 h2
    simp only [dps, szs, nds, Nat.add_mul]
    refine ⟨fun x hx => ?_, ?_⟩
    · rcases List.mem_cons.mp hx with rfl | hx
      · exact q1.mono (by omega)
      · exact (q3 x hx).mono (by omega)
    · have e1 : sz k * (a + 1) ≤ sz k * (m + 1) := Nat.mul_le_mul_left _ (by omega)
      have e2 : szs fs * (b + 1) ≤ szs fs * (m + 1) := Nat.mul_le_mul_left _ (by omega)
      omega
end
end DL

namespace DL
open PySem PySem.Spec PyProof.Rows L2
/-! ## 41. is_row of any value -/
theorem TX.cases {n : Nat} {d : D} (h : TX n d) : d = .non ∨ (∃ c, d = .bl c) ∨ (∃ i, d = .int i) ∨ (∃ s, d = .str s) ∨ (∃ ds, d = .tup ds) ∨ ∃ ds, d = .lst ds := by
  cases h <;> simp
theorem TX.of_tup {n : Nat} {ds : List D} (h : TX n (.tup ds)) : ∀ x ∈ ds, TX n x := by
  cases h with
  | tup h => exact fun x hx => (h x hx).mono (by omega)
def leafB (k : List Nat) (v : D) : Bool :=
  if (k == sInt) = true then (match v with | .int i => decide (-9223372036854775808 ≤ i) && decide (i < 9223372036854775808) | _ => false)
  else if (k == sBool) = true then (match v with | .bl _ => true | _ => false)
  else (match v with | .str s => decide (s.length ≤ 200) && s.all (fun c => decide (c ∈ signs)) | _ => false)
def isNon : D → Bool
  | .non => true
  | _ => false
mutual
/-- is v a value of k? -/
def okB : Kd → D → Bool
  | .leaf k, v => leafB k v
  | .one o a, v => match o with
    | true => isNon v || okB a v
    | false => (match v with | .tup vs => vs.all fun x => okB a x | _ => false)
  | .recd fs, v => match v with
    | .tup vs => decide (vs.length = (toL fs).length) && okBs fs vs
    | _ => false
def okBs : Fs → List D → Bool
  | .nil, _ => true
  | .cons _ k fs, vs => match vs with
    | v :: r => okB k v && okBs fs r
    | [] => true
end
mutual
theorem okv_okB : ∀ (k : Kd) (v : D) (m : Nat), OkV k v m → okB k v = true
  | .leaf k, v, m, h => by
    simp only [OkV] at h
    simp only [okB]
    rcases h with ⟨rfl, i, rfl, h1, h2⟩ | ⟨rfl, s, rfl, h1, h2⟩ | ⟨rfl, b, rfl⟩
    · show (decide _ && decide _) = true
      rw [decide_eq_true h1, decide_eq_true h2]; rfl
    · show (decide _ && s.all _) = true
      rw [decide_eq_true h1, Bool.true_and, List.all_eq_true]
      exact fun c hc => decide_eq_true (h2 c hc)
    · rfl
  | .one true a, v, m, h => by
    simp only [OkV] at h
    simp only [okB]
    rcases h with rfl | h
    · rfl
    · rw [okv_okB a v m h, Bool.or_true]
  | .one false a, v, m, h => by
    simp only [OkV] at h
    obtain ⟨vs, ms, rfl, hl, _, hv⟩ := h
    simp only [okB, List.all_eq_true]
    intro x hx
    obtain ⟨i, hi, e⟩ := List.getElem_of_mem hx
    exact okv_okB a x ms[i] (hv i x ms[i] (by rw [List.getElem?_eq_getElem hi, e]) (by rw [List.getElem?_eq_getElem (by omega)]))
  | .recd fs, v, m, h => by
    simp only [OkV] at h
    obtain ⟨vs, rfl, h⟩ := h
    obtain ⟨h1, h2⟩ := okvs_okB fs vs m h
    simp only [okB, h1, decide_true, h2, Bool.and_self]
theorem okvs_okB : ∀ (fs : Fs) (vs : List D) (m : Nat), OkVs fs vs m → vs.length = (toL fs).length ∧ okBs fs vs = true
  | .nil, vs, m, h => by
    simp only [OkVs] at h
    subst h
    exact ⟨rfl, rfl⟩
  | .cons n k fs, vs, m, h => by
    simp only [OkVs] at h
    obtain ⟨v, r, a, b, rfl, _, h1, h2⟩ := h
    obtain ⟨q1, q2⟩ := okvs_okB fs r b h2
    simp only [toL, List.length_cons, q1, okBs, okv_okB k v a h1, q2, Bool.and_self]
    exact ⟨trivial, trivial⟩
end
/-! ### leaves -/
/-! ### the law's own -/
end DL

namespace DL
open PySem PySem.Spec PyProof.Rows L2
/-! ### is_value -/
abbrev KV' := Kd × D
def KV'.d (e : KV') : D := .tup [enc e.1, e.2]
def KV'.w (e : KV') : Nat := sz e.1 * nd e.2
def KV'.Ok (e : KV') : Prop := Wf e.1 ∧ TX 100 e.2
def KV'.b (e : KV') : Bool := okB e.1 e.2
theorem KV'.w1 (e : KV') : 1 ≤ e.w := Nat.mul_pos (sz_pos _) (nd_pos _)
end DL

namespace DL
open PySem PySem.Spec PyProof.Rows L2
/-! ## 17b. The law's own def, where it is called: no repr runs there -/
section
variable {P : Program} {w : World} {K : PySem.W.Frag} {mg mb : Str → Option Value} {CX : CXT} {f a : Addr} {s : Shared} {us : List Value} {ns : List Int}
abbrev QT : VK := fun v _ => v = .bl true
abbrev QN : XK := fun _ _ _ => False
/-- the script's list, as it lies -/
abbrev scrO (us : List Value) : Obj := { cls := .type "list", data := .seq us.toArray }
/-- the head of a law whose def is told for this one call alone -/
theorem law_at (inS : K.In s.heap) (nsM : s.heap.Ns mainGlobals mg) (nsB : s.heap.Ns builtinsNs mb) (boot : ∀ x : Str, x ≠ "__name__" → mb x = bootBuiltins x) (free : s.heap.NoLimit) (gens : s.gens = #[])
    (at_ : s.heap.get? a = some (scrO us)) (isN : IntsAre us ns) (short : ns.length ≤ sizeLine)
    (go : ∀ (base : Heap) (H : Hp), K.In base → base.Ns mainGlobals mg → Env0 P w K mg base callerA [] s H → Only H → SqL K H a (ns.map V.int) → codeAny (model P w) callerA (.call (.ref f) ⟨[.ref a], []⟩) (CR CX [] P w H s QT QN) s)
    (noX : ∀ H e s', CX [] H s QN e s' → False) :
    codeAny (model P w) callerA (.call (.ref f) ⟨[.ref a], []⟩) (fun r s' => r = .ok (.ret (.bool true)) ∧ OldK s.heap s'.heap ∧ s'.os = s.os ∧ AllBare s'.gens) s := by
  have vals := vals_ints isN
  have many : us.length = ns.length := isN.length
  -- H: what is told of the heap, the script at most
  have main : ∀ H : Hp, (H = (fun _ => none) ∨ (H = (fun b => if b = a then some (.frz (scrO us) (.lst (ns.map V.int))) else none) ∧ K.lookup a = none)) → SqL K H a (ns.map V.int) →
      codeAny (model P w) callerA (.call (.ref f) ⟨[.ref a], []⟩) (fun r s' => r = .ok (.ret (.bool true)) ∧ OldK s.heap s'.heap ∧ s'.os = s.os ∧ AllBare s'.gens) s := by
    intro H hH seq
    have told : ∀ b u, H b = some u → b = a ∧ u = .frz (scrO us) (.lst (ns.map V.int)) ∧ K.lookup a = none := fun b u e => by
      rcases hH with rfl | ⟨rfl, n⟩
      · cases e
      · by_cases q : b = a
        · have e2 := (if_pos q).symm.trans e
          exact ⟨q, (Option.some.inj e2).symm, n⟩
        · exact nomatch (if_neg q).symm.trans e
    have only : Only H := fun b => by
      cases e : H b with
      | none => exact .inl rfl
      | some u => exact .inr ⟨_, _, congrArg some (told b u e).2.1⟩
    have held : HOk P w H s.heap := fun b u e => by
      obtain ⟨rfl, rfl, _⟩ := told b u e
      exact ⟨at_, by rw [List.length_map]; exact short, us, 0, vals, at_⟩
    have keep : ∀ {b : Addr} {o : Obj}, s.heap.get? b = some o → o ≠ scrO us → (hidT s.heap H).get? b = some o := fun {b o} e n => hidT_get e (by
      cases q : H b with
      | none => rfl
      | some u =>
        obtain ⟨rfl, _⟩ := told b u q
        exact absurd (Option.some.inj (e.symm.trans at_)) n)
    have ns_ : ∀ {b : Addr} {m : Str → Option Value}, s.heap.Ns b m → (hidT s.heap H).Ns b m := fun ⟨o, es, ep, e, d, rest⟩ => ⟨o, es, ep, keep e (fun z => by
      have d2 : Data.seq us.toArray _ = Data.dict es ep := (congrArg Obj.data z).symm.trans d
      cases d2), d, rest⟩
    have inB : K.In (hidT s.heap H) := fun b o e => hidT_get (inS b o e) (by
      cases q : H b with
      | none => rfl
      | some u =>
        obtain ⟨rfl, _, n⟩ := told b u q
        exact nomatch n.symm.trans e)
    have mod : Mod K mg (hidT s.heap H) := by
      refine ⟨inB, ns_ nsM, ⟨mb, ns_ nsB, boot⟩, ?_⟩
      obtain ⟨mc, c1, c2⟩ := free
      exact ⟨mc, ns_ c1, c2⟩
    have e0 : Env0 P w K mg (hidT s.heap H) callerA [] s H := ⟨rfl, mod, fun b o => of_hidT, by rw [hidT_size]; exact Nat.le_refl _, trivial, (fun b z => nomatch (show b ∈ ([] : List Addr) from z)), held, .of_eq gens⟩
    refine codeAny_mono (go _ H inB (ns_ nsM) e0 only seq) fun r s' h => ?_
    match r, h with
    | .error e, h => exact (noX H e s' h).elim
    | .ok .next, h => exact False.elim h
    | .ok .brk, h => exact False.elim h
    | .ok .cont, h => exact False.elim h
    | .ok (.ret u), ⟨v, H', os, bare, un, held', rv, (q : v = .bl true)⟩ =>
      subst q
      have eu : u = Value.bool true := rv
      subst eu
      refine ⟨rfl, .of_keep fun b o e => ?_, os, bare⟩
      cases q : H b with
      | none => exact un.keep b o e q (fun z => nomatch (show b ∈ ([] : List Addr) from z)) (fun z => nomatch z)
      | some y =>
        obtain ⟨rfl, rfl, _⟩ := told b y q
        have e1 := at_.symm.trans e
        cases e1
        exact (held' b _ (un.frzs b _ _ q)).1
  cases n : K.lookup a with
  | none => exact main _ (.inr ⟨rfl, n⟩) (.inl (.inr ⟨scrO us, if_pos rfl⟩))
  | some o =>
    have e := (inS a o n).symm.trans at_
    cases e
    exact main _ (.inl rfl) (.inr ⟨_, us.toArray, _, n, rfl, rfl, rfl, by rw [List.size_toArray, many]; exact short, vals⟩)
end
section
variable {P : Program} {w : World} {K : PySem.W.Frag} {mg : Str → Option Value} {fnm clm : Nat → Option Addr} {C : Cfg} {Γ : Gam}
/-- does the law's text match, repr allowed? -/
def defL (C : Cfg) (d : Df) : Bool := mSs C.yes d.N (defScope d.st) d.b (defBody d.st) && C8.scC d.N d.ps (defScope d.st)
theorem law_good {k : Nat} {d : Df} {f : Addr} {fd : FuncData} (W : Wd P w K mg clm Γ.gl Γ.sb C.gls C.cls) (all : AllOk P w K mg fnm clm C Γ k) (F : FunD K d.nm d.x (defArgs d.st) (defBody d.st) (defScope d.st) [] [] f fd) (hm : defL C d = true) (room : Room (k + 1) callerA)
    (one : d.ps.length = 1) (bind : ∀ (s : Shared) (u : Value), BindsTo s fd ⟨[u], []⟩ (d.ps.zip [u]))
    (hsp : ∀ ds G QD XD, ds.length = d.ps.length → spLaw ds G QD XD → wSs Γ d.b { nx := fun _ H => QD .non H, rt := QD, ex := fun x _ H => XD x H } (startD d.N.length ds) G)
    {base : Heap} {H : Hp} {s : Shared} {a : Addr} {ns : List Int} (hl : ns.length ≤ 63) (inB : K.In base) (nsB : base.Ns mainGlobals mg) (z : Env0 P w K mg base callerA [] s H) (hO : Only H) (hS : SqL K H a (ns.map V.int)) :
    codeAny (model P w) callerA (.call (.ref f) ⟨[.ref a], []⟩) (CR (L2.CX P w) [] P w H s QT QN) s := by
  have hm2 : (mSs C.yes d.N (defScope d.st) d.b (defBody d.st) && C8.scC d.N d.ps (defScope d.st)) = true := hm
  rw [Bool.and_eq_true] at hm2
  have S := C8.fnScope_by hm2.2
  obtain ⟨_, S0, G, ds, QD, XD, R, r, h, hQ, hX⟩ := law_sp (fnm := fnm) (clm := clm) H a ns hl hO hS
  refine run_at F S room z (bind s (.ref a)) (vs := [.ref a]) (.cons rfl .nil) one.symm fun cdv => ?_
  have k0 : SOk C.yes fnm clm Γ d.N (defScope d.st) (cxOf (L2.CX P w) P w K mg base d.N d.x (defScope d.st) f cdv callerA [] s H QN) (fun cls d _ H => QN cls d H) := {
    hN := rfl, nd := S.nd, hsc := rfl, calm := rfl, tk := takes_of rfl rfl rfl rfl, po := passes_of rfl, fnk := ⟨k, RoomM.of room _, all.1 base inB nsB⟩, ocs := all.2, blt := W.blt,
    gls := fun i x l e => by
      obtain ⟨u, v, h1, h2, h3⟩ := W.gls i x l e
      exact ⟨u, v, h1, h2, h3 fnm⟩
    dct := fun i x l e => by
      obtain ⟨d, h1, h2⟩ := W.dct i x l e
      exact ⟨d, h1, fun s y q => let ⟨v, q1, q2⟩ := h2 s y q; ⟨v, q1, q2 fnm⟩⟩
    cls := fun i x e => by
      obtain ⟨c, h1, h2, h3, h4, h5, h6⟩ := W.cls i x e
      exact ⟨c, h1, h2, h3, h4, raises_own h5 h6⟩
    grd := rfl, exm := W.exm, isx := W.isx, fnT := fun _ => rfl, kindF := S.kind, stk := rfl, frm := rfl }
  obtain ⟨t, p, rf⟩ := sSs k0 d.b _ hm2.1
  refine ⟨t, p, rf S0 _ _ H G _ _ R (start_ok r) (hsp ds G QD XD (by rw [← r.length, one]; rfl) h) ?_ fun x c σ' σD' S' H' G' st R' sl hc hx => hX x c S' H' G' st R' hc hx⟩
  exact ⟨fun σ' σD' S' H' G' st R' sl h => hQ _ S' H' _ G' st R' .non h, fun _ _ _ _ _ _ _ _ h => h.elim, fun _ _ _ _ _ _ _ _ h => h.elim, hQ⟩
theorem walk_at {l : PySem.W.OpenLaw} {q : Program} {loose : List Str} {XP : (Str → Option Value) → Heap → Prop} {YP : World → Heap → Prop} {d : DefRec} (hn : l.most = some 63) (hdf : d.params.defaults = [])
    (go : ∀ (w : World) (mg : Str → Option Value) (fa : Addr) (h : Heap), YP w h → h.Ns mainGlobals mg → mg d.name = some (.ref fa) →
      ∃ K : PySem.W.Frag, K.In h ∧ ∀ (base : Heap) (H : Hp) (s : Shared) (a : Addr) (ns : List Int), ns.length ≤ 63 → K.In base → base.Ns mainGlobals mg → Env0 l.prog w K mg base callerA [] s H → Only H → SqL K H a (ns.map V.int) →
        codeAny (model l.prog w) callerA (.call (.ref fa) ⟨[.ref a], []⟩) (CR (L2.CX l.prog w) [] l.prog w H s QT QN) s) :
    PySem.W.WalkO q loose XP YP l.row.toRowW d [] (fun f vs => PySem.call f vs) := by
  refine Att.attach_call hn hdf fun w s₀ s₁ mg mb fa o pm cd doc a vs ns G Y ho hd hcd hmg hobj hints hlen hg => ?_
  obtain ⟨K, inK, F⟩ := go w mg fa _ Y G.T.g hmg
  refine law_at inK G.T.g G.T.b G.T.builtins G.T.nolimit hg hobj hints (Nat.le_trans hlen (by rw [lim_eq]; unfold lim; omega)) (fun base H b1 b2 b3 b4 b5 => F base H s₁ a ns hlen b1 b2 b3 b4 b5) fun H e s' c => ?_
  obtain ⟨_, _, _, _, _, _, _, _, _, _, _, _, z⟩ := c
  exact z
end
end DL

namespace DL
open PySem PySem.Spec PyProof.Rows L2
/-! ## 42. The law's own is_value; values turned -/
end DL

namespace DL
open PySem PySem.Spec PyProof.Rows L2
/-! ### turned -/
mutual
theorem okV_mono : ∀ {k : Kd} {v : D} {a b : Nat}, OkV k v a → a ≤ b → OkV k v b
  | .leaf k, v, a, b, h, _ => by simp only [OkV] at h ⊢; exact h
  | .one true k, v, a, b, h, l => by simp only [OkV] at h ⊢; exact h.imp id fun h => okV_mono h l
  | .one false k, v, a, b, h, l => by
    simp only [OkV] at h ⊢
    obtain ⟨vs, ms, h1, h2, h3, h4⟩ := h
    exact ⟨vs, ms, h1, h2, by omega, h4⟩
  | .recd fs, v, a, b, h, l => by
    simp only [OkV] at h ⊢
    obtain ⟨vs, h1, h2⟩ := h
    exact ⟨vs, h1, okVs_mono h2 l⟩
theorem okVs_mono : ∀ {fs : Fs} {vs : List D} {a b : Nat}, OkVs fs vs a → a ≤ b → OkVs fs vs b
  | .nil, vs, a, b, h, _ => by simp only [OkVs] at h ⊢; exact h
  | .cons n k fs, vs, a, b, h, l => by
    simp only [OkVs] at h ⊢
    obtain ⟨v, r, c, d, h1, h2, h3, h4⟩ := h
    exact ⟨v, r, c, d, h1, by omega, h3, h4⟩
end
theorem sum_mem {n : Nat} : ∀ {ms : List Nat}, n ∈ ms → n ≤ ms.sum
  | m :: ms, h => by
    rw [List.sum_cons]
    rcases List.mem_cons.mp h with rfl | h
    · omega
    · have := sum_mem h; omega
end DL

namespace DL
open PySem PySem.Spec PyProof.Rows L2
/-! ## 43. Schemas: what is_schema tells, what can be written -/
mutual
theorem encK_px : ∀ k, WK k → PX 1000 (enc k)
  | .leaf k, _ => by
    simp only [enc]
    exact PX.tup (by show 1 ≤ 1000; decide) fun x hx => by rw [List.mem_singleton] at hx; subst hx; exact .str _
  | .one o a, w => by
    simp only [WK] at w
    simp only [enc]
    have h := encK_px a w
    refine PX.tup (by show 2 ≤ 1000; decide) fun x hx => ?_
    simp only [List.mem_cons, List.not_mem_nil, or_false] at hx
    rcases hx with rfl | rfl
    · exact .str _
    · exact h
  | .recd fs, w => by
    simp only [WK] at w
    simp only [enc]
    have h := encsK_px fs w.2
    have h8 := w.1.2
    refine PX.tup (by show 2 ≤ 1000; decide) fun x hx => ?_
    simp only [List.mem_cons, List.not_mem_nil, or_false] at hx
    rcases hx with rfl | rfl
    · exact .str _
    · exact PX.tup (by rw [encs_eq, List.length_map]; omega) h
theorem encsK_px : ∀ fs, WKs fs → ∀ x ∈ encs fs, PX 1000 x
  | .nil, _, x, hx => by simp [encs] at hx
  | .cons n k fs, w, x, hx => by
    simp only [WKs] at w
    simp only [encs] at hx
    rcases List.mem_cons.mp hx with rfl | hx
    · have h := encK_px k w.2.1
      refine PX.tup (by show 2 ≤ 1000; decide) fun x hx => ?_
      simp only [List.mem_cons, List.not_mem_nil, or_false] at hx
      rcases hx with rfl | rfl
      · exact .str _
      · exact h
    · exact encsK_px fs w.2.2 x hx
end
theorem encs_fnm : ∀ fs : Fs, (encs fs).map fnm = (toL fs).map Prod.fst
  | .nil => rfl
  | .cons n k fs => by simp only [encs, toL, List.map_cons, encs_fnm fs]; rfl
theorem encs_fsec : ∀ fs : Fs, (encs fs).map fsec = (toL fs).map fun p => enc p.2
  | .nil => rfl
  | .cons n k fs => by simp only [encs, toL, List.map_cons, encs_fsec fs]; rfl
theorem cntD_succ {n : Nat} {v : D} {ps : List D} (e : partsD v = some ps) : cntD (n + 1) v = if ps.isEmpty = true then 1 else (ps.map fun p => cntD n p).sum := by
  simp only [cntD, e]
mutual
theorem cnt_wf : ∀ (k : Kd) (n : Nat), WK k → cntD n (enc k) < 1000 → Wf k ∧ dp k ≤ n ∧ (lv k).length ≤ cntD n (enc k)
  | k, 0, _, h => by exact absurd h (by simp [cntD])
  | .leaf k, n + 1, w, h => by
    have w2 := wk_leaf w
    have e : partsD (enc (.leaf k)) = some [] := by
      simp only [WK, List.mem_cons, List.not_mem_nil, or_false] at w
      rcases w with rfl | rfl | rfl <;> rfl
    rw [cntD_succ e]
    exact ⟨w2, by simp only [dp]; omega, by simp [lv]⟩
  | .one o a, n + 1, w, h => by
    simp only [WK] at w
    cases hp : partsD (enc (.one o a)) with
    | none => rw [cnt_bad hp] at h; omega
    | some ps =>
      have hps : ps = [enc a] ∧ (o = true → isOpt a = false) := by
        cases o with
        | false =>
          have e : partsD (enc (.one false a)) = some [enc a] := rfl
          rw [e] at hp
          exact ⟨(Option.some.inj hp).symm, fun h => nomatch h⟩
        | true =>
          have e : partsD (enc (.one true a)) = if (isTupD (enc a) && !optHd (enc a)) = true then some [enc a] else none := rfl
          rw [e] at hp
          split at hp
          · rename_i q
            refine ⟨(Option.some.inj hp).symm, fun _ => ?_⟩
            rw [Bool.and_eq_true] at q
            cases a with
            | leaf k => rfl
            | one o b =>
              cases o with
              | false => rfl
              | true =>
                have : optHd (enc (.one true b)) = true := rfl
                rw [this] at q
                exact absurd q.2 (by decide)
            | recd fs => rfl
          · cases hp
      obtain ⟨rfl, ho⟩ := hps
      rw [cntD_succ hp] at h ⊢
      have es : ([enc a].map fun p => cntD n p).sum = cntD n (enc a) := by simp
      have ie : ([enc a] : List D).isEmpty = false := rfl
      rw [ie, if_neg Bool.false_ne_true, es] at h ⊢
      obtain ⟨q1, q2, q3⟩ := cnt_wf a n w h
      refine ⟨by simp only [Wf]; exact ⟨ho, q1⟩, by simp only [dp]; omega, by simp only [lv, List.length_map]; exact q3⟩
  | .recd fs, n + 1, w, h => by
    simp only [WK] at w
    cases hp : partsD (enc (.recd fs)) with
    | none => rw [cnt_bad hp] at h; omega
    | some ps =>
      have e : partsD (enc (.recd fs)) = if fieldsB (.tup (encs fs)) = true then some ((encs fs).map fsec) else none := rfl
      rw [e] at hp
      split at hp
      · rename_i q
        have hps := (Option.some.inj hp).symm
        subst hps
        have nd : ((toL fs).map Prod.fst).Nodup := by
          simp only [fieldsB, Bool.and_eq_true, decide_eq_true_eq] at q
          have := q.2
          have e2 : ((encs fs).map fnm) = ((toL fs).map Prod.fst) := encs_fnm fs
          rw [e2] at this
          exact this
        have e3 : partsD (enc (.recd fs)) = some ((encs fs).map fsec) := by rw [e, if_pos q]
        rw [cntD_succ e3] at h ⊢
        have ne : ((encs fs).map fsec).isEmpty = false := by
          cases fs with
          | nil => exact absurd rfl w.1.1
          | cons n k fs => rfl
        have es : (((encs fs).map fsec).map fun p => cntD n p) = (toL fs).map fun p => cntD n (enc p.2) := by rw [encs_fsec, List.map_map]; rfl
        rw [ne, if_neg Bool.false_ne_true, es] at h ⊢
        obtain ⟨q1, q2, q3⟩ := cnts_wf fs n w.2 h
        exact ⟨by simp only [Wf]; exact ⟨⟨w.1.1, nd, w.1.2⟩, q1⟩, by simp only [dp]; omega, by simp only [lv]; exact q3⟩
      · cases hp
theorem cnts_wf : ∀ (fs : Fs) (n : Nat), WKs fs → ((toL fs).map fun p => cntD n (enc p.2)).sum < 1000 → Wfs fs ∧ dps fs ≤ n ∧ (lvs fs).length ≤ ((toL fs).map fun p => cntD n (enc p.2)).sum
  | .nil, n, _, _ => ⟨by simp only [Wfs], by simp [dps], by simp [lvs]⟩
  | .cons x k fs, n, w, h => by
    simp only [WKs] at w
    simp only [toL, List.map_cons, List.sum_cons] at h ⊢
    obtain ⟨q1, q2, q3⟩ := cnt_wf k n w.2.1 (by omega)
    obtain ⟨r1, r2, r3⟩ := cnts_wf fs n w.2.2 (by omega)
    refine ⟨by simp only [Wfs]; exact ⟨w.1, q1, r1⟩, by simp only [dps]; omega, by simp only [lvs, List.length_append, List.length_map]; omega⟩
end
/-- what is_schema says of a record -/
theorem isS_wf {fs : Fs} (w : WK (.recd fs)) (h : isS (enc (.recd fs)) = true) : Wf (.recd fs) ∧ dp (.recd fs) ≤ 8 ∧ (lv (.recd fs)).length ≤ 24 := by
  have e : isS (enc (.recd fs)) = decide (cntD 8 (enc (.recd fs)) ≤ 24) := rfl
  rw [e] at h
  have h := of_decide_eq_true h
  obtain ⟨q1, q2, q3⟩ := cnt_wf (.recd fs) 8 w (by omega)
  exact ⟨q1, q2, by omega⟩
theorem low_tx {n : Nat} {s : List Nat} (h : Low s) : TX n (.str s) := .str (by have := h.1.2; omega) fun c hc => by
  have h2 := h.2 c hc
  have : ∀ c ∈ abc, c < 1114112 := by decide
  exact this c h2
theorem szs_pos : ∀ fs : Fs, fs ≠ .nil → 1 ≤ szs fs
  | .nil, h => absurd rfl h
  | .cons n k fs, _ => by simp only [szs]; have := sz_pos k; omega
mutual
theorem enc_tx : ∀ k, WK k → TX (3 * dp k) (enc k) ∧ nd (enc k) + 2 ≤ 5 * sz k
  | .leaf k, w => by
    simp only [enc, dp, sz]
    have hs : TX 2 (.str k) := by
      simp only [WK, List.mem_cons, List.not_mem_nil, or_false] at w
      rcases w with rfl | rfl | rfl <;> exact .str (by decide) (by decide)
    refine ⟨.tup fun x hx => ?_, by simp only [nd, nds]; omega⟩
    rw [List.mem_singleton] at hx; subst hx; exact hs
  | .one o a, w => by
    simp only [WK] at w
    obtain ⟨h1, h2⟩ := enc_tx a w
    simp only [enc, dp, sz, nd, nds]
    refine ⟨?_, by omega⟩
    show TX (3 * dp a + 2 + 1) _
    refine .tup fun x hx => ?_
    simp only [List.mem_cons, List.not_mem_nil, or_false] at hx
    rcases hx with rfl | rfl
    · cases o <;> exact .str (by decide) (by decide)
    · exact h1.mono (by omega)
  | .recd fs, w => by
    simp only [WK] at w
    obtain ⟨h1, h2⟩ := encs_tx fs w.2
    simp only [enc, dp, sz, nd, nds]
    have hp := szs_pos fs w.1.1
    refine ⟨?_, by omega⟩
    show TX (3 * dps fs + 2 + 1) _
    refine .tup fun x hx => ?_
    simp only [List.mem_cons, List.not_mem_nil, or_false] at hx
    rcases hx with rfl | rfl
    · exact .str (by decide) (by decide)
    · exact .tup h1
theorem encs_tx : ∀ fs, WKs fs → (∀ x ∈ encs fs, TX (3 * dps fs + 1) x) ∧ nds (encs fs) ≤ 5 * szs fs
  | .nil, _ => ⟨fun x hx => by simp [encs] at hx, by simp [encs, nds]⟩
  | .cons n k fs, w => by
    simp only [WKs] at w
    obtain ⟨h1, h2⟩ := enc_tx k w.2.1
    obtain ⟨h3, h4⟩ := encs_tx fs w.2.2
    simp only [encs, dps, nds, nd, szs]
    have hp := sz_pos k
    refine ⟨fun x hx => ?_, by omega⟩
    rcases List.mem_cons.mp hx with rfl | hx
    · show TX (3 * max (dp k) (dps fs) + 1) _
      refine .tup fun x hx => ?_
      simp only [List.mem_cons, List.not_mem_nil, or_false] at hx
      rcases hx with rfl | rfl
      · exact low_tx w.1
      · exact h1.mono (by omega)
    · exact (h3 x hx).mono (by omega)
end
end DL

namespace DL
open PySem PySem.Spec PyProof.Rows L2
/-! ## 44. Values moved -/
mutual
/-- a value of a kind, its lists not long -/
def VK : Kd → D → Prop
  | .leaf k, v => LeafV k v
  | .one true a, v => v = .non ∨ VK a v
  | .one false a, v => ∃ vs, v = .tup vs ∧ vs.length ≤ 1000 ∧ ∀ x ∈ vs, VK a x
  | .recd fs, v => ∃ vs, v = .tup vs ∧ VKs fs vs
def VKs : Fs → List D → Prop
  | .nil, vs => vs = []
  | .cons _ k fs, vs => ∃ v r, vs = v :: r ∧ VK k v ∧ VKs fs r
end
mutual
theorem okv_vk : ∀ (k : Kd) (v : D) (m : Nat), OkV k v m → m ≤ 1000 → VK k v
  | .leaf k, v, m, h, _ => by simp only [OkV] at h; simp only [VK]; exact h
  | .one true a, v, m, h, l => by
    simp only [OkV] at h
    simp only [VK]
    exact h.imp id fun h => okv_vk a v m h l
  | .one false a, v, m, h, l => by
    simp only [OkV] at h
    obtain ⟨vs, ms, rfl, hl, hs, hv⟩ := h
    simp only [VK]
    refine ⟨vs, rfl, by omega, fun x hx => ?_⟩
    obtain ⟨i, hi, e⟩ := List.getElem_of_mem hx
    have h2 := hv i x ms[i] (by rw [List.getElem?_eq_getElem hi, e]) (by rw [List.getElem?_eq_getElem (by omega)])
    exact okv_vk a x _ h2 (by have := sum_mem (List.getElem_mem (l := ms) (n := i) (by omega)); omega)
  | .recd fs, v, m, h, l => by
    simp only [OkV] at h
    obtain ⟨vs, rfl, h⟩ := h
    simp only [VK]
    exact ⟨vs, rfl, okvs_vks fs vs m h l⟩
theorem okvs_vks : ∀ (fs : Fs) (vs : List D) (m : Nat), OkVs fs vs m → m ≤ 1000 → VKs fs vs
  | .nil, vs, m, h, _ => by simp only [OkVs] at h; simp only [VKs]; exact h
  | .cons n k fs, vs, m, h, l => by
    simp only [OkVs] at h
    obtain ⟨v, r, a, b, rfl, hab, h1, h2⟩ := h
    simp only [VKs]
    exact ⟨v, r, rfl, okv_vk k v a h1 (by omega), okvs_vks fs r b h2 (by omega)⟩
end
theorem vks_len : ∀ {fs : Fs} {vs : List D}, VKs fs vs → vs.length = (toL fs).length
  | .nil, vs, h => by simp only [VKs] at h; subst h; rfl
  | .cons n k fs, vs, h => by
    simp only [VKs] at h
    obtain ⟨v, r, rfl, _, h2⟩ := h
    simp [toL, vks_len h2]
theorem vks_get : ∀ {fs : Fs} {vs : List D}, VKs fs vs → ∀ {i : Nat} {p : List Nat × Kd} {x : D}, (toL fs)[i]? = some p → vs[i]? = some x → VK p.2 x
  | .nil, vs, h, i, p, x, e, _ => by simp [toL] at e
  | .cons n k fs, vs, h, i, p, x, e1, e2 => by
    simp only [VKs] at h
    obtain ⟨v, r, rfl, h1, h2⟩ := h
    cases i with
    | zero =>
      simp [toL] at e1 e2
      subst e1; subst e2
      exact h1
    | succ i => exact vks_get h2 (by simpa [toL] using e1) (by simpa using e2)
mutual
theorem vk_pl : ∀ (k : Kd) (v : D), WK k → VK k v → Pl (dp k) v
  | .leaf k, v, _, h => by
    simp only [VK] at h
    simp only [dp]
    rcases h with ⟨_, i, rfl, _⟩ | ⟨_, s, rfl, _⟩ | ⟨_, b, rfl⟩ <;> trivial
  | .one true a, v, w, h => by
    simp only [WK] at w
    simp only [VK] at h
    simp only [dp]
    rcases h with rfl | h
    · trivial
    · exact Pl.mono (by omega) (vk_pl a v w h)
  | .one false a, v, w, h => by
    simp only [WK] at w
    simp only [VK] at h
    obtain ⟨vs, rfl, hl, hv⟩ := h
    have hlim : lim = 16777216 := rfl
    simp only [dp]
    exact ⟨by omega, fun x hx => vk_pl a x w (hv x hx)⟩
  | .recd fs, v, w, h => by
    simp only [WK] at w
    simp only [VK] at h
    obtain ⟨vs, rfl, hv⟩ := h
    have hlim : lim = 16777216 := rfl
    have hl := vks_len hv
    simp only [dp]
    exact ⟨by have := w.1.2; omega, vks_pl fs vs w.2 hv⟩
theorem vks_pl : ∀ (fs : Fs) (vs : List D), WKs fs → VKs fs vs → ∀ x ∈ vs, Pl (dps fs) x
  | .nil, vs, _, h, x, hx => by simp only [VKs] at h; subst h; cases hx
  | .cons n k fs, vs, w, h, x, hx => by
    simp only [WKs] at w
    simp only [VKs] at h
    obtain ⟨v, r, rfl, h1, h2⟩ := h
    simp only [dps]
    rcases List.mem_cons.mp hx with rfl | hx
    · exact Pl.mono (by omega) (vk_pl k _ w.2.1 h1)
    · exact Pl.mono (by omega) (vks_pl fs r w.2.2 h2 x hx)
end
/-- where a field of that name stands -/
def fidx (n : List Nat) (fs : List (List Nat × Kd)) : Option Nat := fs.findIdx? fun q => q.1 == n
theorem fidx_fnd (n : List Nat) : ∀ fs : List (List Nat × Kd), match fidx n fs with
    | some i => ∃ p, fs[i]? = some p ∧ fnd n fs = some p.2 ∧ p.1 = n
    | none => fnd n fs = none
  | [] => rfl
  | q :: fs => by
    unfold fidx
    rw [List.findIdx?_cons]
    cases e : (q.1 == n) with
    | true =>
      simp only [if_true]
      exact ⟨q, rfl, by simp only [fnd, e, if_true], by simpa using e⟩
    | false =>
      have ih := fidx_fnd n fs
      unfold fidx at ih
      simp only [Bool.false_eq_true, if_false]
      cases e2 : fs.findIdx? fun q => q.1 == n with
      | none =>
        rw [e2] at ih
        simp only [Option.map_none]
        simp only [fnd, e, Bool.false_eq_true, if_false]
        exact ih
      | some i =>
        rw [e2] at ih
        obtain ⟨p, h1, h2, h3⟩ := ih
        simp only [Option.map_some]
        refine ⟨p, by simpa using h1, ?_, h3⟩
        simp only [fnd, e, Bool.false_eq_true, if_false]
        exact h2
mutual
/-- a value of t, moved to u: u first -/
def mv : Kd → Kd → D → D
  | .leaf _, _, v => v
  | .one true b, t, v => match t with
    | .one true a => if isNon v = true then .non else mv b a v
    | t => mv b t v
  | .one false b, t, v => match t with
    | .one false a => (match v with | .tup vs => .tup (vs.map fun x => mv b a x) | _ => .non)
    | .one true a => if isNon v = true then .tup [] else .tup [mv b a v]
    | t => .tup [mv b t v]
  | .recd gs, t, v => match t, v with
    | .recd fs, .tup vs => .tup (mvs gs (toL fs) vs)
    | _, _ => .non
def mvs : Fs → List (List Nat × Kd) → List D → List D
  | .nil, _, _ => []
  | .cons n k gs, fs, vs => (match fidx n fs with
    | some i => mv k (fs.getD i ([], .leaf [])).2 (vs.getD i .non)
    | none => if isOpt k = true then .non else .tup []) :: mvs gs fs vs
end
theorem vk_isn {a : Kd} {v : D} (h : v = .non ∨ VK a v) (e : isNon v = false) : VK a v := by
  rcases h with rfl | h
  · cases e
  · exact h
mutual
theorem mv_vk : ∀ (u t : Kd) (v : D), fit u t = true → VK t v → VK u (mv u t v)
  | .leaf k, t, v, f, h => by
    simp only [fit] at f
    cases t with
    | leaf k' =>
      simp only [beq_iff_eq] at f
      subst f
      simp only [mv]
      exact h
    | one o a => cases f
    | recd fs => cases f
  | .one true b, t, v, f, h => by
    simp only [fit] at f
    cases t with
    | leaf k' => simp only [mv, VK]; exact .inr (mv_vk b _ v f h)
    | recd fs => simp only [mv, VK]; exact .inr (mv_vk b _ v f h)
    | one o a =>
      cases o with
      | true =>
        simp only [VK] at h
        simp only [mv, VK]
        cases e : isNon v with
        | true => exact .inl rfl
        | false =>
          rw [if_neg Bool.false_ne_true]
          exact .inr (mv_vk b a v f (vk_isn h e))
      | false => simp only [mv, VK]; exact .inr (mv_vk b _ v f h)
  | .one false b, t, v, f, h => by
    simp only [fit] at f
    have one : ∀ x, VK b x → VK (.one false b) (.tup [x]) := fun x hx => by
      simp only [VK]
      exact ⟨[x], rfl, by show 1 ≤ 1000; decide, fun y hy => by rw [List.mem_singleton] at hy; subst hy; exact hx⟩
    cases t with
    | leaf k' => simp only [mv]; exact one _ (mv_vk b _ v f h)
    | recd fs => simp only [mv]; exact one _ (mv_vk b _ v f h)
    | one o a =>
      cases o with
      | true =>
        simp only [VK] at h
        simp only [Bool.and_eq_true] at f
        simp only [mv]
        cases e : isNon v with
        | true =>
          rw [if_pos rfl]
          simp only [VK]
          exact ⟨[], rfl, Nat.zero_le _, fun _ h => (nomatch h)⟩
        | false =>
          rw [if_neg Bool.false_ne_true]
          exact one _ (mv_vk b a v f.2 (vk_isn h e))
      | false =>
        simp only [VK] at h
        obtain ⟨vs, rfl, hl, hv⟩ := h
        simp only [mv, VK]
        refine ⟨_, rfl, by rw [List.length_map]; exact hl, fun x hx => ?_⟩
        obtain ⟨y, hy, rfl⟩ := List.mem_map.mp hx
        exact mv_vk b a y f (hv y hy)
  | .recd gs, t, v, f, h => by
    simp only [fit] at f
    cases t with
    | leaf k' => cases f
    | one o a => cases f
    | recd fs =>
      simp only [VK] at h
      obtain ⟨vs, rfl, hv⟩ := h
      simp only [mv, VK]
      exact ⟨_, rfl, mvs_vk gs fs vs f hv⟩
theorem mvs_vk : ∀ (gs fs : Fs) (vs : List D), fits gs (toL fs) = true → VKs fs vs → VKs gs (mvs gs (toL fs) vs)
  | .nil, fs, vs, _, _ => by simp only [mvs, VKs]
  | .cons n k gs, fs, vs, f, h => by
    simp only [fits, Bool.and_eq_true] at f
    simp only [mvs, VKs]
    refine ⟨_, _, rfl, ?_, mvs_vk gs fs vs f.2 h⟩
    have q := fidx_fnd n (toL fs)
    cases e : fidx n (toL fs) with
    | none =>
      simp only [e] at q
      have f1 := f.1
      simp only [q] at f1
      cases k with
      | leaf k => cases f1
      | recd fs => cases f1
      | one o a =>
        cases o with
        | true => simp only [isOpt, if_true, VK]; exact .inl trivial
        | false => simp only [isOpt, Bool.false_eq_true, if_false, VK]; exact ⟨[], rfl, Nat.zero_le _, fun _ h => (nomatch h)⟩
    | some i =>
      simp only [e] at q
      obtain ⟨p, h1, h2, h3⟩ := q
      have f1 := f.1
      simp only [h2] at f1
      have hi : i < vs.length := by rw [vks_len h]; exact (List.getElem?_eq_some_iff.mp h1).1
      have g1 : (toL fs).getD i ([], .leaf []) = p := by rw [List.getD_eq_getElem?_getD, h1]; rfl
      have g2 : vs.getD i .non = vs[i] := by rw [List.getD_eq_getElem?_getD, List.getElem?_eq_getElem hi]; rfl
      simp only [g1, g2]
      exact mv_vk k p.2 _ f1 (vks_get h h1 (List.getElem?_eq_getElem hi))
end
/-! ### names of fields -/
theorem in_names (n : List Nat) (l : List (List Nat × Kd)) (G : HD) : inD (.str n) (.lst (l.map fun q => .str q.1)) G = some (fidx n l).isSome := by
  have fl : (flatD (.str n) && (l.map fun q => D.str q.1).all flatD) = true := by
    rw [Bool.and_eq_true]
    refine ⟨rfl, ?_⟩
    rw [List.all_map, List.all_eq_true]
    exact fun _ _ => rfl
  show (match itms (.lst (l.map fun q => .str q.1)) G with | some ds => if (flatD (.str n) && ds.all flatD) = true then some (ds.any fun z => eqF z (.str n)) else none | none => none) = _
  simp only [q_itm_l, fl, if_true]
  congr 1
  unfold fidx
  rw [List.any_map]
  clear fl
  induction l with
  | nil => rfl
  | cons q l ih =>
    rw [List.any_cons, List.findIdx?_cons]
    have e1 : ((fun z => eqF z (D.str n)) ∘ fun q : List Nat × Kd => D.str q.1) q = (q.1 == n) := rfl
    rw [e1]
    cases (q.1 == n) with
    | true => rfl
    | false =>
      simp only [Bool.false_or, Bool.false_eq_true, if_false]
      rw [ih]
      cases l.findIdx? fun q => q.1 == n <;> rfl
theorem ix_names (n : List Nat) (l : List (List Nat × Kd)) (G : HD) (Q : KD) : mtD .index (.lst (l.map fun q => .str q.1)) [.str n] G Q = ok (fidx n l) fun i => Q (.int (i : Nat)) G := by
  have fl : (flatD (.str n) && (l.map fun q => D.str q.1).all flatD) = true := by
    rw [Bool.and_eq_true]
    refine ⟨rfl, ?_⟩
    rw [List.all_map, List.all_eq_true]
    exact fun _ _ => rfl
  show (ok (seqOf (.lst (l.map fun q => .str q.1)) G) fun ds => (flatD (.str n) && ds.all flatD) = true ∧ ok (ds.findIdx? fun z => eqF z (.str n)) fun i => Q (.int (i : Nat)) G) = _
  rw [q_seq_l, ok_some, fl, eq_self, true_and, List.findIdx?_map]
  rfl
theorem rcv_names (l : List (List Nat × Kd)) (G : HD) : (rcv .index (.lst (l.map fun q => D.str q.1)) G = true) = True := by simp [rcv, seqOf]
end DL

namespace DL
open PySem PySem.Spec PyProof.Rows L2
/-! ### moved_value -/
def b_nothing_of : Ss :=
 (.c (.ret (.ife (.cmp .eq (.idx (.var 0) (.con (.int 0))) (.con (.str sOpt))) (.con .non) (.tup .n)))
 .n)
def b_law_moved (l_moved : Nat) : Ss :=
 (.c (.ite (.cmp .inn (.idx (.var 1) (.con (.int 0))) (.tup (.c (.con (.str sInt)) (.c (.con (.str sText)) (.c (.con (.str sBool)) .n))))) (.c (.ret (.var 2))
 .n) .n)
 (.c (.ite (.cmp .eq (.idx (.var 1) (.con (.int 0))) (.con (.str sOpt))) (.c (.ite (.cmp .ne (.idx (.var 0) (.con (.int 0))) (.con (.str sOpt))) (.c (.ret (.call l_moved (.c (.var 0) (.c (.idx (.var 1) (.con (.int 1))) (.c (.var 2) .n)))))
 .n) .n)
 (.c (.ite (.cmp .isn (.var 2) (.con .non)) (.c (.ret (.con .non))
 .n) .n)
 (.c (.ret (.call l_moved (.c (.idx (.var 0) (.con (.int 1))) (.c (.idx (.var 1) (.con (.int 1))) (.c (.var 2) .n)))))
 .n))) .n)
 (.c (.ite (.cmp .eq (.idx (.var 1) (.con (.int 0))) (.con (.str sList))) (.c (.ite (.cmp .eq (.idx (.var 0) (.con (.int 0))) (.con (.str sList))) (.c (.ret (.bf true .tuple (.c (.lc true (.call l_moved (.c (.idx (.var 0) (.con (.int 1))) (.c (.idx (.var 1) (.con (.int 1))) (.c (.var 7) .n)))) (.n 7) (.of (.var 2)) .yes [("one", 7)]) .n)))
 .n) .n)
 (.c (.ite (.cmp .ne (.idx (.var 0) (.con (.int 0))) (.con (.str sOpt))) (.c (.ret (.tup (.c (.call l_moved (.c (.var 0) (.c (.idx (.var 1) (.con (.int 1))) (.c (.var 2) .n)))) .n)))
 .n) .n)
 (.c (.ite (.cmp .isn (.var 2) (.con .non)) (.c (.ret (.tup .n))
 .n) .n)
 (.c (.ret (.tup (.c (.call l_moved (.c (.idx (.var 0) (.con (.int 1))) (.c (.idx (.var 1) (.con (.int 1))) (.c (.var 2) .n)))) .n)))
 .n)))) .n)
 (.c (.set 3 (.lst false .n))
 (.c (.for_ (.n 4) (.of (.idx (.var 1) (.con (.int 1)))) (.c (.set 5 (.lc true (.idx (.var 7) (.con (.int 0))) (.n 7) (.of (.idx (.var 0) (.con (.int 1)))) .yes [("one", 7)]))
 (.c (.ite (.cmp .inn (.idx (.var 4) (.con (.int 0))) (.var 5)) (.c (.set 6 (.mt .index (.var 5) (.c (.idx (.var 4) (.con (.int 0))) .n)))
 (.c (.ex (.mt .append (.var 3) (.c (.call l_moved (.c (.idx (.idx (.idx (.var 0) (.con (.int 1))) (.var 6)) (.con (.int 1))) (.c (.idx (.var 4) (.con (.int 1))) (.c (.idx (.var 2) (.var 6)) .n)))) .n)))
 .n)) (.c (.ite (.cmp .eq (.idx (.idx (.var 4) (.con (.int 1))) (.con (.int 0))) (.con (.str sOpt))) (.c (.ex (.mt .append (.var 3) (.c (.con .non) .n)))
 .n) (.c (.ex (.mt .append (.var 3) (.c (.tup .n) .n)))
 .n))
 .n))
 .n)))
 (.c (.fz 3) (.c (.ret (.bf true .tuple (.c (.var 3) .n)))
 .n)))))))
theorem vk_form : ∀ (t : Kd) (v : D), VK t v → v = .non ∨ (∃ b, v = .bl b) ∨ (∃ i, v = .int i) ∨ (∃ s, v = .str s) ∨ ∃ vs, v = .tup vs
  | .leaf k, v, h => by
    simp only [VK] at h
    rcases h with ⟨_, i, rfl, _⟩ | ⟨_, s, rfl, _⟩ | ⟨_, b, rfl⟩
    · exact .inr (.inr (.inl ⟨_, rfl⟩))
    · exact .inr (.inr (.inr (.inl ⟨_, rfl⟩)))
    · exact .inr (.inl ⟨_, rfl⟩)
  | .one true a, v, h => by
    simp only [VK] at h
    rcases h with rfl | h
    · exact .inl rfl
    · exact vk_form a v h
  | .one false a, v, h => by
    simp only [VK] at h
    obtain ⟨vs, rfl, _⟩ := h
    exact .inr (.inr (.inr (.inr ⟨_, rfl⟩)))
  | .recd fs, v, h => by
    simp only [VK] at h
    obtain ⟨vs, rfl, _⟩ := h
    exact .inr (.inr (.inr (.inr ⟨_, rfl⟩)))
theorem vk_is {t : Kd} {v : D} (h : VK t v) (G : HD) : cmpD .isn v .non G = some (isNon v) := by
  rcases vk_form t v h with rfl | ⟨_, rfl⟩ | ⟨_, rfl⟩ | ⟨_, rfl⟩ | ⟨_, rfl⟩ <;> rfl
def spNothing : SpD := fun ds G Q _ => ∃ k, ds = [enc k] ∧ WK k ∧ Q (if isOpt k = true then .non else .tup []) G
theorem nothing_ok {Γ : Gam} (ds : List D) (G : HD) (QD : KD) (XD : KX) (h : spNothing ds G QD XD) : wSs Γ b_nothing_of { nx := fun _ H => QD .non H, rt := QD, ex := fun x _ H => XD x H } (startD 1 ds) G := by
  obtain ⟨k, rfl, w, hQ⟩ := h
  cases k with
  | leaf k => simp_arith [b_nothing_of, enc, k_opt w]; exact hQ
  | one o a => cases o <;> (simp_arith [b_nothing_of, enc, o_opt]; exact hQ)
  | recd fs => simp_arith [b_nothing_of, enc, r_opt]; exact hQ
def spMv (n : Nat) : SpD := fun ds G Q _ => ∃ t u v, ds = [enc t, enc u, v] ∧ WK t ∧ WK u ∧ dp u ≤ n ∧ fit u t = true ∧ VK t v ∧ Q (mv u t v) G
theorem tup_lc {f : D → D} {step : D → HD → (Option D → HD → Prop) → Prop} {vs : List D} {G : HD} {QD : List D → HD → Prop} (hs : ∀ x ∈ vs, ∀ K : Option D → HD → Prop, K (some (f x)) G → step x G K) (hQ : QD (vs.map f) G) : lcD step QD vs [] G := by
  refine lcD_ind (fun xs acc H => H = G ∧ ∃ a : List D, vs = a ++ xs ∧ acc = a.map f) ?_ ?_ _ _ _ ⟨rfl, [], rfl, rfl⟩
  · rintro acc H ⟨rfl, a, e, rfl⟩
    rw [List.append_nil] at e
    subst e
    exact hQ
  · rintro x xs acc ih H ⟨rfl, a, e, rfl⟩
    exact hs x (by rw [e]; simp) _ (ih _ _ ⟨rfl, a ++ [x], by rw [e]; simp, by simp⟩)
end DL

namespace DL
open PySem PySem.Spec PyProof.Rows L2
/-! ### the law's own -/
def fstD (x : D) : D := match x with
  | .tup (n :: _) => n
  | _ => .non
theorem fst_encs : ∀ fs : Fs, (encs fs).map fstD = (toL fs).map fun q => .str q.1
  | .nil => rfl
  | .cons n k fs => by simp only [encs, toL, List.map_cons, fst_encs fs]; rfl
theorem law_moved_ok {Γ : Gam} {mo n : Nat} (h1 : Γ.sp mo = spMv n) (ds : List D) (G : HD) (QD : KD) (XD : KX) (h : spMv (n + 1) ds G QD XD) :
    wSs Γ (b_law_moved mo) { nx := fun _ H => QD .non H, rt := QD, ex := fun x _ H => XD x H } (startD 8 ds) G := by
  obtain ⟨t, u, v, rfl, wt, wu, hn, hf, hv, hQ⟩ := h
  have hlim : lim = 16777216 := rfl
  have ei : ∀ G, cmpD .isn v .non G = some (isNon v) := fun G => vk_is hv G
  cases u with
  | leaf k =>
    simp only [mv] at hQ
    simp_arith [b_law_moved, enc, k_in3 wu]
    exact hQ
  | one o b =>
    simp only [dp] at hn
    have wb : WK b := by simpa only [WK] using wu
    cases o with
    | true =>
      simp only [fit] at hf
      cases t with
      | leaf k =>
        simp only [mv] at hQ
        simp_arith [b_law_moved, h1, enc, one_in, o_opt, k_opt wt]
        exact ⟨.leaf k, b, v, by simp only [enc], wt, wb, by omega, hf, hv, hQ⟩
      | recd fs =>
        simp only [mv] at hQ
        simp_arith [b_law_moved, h1, enc, one_in, o_opt, r_opt]
        exact ⟨.recd fs, b, v, by simp only [enc], wt, wb, by omega, hf, hv, hQ⟩
      | one o' a =>
        have wa : WK a := by simpa only [WK] using wt
        cases o' with
        | true =>
          simp only [VK] at hv
          simp only [mv] at hQ
          simp_arith [b_law_moved, h1, enc, one_in, o_opt, ei]
          cases e : isNon v with
          | true => rw [e] at hQ; exact hQ
          | false =>
            rw [e] at hQ
            exact ⟨a, b, v, rfl, wa, wb, by omega, hf, vk_isn hv e, hQ⟩
        | false =>
          simp only [mv] at hQ
          simp_arith [b_law_moved, h1, enc, one_in, o_opt]
          exact ⟨.one false a, b, v, by simp only [enc], wt, wb, by omega, hf, hv, hQ⟩
    | false =>
      simp only [fit] at hf
      cases t with
      | leaf k =>
        simp only [mv] at hQ
        simp_arith [b_law_moved, h1, enc, one_in, o_opt, o_list, k_opt wt, k_list wt]
        exact ⟨.leaf k, b, v, by simp only [enc], wt, wb, by omega, hf, hv, hQ⟩
      | recd fs =>
        simp only [mv] at hQ
        simp_arith [b_law_moved, h1, enc, one_in, o_opt, o_list, r_opt, r_list]
        exact ⟨.recd fs, b, v, by simp only [enc], wt, wb, by omega, hf, hv, hQ⟩
      | one o' a =>
        have wa : WK a := by simpa only [WK] using wt
        cases o' with
        | true =>
          simp only [VK] at hv
          simp only [Bool.and_eq_true] at hf
          simp only [mv] at hQ
          simp_arith [b_law_moved, h1, enc, one_in, o_opt, o_list, ei]
          cases e : isNon v with
          | true => rw [e] at hQ; exact hQ
          | false =>
            rw [e] at hQ
            exact ⟨a, b, v, rfl, wa, wb, by omega, hf.2, vk_isn hv e, hQ⟩
        | false =>
          simp only [VK] at hv
          obtain ⟨vs, rfl, hl, hx⟩ := hv
          simp only [mv] at hQ
          simp_arith [b_law_moved, h1, enc, one_in, o_opt, o_list]
          refine tup_lc (f := fun x => mv b a x) (fun x hm K hK => ?_) hQ
          exact ⟨a, b, x, rfl, wa, wb, by omega, hf, hx x hm, hK⟩
  | recd gs =>
    simp only [dp] at hn
    simp only [WK] at wu
    simp only [fit] at hf
    cases t with
    | leaf k => cases hf
    | one o a => cases hf
    | recd fs =>
      simp only [WK] at wt
      simp only [VK] at hv
      obtain ⟨vs, rfl, hv⟩ := hv
      simp only [mv] at hQ
      have hlen := vks_len hv
      simp_arith [b_law_moved, h1, enc, rec_in, r_opt, r_list]
      intro p hp
      have e3 : ∀ x, delD (updD G p x) p = G := fun x => delD_updD hp
      refine wFor_ind (fun xs σ H' => ∃ (ls : List (List Nat × Kd)) (acc : List D) (o4 o5 o6 o7 : Option D), xs = ls.map enc1 ∧ (∀ q ∈ ls, q ∈ toL gs) ∧ acc.length + ls.length ≤ 8 ∧ acc ++ mvs (fsOf ls) (toL fs) vs = mvs gs (toL fs) vs ∧ fits (fsOf ls) (toL fs) = true ∧
        H' = updD G p (.lst acc) ∧ σ = [some (.tup [.str sRec, .tup (encs fs)]), some (.tup [.str sRec, .tup (encs gs)]), some (.tup vs), some (.ref p), o4, o5, o6, o7]) ?_ ?_ _ _ _
        ⟨toL gs, [], _, _, _, _, encs_eq gs, fun _ h => h, by have := wu.1.2; simp; omega, by rw [fsOf_toL]; rfl, by rw [fsOf_toL]; exact hf, rfl, rfl⟩
      · rintro σ H' ⟨ls, acc, o4, o5, o6, o7, hx, _, _, hacc, _, rfl, rfl⟩
        have : ls = [] := by cases ls <;> first | rfl | cases hx
        subst this
        simp only [fsOf, mvs, List.append_nil] at hacc
        simp_arith [updD_same, e3]
        rw [hacc]
        exact hQ
      · rintro x xs ih σ H' ⟨ls, acc, o4, o5, o6, o7, hx, hmem, hal, hacc, hfit, rfl, rfl⟩
        cases ls with
        | nil => cases hx
        | cons q ls =>
          rw [List.map_cons] at hx
          injection hx with hx1 hx2
          subst hx1; subst hx2
          have hq := hmem q List.mem_cons_self
          have d2 := dps_eq q hq
          have wq := (wks_eq wu.2 q hq).2
          rw [List.length_cons] at hal
          simp only [fsOf, fits, Bool.and_eq_true] at hfit
          simp only [fsOf, mvs] at hacc
          have fin := fidx_fnd q.1 (toL fs)
          simp_arith [enc1]
          refine tup_lc (f := fstD) (fun y hy K hK => ?_) ?_
          · rw [encs_eq] at hy
            obtain ⟨z, _, rfl⟩ := List.mem_map.mp hy
            have hK : K (some (.str z.1)) _ := hK
            simp_arith [enc1]
            exact hK
          rw [fst_encs]
          simp_arith [in_names, updD_same]
          cases e : fidx q.1 (toL fs) with
          | none =>
            simp only [e] at hacc
            have fin2 : ∀ d, d = (if isOpt q.2 = true then D.non else D.tup []) → (acc ++ [d]) ++ mvs (fsOf ls) (toL fs) vs = mvs gs (toL fs) vs := fun d hd => by rw [List.append_assoc, hd]; exact hacc
            have hal2 : ∀ d : D, (acc ++ [d]).length + ls.length ≤ 8 := fun d => by simp; omega
            cases hk : q.2 with
            | leaf k =>
              rw [hk] at wq
              simp_arith [enc, k_opt wq, updD_same, updD_updD]
              exact ⟨by omega, ih _ _ ⟨ls, acc ++ [.tup []], _, _, _, _, rfl, fun z hz => hmem z (List.mem_cons_of_mem _ hz), hal2 _, fin2 _ (by rw [hk]; rfl), hfit.2, rfl, rfl⟩⟩
            | one o a =>
              cases o with
              | true =>
                simp_arith [enc, o_opt, updD_same, updD_updD]
                exact ⟨by omega, ih _ _ ⟨ls, acc ++ [.non], _, _, _, _, rfl, fun z hz => hmem z (List.mem_cons_of_mem _ hz), hal2 _, fin2 _ (by rw [hk]; rfl), hfit.2, rfl, rfl⟩⟩
              | false =>
                simp_arith [enc, o_opt, updD_same, updD_updD]
                exact ⟨by omega, ih _ _ ⟨ls, acc ++ [.tup []], _, _, _, _, rfl, fun z hz => hmem z (List.mem_cons_of_mem _ hz), hal2 _, fin2 _ (by rw [hk]; rfl), hfit.2, rfl, rfl⟩⟩
            | recd fs' =>
              simp_arith [enc, r_opt, updD_same, updD_updD]
              exact ⟨by omega, ih _ _ ⟨ls, acc ++ [.tup []], _, _, _, _, rfl, fun z hz => hmem z (List.mem_cons_of_mem _ hz), hal2 _, fin2 _ (by rw [hk]; rfl), hfit.2, rfl, rfl⟩⟩
          | some i =>
            simp only [e] at fin hacc
            obtain ⟨z, z1, z2, z3⟩ := fin
            have hi : i < (toL fs).length := (List.getElem?_eq_some_iff.mp z1).1
            have g1 : (toL fs).getD i ([], .leaf []) = z := by rw [List.getD_eq_getElem?_getD, z1]; rfl
            have hiv : i < vs.length := by omega
            have g2 : vs.getD i .non = vs[i] := by rw [List.getD_eq_getElem?_getD, List.getElem?_eq_getElem hiv]; rfl
            rw [g1, g2] at hacc
            have a1 : (encs fs)[i]? = some (enc1 z) := by rw [encs_eq, List.getElem?_map, z1]; rfl
            have f1 := hfit.1
            simp only [z2] at f1
            simp_arith [rcv_names, ix_names, e, at_nat, a1, enc1, List.getElem?_eq_getElem hiv, updD_same]
            refine ⟨z.2, q.2, vs[i], rfl, (wks_eq wt.2 z (List.mem_of_getElem? z1)).2, wq, by omega, f1, vks_get hv z1 (List.getElem?_eq_getElem hiv), ?_⟩
            simp_arith [updD_same, updD_updD]
            refine ⟨by omega, ih _ _ ⟨ls, _, _, _, _, _, rfl, fun z hz => hmem z (List.mem_cons_of_mem _ hz), by simp; omega, by rw [List.append_assoc]; exact hacc, hfit.2, rfl, rfl⟩⟩
end DL

namespace DL
open PySem PySem.Spec PyProof.Rows L2
/-! ### chains of schemas -/
def fitc (L : List Kd) : Bool := (L.zip L.tail).all fun p => fit p.2 p.1
theorem fitc_cons {k l : Kd} {r : List Kd} : fitc (k :: l :: r) = (fit l k && fitc (l :: r)) := rfl
theorem fitc_snoc {u : Kd} : ∀ {ks : List Kd} {k : Kd}, fitc (ks ++ [k]) = true → fit u k = true → fitc (ks ++ [k] ++ [u]) = true
  | [], k, _, h => by show (fit u k && true) = true; rw [h]; rfl
  | [x], k, h, hu => by
    have h : (fit k x && true) = true := h
    rw [Bool.and_true] at h
    show (fit k x && (fit u k && true)) = true
    rw [h, hu]; rfl
  | x :: y :: r, k, h, hu => by
    have h : (fit y x && fitc (y :: r ++ [k])) = true := h
    rw [Bool.and_eq_true] at h
    show (fit y x && fitc (y :: r ++ [k] ++ [u])) = true
    rw [h.1, fitc_snoc h.2 hu]; rfl
def b_check_chain (cdoes_fit : Nat) : Ss :=
 (.c (.for_ (.n 1) (.rng (.c (.con (.int 1)) (.c (.bf true .len (.c (.var 0) .n)) .n))) (.c (.ite (.nt (.of (.call cdoes_fit (.c (.idx (.var 0) (.bin true .sub (.var 1) (.con (.int 1)))) (.c (.idx (.var 0) (.var 1)) .n))))) (.c (.rai 1)
 .n) .n)
 .n))
 .n)
def Chs (n : Nat) (ks : List Kd) : Prop := (∀ k ∈ ks, WK k ∧ dp k ≤ n) ∧ ks.length ≤ 1000
def spCheck : SpD := fun ds G Q X => ∃ ks, ds = [.lst (ks.map enc)] ∧ Chs 10 ks ∧ (fitc ks = true → Q .non G) ∧ (fitc ks = false → X 1 G)
theorem rngF_cons {n : Nat} {lo : Int} {x : D} {xs : List D} (h : x :: xs = rngF 1 n lo) : ∃ m, n = m + 1 ∧ x = .int lo ∧ xs = rngF 1 m (lo + 1) := by
  cases n with
  | zero => cases h
  | succ m =>
    injection h with h1 h2
    exact ⟨m, rfl, h1, h2⟩
theorem get_pre {α : Type} {pre : List α} {k : α} {suf : List α} {l : α} {r : List α} (h : suf = l :: r) : (pre ++ k :: suf)[pre.length]? = some k ∧ (pre ++ k :: suf)[pre.length + 1]? = some l := by
  subst h
  refine ⟨by rw [List.getElem?_append_right (Nat.le_refl _), Nat.sub_self]; rfl, ?_⟩
  rw [List.getElem?_append_right (by omega), show pre.length + 1 - pre.length = 1 by omega]; rfl
theorem check_ok {Γ : Gam} {df : Nat} (h1 : Γ.sp df = spFit 10) (ds : List D) (G : HD) (QD : KD) (XD : KX) (h : spCheck ds G QD XD) :
    wSs Γ (b_check_chain df) { nx := fun _ H => QD .non H, rt := QD, ex := fun x _ H => XD x H } (startD 2 ds) G := by
  obtain ⟨ks, e, hc, hQ, hX⟩ := h
  subst e
  have hk := hc.1
  have hl := hc.2
  have hlim : lim = 16777216 := rfl
  simp_arith [b_check_chain, h1, List.length_map]
  rw [q_rng2 ⟨⟨by omega, by omega⟩, ⟨by omega, by omega⟩⟩, ok_some]
  refine And.intro (by dsimp only; omega) ?_
  by_cases hne : ks = []
  · subst hne; exact hQ rfl
  · obtain ⟨k0, ks0, e⟩ : ∃ k0 ks0, ks = k0 :: ks0 := by
      cases ks with
      | nil => exact absurd rfl hne
      | cons a b => exact ⟨a, b, rfl⟩
    have e0 : rngL (1, ((ks.length : Nat) - (1 : Int)).toNat, 1) = rngF 1 ks0.length ((([] : List Kd).length : Nat) + 1) := by
      rw [e]
      show rngF 1 _ 1 = rngF 1 _ _
      congr 1
      simp
    rw [e0]
    refine wFor_ind (fun xs σ H => H = G ∧ ∃ (pre : List Kd) (k : Kd) (suf : List Kd) (o1 : Option D), xs = rngF 1 suf.length ((pre.length : Nat) + 1) ∧ ks = pre ++ k :: suf ∧ fitc ks = fitc (k :: suf) ∧ σ = [some (.lst (ks.map enc)), o1]) ?_ ?_ _ _ _ ⟨rfl, [], k0, ks0, none, rfl, e, by rw [e], rfl⟩
    · rintro σ H ⟨rfl, pre, k, suf, o1, hx, hs, hf, rfl⟩
      have : suf = [] := by cases suf <;> first | rfl | cases hx
      subst this
      exact hQ hf
    · rintro x xs ih σ H ⟨rfl, pre, k, suf, o1, hx, hs, hf, rfl⟩
      obtain ⟨m, hm, rfl, rfl⟩ := rngF_cons hx
      cases suf with
      | nil => cases hm
      | cons l r =>
        obtain ⟨g1, g2⟩ := get_pre (pre := pre) (k := k) (suf := l :: r) rfl
        rw [← hs] at g1 g2
        have mk : k ∈ ks := by rw [hs]; simp
        have ml : l ∈ ks := by rw [hs]; simp
        have i1 : atI (ks.map enc) ((pre.length : Int) + 1 - 1) = some (enc k) := by
          rw [show (pre.length : Int) + 1 - 1 = (pre.length : Nat) by omega, at_nat, List.getElem?_map, g1]; rfl
        have i2 : atI (ks.map enc) ((pre.length : Int) + 1) = some (enc l) := by
          rw [show (pre.length : Int) + 1 = ((pre.length + 1 : Nat) : Int) by omega, at_nat, List.getElem?_map, g2]; rfl
        simp_arith [h1, i1, i2]
        refine ⟨k, l, rfl, (hk k mk).1, (hk l ml).1, (hk l ml).2, ?_⟩
        rw [fitc_cons] at hf
        cases e : fit l k with
        | false =>
          rw [e] at hf
          simp_arith []
          exact hX hf
        | true =>
          rw [e] at hf
          simp_arith []
          refine ih _ _ ⟨rfl, pre ++ [k], l, r, _, ?_, by rw [hs]; simp, hf, rfl⟩
          rw [List.length_append, List.length_singleton]
          have : m = r.length := by simp at hm; omega
          subst this
          congr 1
end DL

namespace DL
open PySem PySem.Spec PyProof.Rows L2
/-! ### a chain, drawn -/
def ChK (k : Kd) : Prop := Wf k ∧ (∃ fs, k = .recd fs) ∧ dp k ≤ 9 ∧ (lv k).length ≤ 24
def ChnOk (ks : List Kd) : Prop := (∀ k ∈ ks, ChK k) ∧ fitc ks = true
def spChain4 : SpD := fun ds G Q _ => ∃ m : Nat, ds = [.rnd, .int (m : Nat)] ∧ (1 ≤ m ∧ m ≤ 4) ∧ ∀ ks, ChnOk ks → ks.length = m → Q (.lst (ks.map enc)) G
theorem isS_recd {u : Kd} (w : WK u) (h : isS (enc u) = true) : ∃ fs, u = .recd fs := by
  cases u with
  | recd fs => exact ⟨fs, rfl⟩
  | leaf k =>
    have w2 := w
    simp only [WK, List.mem_cons, List.not_mem_nil, or_false] at w2
    rcases w2 with rfl | rfl | rfl <;> cases h
  | one o a => cases o <;> cases h
theorem chk_of {fs : Fs} (w : WK (.recd fs)) (h : isS (enc (.recd fs)) = true) : ChK (.recd fs) := by
  obtain ⟨h1, h2, h3⟩ := isS_wf w h
  exact ⟨h1, ⟨fs, rfl⟩, by omega, h3⟩
theorem chain4_ok {Γ : Gam} {rc dr nr iz : Nat} (h1 : Γ.sp rc = spRecord 8) (h2 : Γ.sp dr = spDraw) (h3 : Γ.sp nr = spNextR 9) (h4 : Γ.sp iz = spSG) (ds : List D) (G : HD) (QD : KD) (XD : KX) (h : spChain4 ds G QD XD) :
    wSs Γ (b_law_chain rc dr nr iz) { nx := fun _ H => QD .non H, rt := QD, ex := fun x _ H => XD x H } (startD 7 ds) G := by
  obtain ⟨m, e, hm, hQ⟩ := h
  subst e
  have hlim : lim = 16777216 := rfl
  simp_arith [b_law_chain, h1, h2, h3, h4]
  refine ⟨_, rfl, by decide, fun r h0 h1 => ?_⟩
  obtain ⟨d, hd4, e⟩ := get_in (rows := [.int 3, .int 4, .int 6]) h0 h1
  have hc : ∃ m : Int, d = .int m ∧ m ≤ 8 := by
    simp only [List.mem_cons, List.not_mem_nil, or_false] at hd4
    rcases hd4 with rfl | rfl | rfl <;> exact ⟨_, rfl, by decide⟩
  obtain ⟨c, rfl, c1⟩ := hc
  simp_arith [e]
  refine ⟨_, rfl, by decide, fun r h0 h1 => ?_⟩
  obtain ⟨d, hd4, e⟩ := get_in (rows := [.int 2, .int 3, .int 5, .int 9]) h0 h1
  have hc : ∃ m : Int, d = .int m ∧ 1 ≤ m ∧ m ≤ 24 := by
    simp only [List.mem_cons, List.not_mem_nil, or_false] at hd4
    rcases hd4 with rfl | rfl | rfl | rfl <;> exact ⟨_, rfl, by decide, by decide⟩
  obtain ⟨c', rfl, c2, c3⟩ := hc
  simp_arith [e]
  refine ⟨_, _, rfl, ⟨c1, by decide⟩, ⟨c2, by omega⟩, fun fs w d9 l9 => ?_⟩
  simp_arith []
  intro a ha
  have w' := w
  simp only [Wf] at w'
  have first : ChK (.recd fs) := ⟨w, ⟨fs, rfl⟩, d9.1, by omega⟩
  simp_arith [enc, updD_same]
  refine lcD_ind (fun xs acc H => H = updD G a (.lst [.tup [.str sRec, .tup (encs fs)]]) ∧ ∃ l ls : List (List Nat × Kd), xs = ls.map enc1 ∧ toL fs = l ++ ls ∧ acc = l.map fun q => .str q.1) ?_ ?_ _ _ _ ⟨rfl, [], toL fs, encs_eq fs, rfl, rfl⟩
  · rintro acc H ⟨rfl, l0, ls, hx, hl0, rfl⟩
    have : ls = [] := by cases ls <;> first | rfl | cases hx
    subst this
    rw [List.append_nil] at hl0
    subst hl0
    have pool : (∀ u ∈ (toL fs).map (fun q => D.str q.1), ∃ s, u = .str s ∧ Low s) ∧ ((toL fs).map fun q => D.str q.1).length < 1000 := by
      refine ⟨fun u hu => ?_, by rw [List.length_map]; have := w'.1.2.2; omega⟩
      obtain ⟨q, hq, rfl⟩ := List.mem_map.mp hu
      exact ⟨_, rfl, (wfs_eq w'.2 q hq).1⟩
    generalize hpl : (toL fs).map (fun q => D.str q.1) = pl at pool
    have e3 : ∀ x, delD (updD G a x) a = G := fun x => delD_updD ha
    try simp_arith []
    rw [q_rng1 ⟨by omega, by omega⟩, ok_some]
    refine And.intro (by dsimp only; omega) ?_
    have e0 : rngL (0, (((m : Nat) : Int) - 1).toNat, 1) = rngF 1 (m - 1) (((1 : Nat) : Int) - 1) := by
      have q : (((m : Nat) : Int) - 1).toNat = m - 1 := by omega
      show rngF 1 (((m : Nat) : Int) - 1).toNat 0 = rngF 1 (m - 1) 0
      rw [q]
    rw [e0]
    refine wFor_ind (fun xs σ H => ∃ (ks : List Kd) (k : Kd) (o4 o5 o6 : Option D), xs = rngF 1 (m - (ks.length + 1)) (((ks.length + 1 : Nat) : Int) - 1) ∧ ks.length + 1 ≤ m ∧ ChnOk (ks ++ [k]) ∧ H = updD G a (.lst ((ks ++ [k]).map enc)) ∧ σ = [some .rnd, some (.int (m : Nat)), some (.ref a), some (.lst pl), o4, o5, o6]) ?_ ?_ _ _ _
      ⟨[], .recd fs, _, _, _, rfl, hm.1, ⟨fun k hk => by rw [List.nil_append, List.mem_singleton] at hk; subst hk; exact first, rfl⟩, by simp only [List.nil_append, List.map_cons, List.map_nil, enc], rfl⟩
    · rintro σ H ⟨ks, k, o4, o5, o6, hx, hkm, hok, rfl, rfl⟩
      have hz : m - (ks.length + 1) = 0 := by
        cases q : m - (ks.length + 1) with
        | zero => rfl
        | succ n => rw [q] at hx; cases hx
      simp_arith [updD_same, e3]
      exact hQ _ hok (by simp; omega)
    · rintro x xs ih σ H ⟨ks, k, o4, o5, o6, hx, hkm, hok, rfl, rfl⟩
      obtain ⟨n, hn, rfl, rfl⟩ := rngF_cons hx
      obtain ⟨wk, ⟨gs, rfl⟩, dk, lk⟩ := hok.1 k (by simp)
      have i1 : atI ((ks ++ [Kd.recd gs]).map enc) (((ks.length + 1 : Nat) : Int) - 1) = some (enc (.recd gs)) := by
        rw [show ((ks.length + 1 : Nat) : Int) - 1 = (ks.length : Nat) by omega, at_nat, List.getElem?_map, List.getElem?_append_right (Nat.le_refl _), Nat.sub_self]
        rfl
      simp_arith [updD_same, i1]
      refine ⟨gs, 8, pl, rfl, wk, ⟨by simp only [dp] at dk; omega, by decide⟩, pool.2, pool.1, fun us wu bu fu => ?_⟩
      simp_arith []
      refine ⟨enc (.recd us), rfl, encK_px _ wu, ?_⟩
      simp_arith []
      have len8 : ((ks ++ [Kd.recd gs]).map enc).length < lim := by simp; omega
      have go : ∀ u : Kd, ChK u → fit u (.recd gs) = true → ∀ σ, σ = [some .rnd, some (.int (m : Nat)), some (.ref a), some (.lst pl), some (.int (((ks.length + 1 : Nat) : Int) - 1)), some (enc (.recd us)), o6] → _ := fun u hu fu σ hσ =>
        ih σ (updD G a (.lst ((ks ++ [Kd.recd gs]).map enc ++ [enc u]))) ⟨ks ++ [.recd gs], u, _, _, _, by
          have e1 : n = m - ((ks ++ [Kd.recd gs]).length + 1) := by simp; omega
          rw [e1]
          congr 1
          simp, by simp; omega, ⟨fun z hz => by
            rcases List.mem_append.mp hz with hz | hz
            · exact hok.1 z hz
            · rw [List.mem_singleton] at hz; subst hz; exact hu, fitc_snoc hok.2 fu⟩, by simp, hσ⟩
      cases hs : isS (enc (.recd us)) with
      | true =>
        simp_arith [updD_same, updD_updD, i1]
        exact ⟨len8, go _ (chk_of wu hs) fu _ rfl⟩
      | false =>
        simp_arith [updD_same, updD_updD, i1]
        exact ⟨len8, go _ ⟨wk, ⟨gs, rfl⟩, dk, lk⟩ (fit_refl _ wk) _ rfl⟩
  · rintro x xs acc ih H ⟨rfl, l, ls, hx, hl, rfl⟩
    cases ls with
    | nil => cases hx
    | cons q ls =>
      rw [List.map_cons] at hx
      injection hx with hx1 hx2
      subst hx1; subst hx2
      simp_arith [enc1]
      exact ih _ _ ⟨rfl, l ++ [q], ls, rfl, by rw [hl]; simp, by simp⟩
end DL

namespace DL
open PySem PySem.Spec PyProof.Rows L2
/-! ## Point 64: a row that comes to two (plain law) -/
mutual
/-- the plainest value -/
def pln : Kd → D
  | .leaf k => if k = sInt then .int 0 else if k = sText then .str [] else .bl false
  | .one true _ => .non
  | .one false _ => .tup []
  | .recd fs => .tup (plns fs)
def plns : Fs → List D
  | .nil => []
  | .cons _ k fs => pln k :: plns fs
end
theorem plns_eq : ∀ fs, plns fs = (toL fs).map fun q => pln q.2
  | .nil => rfl
  | .cons n k fs => by simp only [plns, toL, List.map_cons, plns_eq fs]
/-- a value that is something -/
def ful : Kd → D
  | .one true a => pln a
  | .one false a => .tup [pln a]
  | k => pln k
def strip : Kd → Kd
  | .one true a => a
  | t => t
mutual
/-- a value of t that comes to two -/
def ptg : Kd → Kd → Kd → Option D
  | .leaf _, _, _ => none
  | .recd ks, u, t => match u, t with
    | .recd gs, .recd fs => ptgs ks (toL gs) (toL fs)
    | _, _ => none
  | .one true c, u, t => match u with
    | .one false b => (match t with
      | .one true _ => some .non
      | t => ptg c (.one false b) t)
    | .one true b => ptg c b (strip t)
    | u => ptg c u t
  | .one false c, u, t => match u with
    | .one false b => (match t with
      | .one false a => (ptg c b a).map fun x => .tup [x]
      | .one true a => ptg c b a
      | t => ptg c b t)
    | .one true b => ptg c b (strip t)
    | u => ptg c u t
def ptgs : Fs → List (List Nat × Kd) → List (List Nat × Kd) → Option D
  | .nil, _, _ => none
  | .cons n k ks, gs, fs => match fnd n fs, fnd n gs with
    | some a, some b => (match ptg k b a with
      | some x => some (.tup (fs.map fun q => if (q.1 == n) = true then x else pln q.2))
      | none => ptgs ks gs fs)
    | some a, none => some (.tup (fs.map fun q => if (q.1 == n) = true then ful a else pln q.2))
    | none, some b => if (isLst b && isOpt k) = true then some (.tup (fs.map fun q => pln q.2)) else ptgs ks gs fs
    | none, none => ptgs ks gs fs
end
mutual
theorem pln_okv : ∀ k, Wf k → OkV k (pln k) 0
  | .leaf k, w => by
    simp only [Wf, List.mem_cons, List.not_mem_nil, or_false] at w
    simp only [OkV, LeafV, pln]
    rcases w with rfl | rfl | rfl
    · exact .inl ⟨rfl, 0, rfl, by unfold IntOk; decide⟩
    · exact .inr (.inl ⟨rfl, [], rfl, by unfold TextOk; simp⟩)
    · exact .inr (.inr ⟨rfl, false, rfl⟩)
  | .one true a, _ => by simp only [OkV, pln]; exact .inl trivial
  | .one false a, _ => by
    simp only [OkV, pln]
    exact ⟨[], [], rfl, rfl, Nat.le_refl _, fun i x m h => by simp at h⟩
  | .recd fs, w => by
    simp only [Wf] at w
    simp only [OkV, pln]
    exact ⟨_, rfl, plns_okv fs w.2⟩
theorem plns_okv : ∀ fs, Wfs fs → OkVs fs (plns fs) 0
  | .nil, _ => by simp only [OkVs, plns]
  | .cons n k fs, w => by
    simp only [Wfs] at w
    simp only [OkVs, plns]
    exact ⟨_, _, 0, 0, rfl, Nat.le_refl _, pln_okv k w.2.1, plns_okv fs w.2.2⟩
end
theorem okv_one {a : Kd} {x : D} {m : Nat} (h : OkV a x m) : OkV (.one false a) (.tup [x]) (m + 1) := by
  simp only [OkV]
  refine ⟨[x], [m], rfl, rfl, by simp; omega, fun i y j h1 h2 => ?_⟩
  cases i with
  | zero => simp at h1 h2; subst h1; subst h2; exact h
  | succ i => simp at h1
theorem ful_okv {k : Kd} (w : Wf k) : OkV k (ful k) 1 := by
  cases k with
  | leaf k => exact okV_mono (pln_okv _ w) (Nat.zero_le _)
  | recd fs => exact okV_mono (pln_okv _ w) (Nat.zero_le _)
  | one o a =>
    simp only [Wf] at w
    cases o with
    | true => simp only [OkV, ful]; exact .inr (okV_mono (pln_okv a w.2) (Nat.zero_le _))
    | false => exact okv_one (pln_okv a w.2)
/-- fields, one of them unlike the others -/
theorem okvs_map {n : List Nat} {m : Nat} {f : List Nat × Kd → D} : ∀ {fs : Fs}, ((toL fs).map Prod.fst).Nodup → (∀ q ∈ toL fs, q.1 ≠ n → OkV q.2 (f q) 0) → (∀ q ∈ toL fs, q.1 = n → OkV q.2 (f q) m) → OkVs fs ((toL fs).map f) m
  | .nil, _, _, _ => by simp only [OkVs, toL, List.map_nil]
  | .cons k a fs, nd, h0, h1 => by
    simp only [toL, List.map_cons, List.nodup_cons] at nd
    simp only [OkVs, toL, List.map_cons]
    have r0 : ∀ q ∈ toL fs, q.1 ≠ n → OkV q.2 (f q) 0 := fun q hq => h0 q (by simp only [toL]; exact List.mem_cons_of_mem _ hq)
    by_cases e : k = n
    · refine ⟨_, _, m, 0, rfl, by omega, h1 (k, a) (by simp only [toL]; exact List.mem_cons_self) e, okvs_map nd.2 r0 fun q hq z => ?_⟩
      exact absurd (List.mem_map.mpr ⟨q, hq, by rw [z, e]⟩) nd.1
    · exact ⟨_, _, 0, m, rfl, by omega, h0 (k, a) (by simp only [toL]; exact List.mem_cons_self) e, okvs_map nd.2 r0 fun q hq => h1 q (by simp only [toL]; exact List.mem_cons_of_mem _ hq)⟩
/-- one field, moved -/
def mvf (q : List Nat × Kd) (fs : List (List Nat × Kd)) (vs : List D) : D := match fidx q.1 fs with
  | some i => mv q.2 (fs.getD i ([], .leaf [])).2 (vs.getD i .non)
  | none => if isOpt q.2 = true then .non else .tup []
theorem mvs_map : ∀ (gs : Fs) (fs : List (List Nat × Kd)) (vs : List D), mvs gs fs vs = (toL gs).map fun q => mvf q fs vs
  | .nil, _, _ => by simp only [mvs, toL, List.map_nil]
  | .cons n k gs, fs, vs => by simp only [mvs, toL, List.map_cons, mvs_map gs fs vs]; rfl
theorem vk_ne {k : Kd} {v : D} (h : VK k v) (ho : isOpt k = false) : isNon v = false := by
  cases k with
  | leaf k => simp only [VK, LeafV] at h; rcases h with ⟨_, _, rfl, _⟩ | ⟨_, _, rfl, _⟩ | ⟨_, _, rfl⟩ <;> rfl
  | one o a =>
    cases o with
    | true => cases ho
    | false => simp only [VK] at h; obtain ⟨_, rfl, _⟩ := h; rfl
  | recd fs => simp only [VK] at h; obtain ⟨_, rfl, _⟩ := h; rfl
theorem okv_nn {k : Kd} {v : D} {n : Nat} (h : OkV k v n) (ho : isOpt k = false) : isNon v = false := by
  have := okv_ne h ho
  cases v <;> first | rfl | exact absurd rfl this
/-- where a field stands, by its kind -/
theorem fidx_some {n : List Nat} {fs : List (List Nat × Kd)} {a : Kd} (h : fnd n fs = some a) : ∃ i, fidx n fs = some i ∧ fs[i]? = some (n, a) := by
  have q := fidx_fnd n fs
  cases e : fidx n fs with
  | none => simp only [e] at q; rw [q] at h; cases h
  | some i =>
    simp only [e] at q
    obtain ⟨p, h1, h2, h3⟩ := q
    rw [h] at h2
    cases h2
    subst h3
    exact ⟨i, rfl, h1⟩
theorem fidx_none {n : List Nat} {fs : List (List Nat × Kd)} (h : fnd n fs = none) : fidx n fs = none := by
  have q := fidx_fnd n fs
  cases e : fidx n fs with
  | none => rfl
  | some i =>
    simp only [e] at q
    obtain ⟨p, h1, h2, h3⟩ := q
    rw [h] at h2
    cases h2
theorem mvf_some {n : List Nat} {k a : Kd} {fs : List (List Nat × Kd)} {vs : List D} {i : Nat} {x : D} (h : fidx n fs = some i) (h1 : fs[i]? = some (n, a)) (h2 : vs[i]? = some x) : mvf (n, k) fs vs = mv k a x := by
  unfold mvf
  simp only [h]
  rw [List.getD_eq_getElem?_getD, h1, List.getD_eq_getElem?_getD, h2]
  rfl
theorem mvf_none {n : List Nat} {k : Kd} {fs : List (List Nat × Kd)} {vs : List D} (h : fidx n fs = none) : mvf (n, k) fs vs = if isOpt k = true then .non else .tup [] := by
  unfold mvf
  simp only [h]
/-- what is told of one value -/
def Told (v u t : Kd) (r : Option D) (n : Nat) : Prop := match r with
  | none => ∀ w, VK t w → mv v t w = mv v u (mv u t w)
  | some x => ∃ m, m ≤ n ∧ OkV t x m ∧ mv v t x ≠ mv v u (mv u t x)
theorem wf_one {o : Bool} {a : Kd} (w : Wf (.one o a)) : Wf a := by simp only [Wf] at w; exact w.2
theorem wf_no {a : Kd} (w : Wf (.one true a)) : isOpt a = false := by simp only [Wf] at w; exact w.1 trivial
theorem mv_nn {u t : Kd} {w : D} (f : fit u t = true) (h : VK t w) (ho : isOpt u = false) : isNon (mv u t w) = false := vk_ne (mv_vk u t w f h) ho
theorem mv_opt_o {c a : Kd} {w : D} (h : isNon w = false) : mv (.one true c) (.one true a) w = mv c a w := by simp only [mv, h]; rfl
theorem mv_opt_n {c a : Kd} : mv (.one true c) (.one true a) .non = .non := by simp only [mv]; rfl
theorem mv_opt_i {c t : Kd} {w : D} (h : isOpt t = false) : mv (.one true c) t w = mv c t w := by
  cases t with
  | one o a => cases o with
    | true => cases h
    | false => simp only [mv]
  | leaf k => simp only [mv]
  | recd fs => simp only [mv]
theorem mv_lst_n {c a : Kd} : mv (.one false c) (.one true a) .non = .tup [] := by simp only [mv]; rfl
theorem mv_lst_o {c a : Kd} {w : D} (h : isNon w = false) : mv (.one false c) (.one true a) w = .tup [mv c a w] := by simp only [mv, h]; rfl
theorem mv_lst_l {c a : Kd} {vs : List D} : mv (.one false c) (.one false a) (.tup vs) = .tup (vs.map fun x => mv c a x) := by simp only [mv]
theorem mv_lst_i {c t : Kd} {w : D} (h : isOneK t = false) : mv (.one false c) t w = .tup [mv c t w] := by
  cases t with
  | one o a => cases h
  | leaf k => simp only [mv]
  | recd fs => simp only [mv]
theorem fit_one {u t : Kd} (h : isOneK u = false) (f : fit u t = true) : isOneK t = false := by
  cases u with
  | one o a => cases h
  | leaf k => simp only [fit] at f; cases t <;> first | rfl | cases f
  | recd k => simp only [fit] at f; cases t <;> first | rfl | cases f
theorem one_opt {t : Kd} (h : isOneK t = false) : isOpt t = false := by
  cases t <;> first | rfl | cases h
theorem fit_opt {c t : Kd} : fit (.one true c) t = fit c (strip t) := by
  cases t with
  | one o a => cases o <;> rfl
  | _ => rfl
theorem fit_lst_i {c t : Kd} (h : isOneK t = false) : fit (.one false c) t = fit c t := by
  cases t <;> first | rfl | cases h
theorem strip_i {t : Kd} (h : isOpt t = false) : strip t = t := by
  cases t with
  | one o a => cases o with
    | true => cases h
    | false => rfl
  | _ => rfl
/-- both ways come to one -/
def Cm (v u t : Kd) (w : D) : Prop := mv v t w = mv v u (mv u t w)
theorem told_same {v u t v' u' : Kd} {r : Option D} {n : Nat} (hn : n ≤ 1000) (h : Told v' u' t r n) (e : ∀ w, VK t w → (Cm v u t w ↔ Cm v' u' t w)) : Told v u t r n := by
  cases r with
  | none => exact fun w hw => (e w hw).mpr (h w hw)
  | some x =>
    obtain ⟨m, h1, h2, h3⟩ := h
    exact ⟨m, h1, h2, fun z => h3 ((e x (okv_vk t x m h2 (by omega))).mp z)⟩
theorem told_opt {v u a v' u' : Kd} {r : Option D} {n : Nat} (hn : n ≤ 1000) (wa : isOpt a = false) (h : Told v' u' a r n) (e0 : Cm v u (.one true a) .non) (e : ∀ w, VK a w → isNon w = false → (Cm v u (.one true a) w ↔ Cm v' u' a w)) : Told v u (.one true a) r n := by
  cases r with
  | none =>
    intro w hw
    simp only [VK] at hw
    rcases hw with rfl | hw
    · exact e0
    · exact (e w hw (vk_ne hw wa)).mpr (h w hw)
  | some x =>
    obtain ⟨m, h1, h2, h3⟩ := h
    exact ⟨m, h1, by simp only [OkV]; exact .inr h2, fun z => h3 ((e x (okv_vk a x m h2 (by omega)) (okv_nn h2 wa)).mp z)⟩
theorem told_up {v u t : Kd} {r : Option D} {n m : Nat} (h : Told v u t r n) (l : n ≤ m) : Told v u t r m := by
  cases r with
  | none => exact h
  | some x => obtain ⟨k, h1, h2, h3⟩ := h; exact ⟨k, by omega, h2, h3⟩
theorem tup1 {x y : D} : (D.tup [x] = D.tup [y]) ↔ x = y := ⟨fun h => by injection h with h; injection h, fun h => by rw [h]⟩
/-- a choice over a choice -/
theorem told_oo {c b t : Kd} {r : Option D} {n : Nat} (hn : n ≤ 1000) (wb : isOpt b = false) (wt : Wf t) (fb : fit b (strip t) = true) (h : Told c b (strip t) r n) : Told (.one true c) (.one true b) t r n := by
  cases ht : isOpt t with
  | false =>
    rw [strip_i ht] at h fb
    refine told_same hn h fun w hw => ?_
    unfold Cm
    rw [mv_opt_i ht, mv_opt_i ht, mv_opt_o (mv_nn fb hw wb)]
  | true =>
    obtain ⟨a, rfl⟩ : ∃ a, t = .one true a := by
      cases t with
      | one o a => cases o <;> first | exact ⟨a, rfl⟩ | cases ht
      | leaf k => cases ht
      | recd k => cases ht
    have fb : fit b a = true := fb
    refine told_opt hn (wf_no wt) h ?_ fun w hw nn => ?_
    · unfold Cm
      rw [mv_opt_n, mv_opt_n, mv_opt_n]
    · unfold Cm
      rw [mv_opt_o nn, mv_opt_o nn, mv_opt_o (mv_nn fb hw wb)]
theorem told_lo {c b t : Kd} {r : Option D} {n : Nat} (hn : n ≤ 1000) (wb : isOneK b = false) (wt : Wf t) (fb : fit b (strip t) = true) (h : Told c b (strip t) r n) : Told (.one false c) (.one true b) t r n := by
  have wo := one_opt wb
  have ft := fit_one wb fb
  cases ht : isOpt t with
  | false =>
    rw [strip_i ht] at h fb ft
    refine told_same hn h fun w hw => ?_
    unfold Cm
    rw [mv_lst_i ft, mv_opt_i ht, mv_lst_o (mv_nn fb hw wo), tup1]
  | true =>
    obtain ⟨a, rfl⟩ : ∃ a, t = .one true a := by
      cases t with
      | one o a => cases o <;> first | exact ⟨a, rfl⟩ | cases ht
      | leaf k => cases ht
      | recd k => cases ht
    have fb : fit b a = true := fb
    refine told_opt hn (wf_no wt) h ?_ fun w hw nn => ?_
    · unfold Cm
      rw [mv_lst_n, mv_opt_n, mv_lst_n]
    · unfold Cm
      rw [mv_lst_o nn, mv_opt_o nn, mv_lst_o (mv_nn fb hw wo), tup1]
theorem told_ll {c b a : Kd} {r : Option D} {n : Nat} (hn : n + 1 ≤ 1000) (h : Told c b a r n) : Told (.one false c) (.one false b) (.one false a) (r.map fun x => .tup [x]) (n + 1) := by
  cases r with
  | none =>
    intro w hw
    simp only [VK] at hw
    obtain ⟨vs, rfl, _, hv⟩ := hw
    rw [mv_lst_l, mv_lst_l, mv_lst_l, List.map_map]
    congr 1
    exact List.map_congr_left fun x hx => h x (hv x hx)
  | some x =>
    obtain ⟨m, h1, h2, h3⟩ := h
    refine ⟨m + 1, by omega, okv_one h2, fun z => h3 ?_⟩
    rw [mv_lst_l, mv_lst_l, mv_lst_l] at z
    exact tup1.mp z
theorem told_fields {ks gs fs : Fs} {r : Option D} {n : Nat} (h : match r with
    | none => ∀ vs, VKs fs vs → mvs ks (toL fs) vs = mvs ks (toL gs) (mvs gs (toL fs) vs)
    | some x => ∃ vs m, x = .tup vs ∧ m ≤ n ∧ OkVs fs vs m ∧ mvs ks (toL fs) vs ≠ mvs ks (toL gs) (mvs gs (toL fs) vs)) : Told (.recd ks) (.recd gs) (.recd fs) r n := by
  cases r with
  | none =>
    intro w hw
    simp only [VK] at hw
    obtain ⟨vs, rfl, hv⟩ := hw
    simp only [mv]
    rw [h vs hv]
  | some x =>
    obtain ⟨vs, m, rfl, h1, h2, h3⟩ := h
    refine ⟨m, h1, by simp only [OkV]; exact ⟨vs, rfl, h2⟩, fun z => h3 ?_⟩
    simp only [mv] at z
    injection z
/-- fields: what stands at one of them -/
theorem fld_of {ks gs fs : Fs} {vs : List D} {n : List Nat} {k : Kd} (hv : VKs fs vs) (fu : fits gs (toL fs) = true) :
    match fnd n (toL fs), fnd n (toL gs) with
    | some a, some b => ∃ i x, fidx n (toL fs) = some i ∧ vs[i]? = some x ∧ VK a x ∧ mvf (n, k) (toL fs) vs = mv k a x ∧ mvf (n, k) (toL gs) (mvs gs (toL fs) vs) = mv k b (mv b a x)
    | some a, none => ∃ i x, fidx n (toL fs) = some i ∧ vs[i]? = some x ∧ VK a x ∧ mvf (n, k) (toL fs) vs = mv k a x ∧ mvf (n, k) (toL gs) (mvs gs (toL fs) vs) = if isOpt k = true then .non else .tup []
    | none, some b => mvf (n, k) (toL fs) vs = (if isOpt k = true then .non else .tup []) ∧ mvf (n, k) (toL gs) (mvs gs (toL fs) vs) = mv k b (if isOpt b = true then .non else .tup [])
    | none, none => mvf (n, k) (toL fs) vs = mvf (n, k) (toL gs) (mvs gs (toL fs) vs) := by
  have over : ∀ b, fnd n (toL gs) = some b → mvf (n, k) (toL gs) (mvs gs (toL fs) vs) = mv k b (mvf (n, b) (toL fs) vs) := fun b e => by
    obtain ⟨j, j1, j2⟩ := fidx_some e
    exact mvf_some j1 j2 (by rw [mvs_map, List.getElem?_map, j2]; rfl)
  have here : ∀ a, fnd n (toL fs) = some a → ∃ i x, fidx n (toL fs) = some i ∧ vs[i]? = some x ∧ VK a x ∧ ∀ k, mvf (n, k) (toL fs) vs = mv k a x := fun a e => by
    obtain ⟨i, i1, i2⟩ := fidx_some e
    have hi : i < vs.length := by rw [vks_len hv]; exact (List.getElem?_eq_some_iff.mp i2).1
    have hx := List.getElem?_eq_getElem hi
    exact ⟨i, vs[i], i1, hx, vks_get hv i2 hx, fun k => mvf_some i1 i2 hx⟩
  cases e1 : fnd n (toL fs) with
  | none =>
    have f1 := fidx_none e1
    cases e2 : fnd n (toL gs) with
    | none => rw [mvf_none f1, mvf_none (fidx_none e2)]
    | some b => exact ⟨mvf_none f1, by rw [over b e2, mvf_none f1]⟩
  | some a =>
    obtain ⟨i, x, h1, h2, h3, h4⟩ := here a e1
    cases e2 : fnd n (toL gs) with
    | none => exact ⟨i, x, h1, h2, h3, h4 k, mvf_none (fidx_none e2)⟩
    | some b => exact ⟨i, x, h1, h2, h3, h4 k, by rw [over b e2, h4 b]⟩
def ToldF (ks gs fs : Fs) (r : Option D) (n : Nat) : Prop := match r with
  | none => ∀ vs, VKs fs vs → mvs ks (toL fs) vs = mvs ks (toL gs) (mvs gs (toL fs) vs)
  | some x => ∃ vs m, x = .tup vs ∧ m ≤ n ∧ OkVs fs vs m ∧ mvs ks (toL fs) vs ≠ mvs ks (toL gs) (mvs gs (toL fs) vs)
theorem toldF_rest {ks gs fs : Fs} {n : List Nat} {k : Kd} {r : Option D} {a b : Nat} (l : a ≤ b) (hd : ∀ vs, VKs fs vs → mvf (n, k) (toL fs) vs = mvf (n, k) (toL gs) (mvs gs (toL fs) vs)) (h : ToldF ks gs fs r a) : ToldF (.cons n k ks) gs fs r b := by
  have e : ∀ ls vs, mvs (.cons n k ks) ls vs = mvf (n, k) ls vs :: mvs ks ls vs := fun ls vs => rfl
  cases r with
  | none =>
    intro vs hv
    rw [e, e, hd vs hv, h vs hv]
  | some x =>
    obtain ⟨vs, m, h1, h2, h3, h4⟩ := h
    refine ⟨vs, m, h1, by omega, h3, fun z => h4 ?_⟩
    rw [e, e] at z
    injection z
theorem toldF_here {ks gs fs : Fs} {n : List Nat} {k : Kd} {vs : List D} {m b : Nat} (l : m ≤ b) (hv : OkVs fs vs m) (hd : mvf (n, k) (toL fs) vs ≠ mvf (n, k) (toL gs) (mvs gs (toL fs) vs)) : ToldF (.cons n k ks) gs fs (some (.tup vs)) b := by
  have e : ∀ ls vs, mvs (.cons n k ks) ls vs = mvf (n, k) ls vs :: mvs ks ls vs := fun ls vs => rfl
  refine ⟨vs, m, rfl, l, hv, fun z => hd ?_⟩
  rw [e, e] at z
  injection z
theorem ful_ne {k a : Kd} (wa : Wf a) (wk : Wf k) (ok : isOneK k = true) (f : fit k a = true) : mv k a (ful a) ≠ if isOpt k = true then .non else .tup [] := by
  have nn : ∀ d : D, isNon d = false → d ≠ .non := fun d h z => by rw [z] at h; cases h
  cases k with
  | leaf k => cases ok
  | recd k => cases ok
  | one o c =>
    cases o with
    | true =>
      have wc := wf_no wk
      rw [fit_opt] at f
      show _ ≠ D.non
      cases ha : isOpt a with
      | false =>
        rw [strip_i ha] at f
        rw [mv_opt_i ha]
        exact nn _ (mv_nn f (okv_vk _ _ _ (ful_okv wa) (by decide)) wc)
      | true =>
        obtain ⟨b, rfl⟩ : ∃ b, a = .one true b := by
          cases a with
          | one o b => cases o <;> first | exact ⟨b, rfl⟩ | cases ha
          | leaf k => cases ha
          | recd k => cases ha
        have f : fit c b = true := f
        have p := pln_okv b (wf_one wa)
        show mv _ _ (pln b) ≠ _
        rw [mv_opt_o (okv_nn p (wf_no wa))]
        exact nn _ (mv_nn f (okv_vk _ _ _ p (by decide)) wc)
    | false =>
      show _ ≠ D.tup []
      cases a with
      | leaf k => rw [mv_lst_i rfl]; exact fun z => by injection z with z; cases z
      | recd k => rw [mv_lst_i rfl]; exact fun z => by injection z with z; cases z
      | one o b =>
        cases o with
        | true =>
          show mv _ _ (pln b) ≠ _
          rw [mv_lst_o (okv_nn (pln_okv b (wf_one wa)) (wf_no wa))]
          exact fun z => by injection z with z; cases z
        | false =>
          show mv _ _ (.tup [pln b]) ≠ _
          rw [mv_lst_l]
          exact fun z => by injection z with z; cases z
theorem opt_lst {c b : Kd} (wc : isOpt c = false) (f : fit c (.one false b) = true) : mv c (.one false b) (.tup []) = .tup [] := by
  cases c with
  | leaf k => simp only [fit] at f; cases f
  | recd k => simp only [fit] at f; cases f
  | one o c => cases o with
    | true => cases wc
    | false => rw [mv_lst_l]; rfl
theorem at_field {gs : Fs} {fs : List (List Nat × Kd)} {n : List Nat} {b : Kd} (f : fits gs fs = true) (e : fnd n (toL gs) = some b) : (match fnd n fs with | some p => fit b p | none => isOneK b) = true := by
  rw [fits_eq] at f
  exact List.all_eq_true.mp f (n, b) (fnd_mem e)
mutual
theorem ptg_ok : ∀ (v u t : Kd), Wf v → Wf u → Wf t → fit u t = true → fit v u = true → fit v t = true → dp v ≤ 900 → Told v u t (ptg v u t) (dp v)
  | .leaf k, u, t, wv, wu, wt, fu, fv, ft, hd => by
    cases u with
    | leaf k' => exact fun w hw => by simp only [mv]
    | one o a => simp only [fit] at fv; cases fv
    | recd fs => simp only [fit] at fv; cases fv
  | .one true c, u, t, wv, wu, wt, fu, fv, ft, hd => by
    have wc := wf_no wv
    have ih := fun u t wu wt fu fv ft => ptg_ok c u t (wf_one wv) wu wt fu fv ft (by simp only [dp] at hd; omega)
    rw [fit_opt] at fv ft
    have hd' : dp c ≤ dp (Kd.one true c) := by simp only [dp]; omega
    refine told_up ?_ hd'
    have hn : dp c ≤ 1000 := by simp only [dp] at hd; omega
    have plain : isOneK u = false → ptg (.one true c) u t = ptg c u t → Told (.one true c) u t (ptg (.one true c) u t) (dp c) := fun hu e => by
      have ht := fit_one hu fu
      rw [e]
      rw [strip_i (one_opt hu)] at fv
      rw [strip_i (one_opt ht)] at ft
      refine told_same hn (ih u t wu wt fu fv ft) fun w hw => ?_
      unfold Cm
      rw [mv_opt_i (one_opt ht), mv_opt_i (one_opt hu)]
    cases u with
    | leaf k => exact plain rfl (by simp only [ptg])
    | recd k => exact plain rfl (by simp only [ptg])
    | one o b =>
      cases o with
      | true =>
        have wt' : Wf (strip t) := by
          cases t with
          | one o a => cases o <;> first | exact wf_one wt | exact wt
          | leaf k => exact wt
          | recd k => exact wt
        rw [fit_opt] at fu
        have e : ptg (.one true c) (.one true b) t = ptg c b (strip t) := by simp only [ptg]
        rw [e]
        exact told_oo hn (wf_no wu) wt fu (ih b (strip t) (wf_one wu) wt' fu fv ft)
      | false =>
        have fv : fit c (.one false b) = true := fv
        have other : isOpt t = false → ptg (.one true c) (.one false b) t = ptg c (.one false b) t → Told (.one true c) (.one false b) t (ptg (.one true c) (.one false b) t) (dp c) := fun ht e => by
          rw [e]
          rw [strip_i ht] at ft
          refine told_same hn (ih (.one false b) t wu wt fu fv ft) fun w hw => ?_
          unfold Cm
          rw [mv_opt_i ht, mv_opt_i rfl]
        cases t with
        | leaf k => exact other rfl (by simp only [ptg])
        | recd k => exact other rfl (by simp only [ptg])
        | one o a =>
          cases o with
          | false => exact other rfl (by simp only [ptg])
          | true =>
            have e : ptg (.one true c) (.one false b) (.one true a) = some .non := by simp only [ptg]
            rw [e]
            refine ⟨0, Nat.zero_le _, by simp only [OkV]; exact .inl trivial, ?_⟩
            rw [mv_opt_n, mv_lst_n, mv_opt_i rfl, opt_lst wc fv]
            exact fun z => by cases z
  | .one false c, u, t, wv, wu, wt, fu, fv, ft, hd => by
    have ih := fun u t wu wt fu fv ft => ptg_ok c u t (wf_one wv) wu wt fu fv ft (by simp only [dp] at hd; omega)
    have hd' : dp (Kd.one false c) = dp c + 1 := by simp only [dp]
    have hn : dp c + 1 ≤ 1000 := by omega
    rw [hd']
    have plain : isOneK u = false → ptg (.one false c) u t = ptg c u t → Told (.one false c) u t (ptg (.one false c) u t) (dp c + 1) := fun hu e => by
      have ht := fit_one hu fu
      rw [e]
      rw [fit_lst_i hu] at fv
      rw [fit_lst_i ht] at ft
      refine told_up (told_same (by omega) (ih u t wu wt fu fv ft) fun w hw => ?_) (Nat.le_succ _)
      unfold Cm
      rw [mv_lst_i ht, mv_lst_i hu, tup1]
    cases u with
    | leaf k => exact plain rfl (by simp only [ptg])
    | recd k => exact plain rfl (by simp only [ptg])
    | one o b =>
      cases o with
      | true =>
        have wt' : Wf (strip t) := by
          cases t with
          | one o a => cases o <;> first | exact wf_one wt | exact wt
          | leaf k => exact wt
          | recd k => exact wt
        rw [fit_opt] at fu
        simp only [fit, Bool.and_eq_true] at fv
        have wb := wf_no wu
        have ob : isOneK b = false := by
          cases b with
          | one o b => cases o with
            | true => cases wb
            | false => have := fv.1; cases this
          | leaf k => rfl
          | recd k => rfl
        have ft' : fit c (strip t) = true := by
          have q := fit_one ob fu
          cases t with
          | leaf k => rw [fit_lst_i rfl] at ft; exact ft
          | recd k => rw [fit_lst_i rfl] at ft; exact ft
          | one o a => cases o with
            | false => cases q
            | true => simp only [fit, Bool.and_eq_true] at ft; exact ft.2
        have e : ptg (.one false c) (.one true b) t = ptg c b (strip t) := by simp only [ptg]
        rw [e]
        exact told_up (told_lo (by omega) ob wt fu (ih b (strip t) (wf_one wu) wt' fu fv.2 ft')) (Nat.le_succ _)
      | false =>
        have fv : fit c b = true := by simpa only [fit] using fv
        have other : isOneK t = false → ptg (.one false c) (.one false b) t = ptg c b t → Told (.one false c) (.one false b) t (ptg (.one false c) (.one false b) t) (dp c + 1) := fun ht e => by
          rw [e]
          rw [fit_lst_i ht] at ft fu
          refine told_up (told_same (by omega) (ih b t (wf_one wu) wt fu fv ft) fun w hw => ?_) (Nat.le_succ _)
          unfold Cm
          rw [mv_lst_i ht, mv_lst_i ht, mv_lst_l, List.map_cons, List.map_nil, tup1]
        cases t with
        | leaf k => exact other rfl (by simp only [ptg])
        | recd k => exact other rfl (by simp only [ptg])
        | one o a =>
          cases o with
          | false =>
            have fu : fit b a = true := by simpa only [fit] using fu
            have ft : fit c a = true := by simpa only [fit] using ft
            have e : ptg (.one false c) (.one false b) (.one false a) = (ptg c b a).map fun x => .tup [x] := by simp only [ptg]
            rw [e]
            exact told_ll hn (ih b a (wf_one wu) (wf_one wt) fu fv ft)
          | true =>
            simp only [fit, Bool.and_eq_true] at fu ft
            have e : ptg (.one false c) (.one false b) (.one true a) = ptg c b a := by simp only [ptg]
            rw [e]
            refine told_up (told_opt (by omega) (wf_no wt) (ih b a (wf_one wu) (wf_one wt) fu.2 fv ft.2) ?_ fun w hw nn => ?_) (Nat.le_succ _)
            · unfold Cm
              rw [mv_lst_n, mv_lst_n, mv_lst_l, List.map_nil]
            · unfold Cm
              rw [mv_lst_o nn, mv_lst_o nn, mv_lst_l, List.map_cons, List.map_nil, tup1]
  | .recd ks, u, t, wv, wu, wt, fu, fv, ft, hd => by
    cases u with
    | leaf k => simp only [fit] at fv; cases fv
    | one o a => simp only [fit] at fv; cases fv
    | recd gs =>
      cases t with
      | leaf k => simp only [fit] at ft; cases ft
      | one o a => simp only [fit] at ft; cases ft
      | recd fs =>
        simp only [fit] at fu fv ft
        simp only [Wf] at wv
        have hd' : dp (Kd.recd ks) = dps ks + 1 := by simp only [dp]
        have e : ptg (.recd ks) (.recd gs) (.recd fs) = ptgs ks (toL gs) (toL fs) := by simp only [ptg]
        rw [e, hd']
        exact told_up (told_fields (ptgs_ok ks gs fs wv.2 wu wt fu fv ft (by omega))) (Nat.le_succ _)
theorem ptgs_ok : ∀ (ks gs fs : Fs), Wfs ks → Wf (.recd gs) → Wf (.recd fs) → fits gs (toL fs) = true → fits ks (toL gs) = true → fits ks (toL fs) = true → dps ks ≤ 900 → ToldF ks gs fs (ptgs ks (toL gs) (toL fs)) (dps ks)
  | .nil, gs, fs, _, _, _, _, _, _, _ => by
    simp only [ptgs, ToldF, mvs]
    exact fun _ _ => trivial
  | .cons n k ks, gs, fs, wk, wg, wf, fu, fv, ft, hd => by
    simp only [Wfs] at wk
    have hl : dps ks ≤ dps (.cons n k ks) ∧ dp k ≤ dps (.cons n k ks) := by simp only [dps]; omega
    simp only [fits, Bool.and_eq_true] at fv ft
    have ih := ptgs_ok ks gs fs wk.2.2 wg wf fu fv.2 ft.2 (by omega)
    have wg' := wg
    have wf' := wf
    simp only [Wf] at wg' wf'
    have fl := fun vs (hv : VKs fs vs) => fld_of (ks := ks) (k := k) (n := n) (gs := gs) hv fu
    have p1 := dpos k
    have one : ∀ (a : Kd) (x : D) (m : Nat), m ≤ 900 → fnd n (toL fs) = some a → OkV a x m → OkVs fs ((toL fs).map fun q => if (q.1 == n) = true then x else pln q.2) m ∧ VKs fs ((toL fs).map fun q => if (q.1 == n) = true then x else pln q.2) ∧ ∀ i, fidx n (toL fs) = some i → ((toL fs).map fun q => if (q.1 == n) = true then x else pln q.2)[i]? = some x := fun a x m hm e ho => by
      have o := okvs_map (n := n) (m := m) (f := fun q => if (q.1 == n) = true then x else pln q.2) (fs := fs) wf'.1.2.1 (fun q hq z => by
          rw [if_neg (by rw [beq_iff_eq]; exact z)]
          exact pln_okv _ (wfs_eq wf'.2 q hq).2) (fun q hq z => by
          rw [if_pos (by rw [beq_iff_eq]; exact z)]
          have := fnd_some wf'.1.2.1 q hq
          rw [z, e] at this
          cases this
          exact ho)
      refine ⟨o, okvs_vks fs _ m o (by omega), fun i hi => ?_⟩
      obtain ⟨j, j1, j2⟩ := fidx_some e
      rw [hi] at j1
      cases j1
      rw [List.getElem?_map, j2]
      simp
    unfold ptgs
    cases e1 : fnd n (toL fs) with
    | none =>
      simp only [e1] at ft fl
      cases e2 : fnd n (toL gs) with
      | none =>
        simp only [e2] at fl
        exact toldF_rest hl.1 fl ih
      | some b =>
        simp only [e2] at fl fv
        have ob := at_field fu e2
        simp only [e1] at ob
        show ToldF _ _ _ (if (isLst b && isOpt k) = true then _ else _) _
        have fb := fv.1
        have okk := ft.1
        cases b with
        | leaf z => cases ob
        | recd z => cases ob
        | one o2 b =>
          cases k with
          | leaf z => cases okk
          | recd z => cases okk
          | one o c =>
            cases o2 with
            | true =>
              refine toldF_rest hl.1 (fun vs hv => ?_) ih
              obtain ⟨q1, q2⟩ := fl vs hv
              rw [q1, q2]
              cases o with
              | true => exact mv_opt_n.symm
              | false => exact mv_lst_n.symm
            | false =>
              cases o with
              | false =>
                refine toldF_rest hl.1 (fun vs hv => ?_) ih
                obtain ⟨q1, q2⟩ := fl vs hv
                rw [q1, q2]
                show D.tup [] = mv _ _ (.tup [])
                rw [mv_lst_l]; rfl
              | true =>
                have po := plns_okv fs wf'.2
                rw [plns_eq] at po
                refine toldF_here (Nat.zero_le _) po ?_
                obtain ⟨q1, q2⟩ := fl _ (okvs_vks fs _ 0 po (by decide))
                rw [q1, q2]
                show D.non ≠ mv _ _ (.tup [])
                rw [mv_opt_i rfl, opt_lst (wf_no wk.2.1) (by rw [fit_opt] at fb; exact fb)]
                exact fun z => by cases z
    | some a =>
      simp only [e1] at ft fl
      have wa : Wf a := (wfs_eq wf'.2 (n, a) (fnd_mem e1)).2
      cases e2 : fnd n (toL gs) with
      | none =>
        simp only [e2] at fl fv
        obtain ⟨o1, o2, o3⟩ := one a (ful a) 1 (by decide) e1 (ful_okv wa)
        refine toldF_here (by omega) o1 ?_
        obtain ⟨i, x, q1, q2, q3, q4, q5⟩ := fl _ o2
        rw [q4, q5]
        rw [o3 i q1] at q2
        cases q2
        exact ful_ne wa wk.2.1 fv.1 ft.1
      | some b =>
        simp only [e2] at fl fv
        have fb := at_field fu e2
        simp only [e1] at fb
        have wb : Wf b := (wfs_eq wg'.2 (n, b) (fnd_mem e2)).2
        have ihk := ptg_ok k b a wk.2.1 wb wa fb fv.1 ft.1 (by omega)
        show ToldF _ _ _ (match ptg k b a with | some x => _ | none => _) _
        cases e3 : ptg k b a with
        | none =>
          rw [e3] at ihk
          refine toldF_rest hl.1 (fun vs hv => ?_) ih
          obtain ⟨i, x, q1, q2, q3, q4, q5⟩ := fl vs hv
          rw [q4, q5]
          exact ihk x q3
        | some x =>
          rw [e3] at ihk
          obtain ⟨m, m1, m2, m3⟩ := ihk
          obtain ⟨o1, o2, o3⟩ := one a x m (by omega) e1 m2
          refine toldF_here (by omega) o1 ?_
          obtain ⟨i, y, q1, q2, q3, q4, q5⟩ := fl _ o2
          rw [q4, q5]
          rw [o3 i q1] at q2
          cases q2
          exact m3
end
end DL

namespace DL
open PySem PySem.Spec PyProof.Rows L2
/-! ### plain values, partings (walks) -/
def sAny : List Nat := [97, 110, 121]
def sUnfit : List Nat := [117, 110, 102, 105, 116]
def sSame : List Nat := [115, 97, 109, 101]
def gPlain : D := .tup [.tup [.str sInt, .int 0], .tup [.str sText, .str []], .tup [.str sBool, .bl false]]
def b_value_of (cvalue_of cnothing_of gANY gLEAVES gPLAIN : Nat) : Ss :=
 (.c (.ite (.cmp .eq (.var 1) (.glb gANY)) (.c (.ite (.cmp .eq (.idx (.var 0) (.con (.int 0))) (.con (.str sRec))) (.c (.ret (.bf true .tuple (.c (.lc true (.call cvalue_of (.c (.var 3) (.c (.glb gANY) .n))) (.t [(.n 2), (.n 3)]) (.of (.idx (.var 0) (.con (.int 1)))) .yes [("_", 2), ("part", 3)]) .n)))
 .n) .n)
 (.c (.ret (.ife (.cmp .inn (.idx (.var 0) (.con (.int 0))) (.glb gLEAVES)) (.gdx gPLAIN (.idx (.var 0) (.con (.int 0)))) (.call cnothing_of (.c (.var 0) .n))))
 .n)) .n)
 (.c (.ite (.cmp .inn (.idx (.var 0) (.con (.int 0))) (.glb gLEAVES)) (.c (.ret (.idx (.var 1) (.con (.int 1))))
 .n) .n)
 (.c (.ite (.cmp .eq (.idx (.var 0) (.con (.int 0))) (.con (.str sOpt))) (.c (.ret (.ife (.cmp .eq (.idx (.var 1) (.con (.int 0))) (.con (.str [110, 111, 110, 101]))) (.con .non) (.call cvalue_of (.c (.idx (.var 0) (.con (.int 1))) (.c (.idx (.var 1) (.con (.int 1))) .n)))))
 .n) .n)
 (.c (.ite (.cmp .eq (.idx (.var 0) (.con (.int 0))) (.con (.str sList))) (.c (.ret (.bf true .tuple (.c (.lc true (.call cvalue_of (.c (.idx (.var 0) (.con (.int 1))) (.c (.var 4) .n))) (.n 4) (.of (.idx (.var 1) (.con (.int 1)))) .yes [("one", 4)]) .n)))
 .n) .n)
 (.c (.ret (.bf true .tuple (.c (.lc true (.call cvalue_of (.c (.idx (.var 5) (.con (.int 1))) (.c (.var 4) .n))) (.t [(.n 5), (.n 4)]) (.zip (.c (.idx (.var 0) (.con (.int 1))) (.c (.idx (.var 1) (.con (.int 1))) .n))) .yes [("field", 5), ("one", 4)]) .n)))
 .n)))))
def b_plain_value (cvalue_of gANY : Nat) : Ss :=
 (.c (.ret (.call cvalue_of (.c (.var 0) (.c (.glb gANY) .n))))
 .n)
def b_full_value (cplain_value : Nat) : Ss :=
 (.c (.ite (.cmp .eq (.idx (.var 0) (.con (.int 0))) (.con (.str sOpt))) (.c (.ret (.call cplain_value (.c (.idx (.var 0) (.con (.int 1))) .n)))
 .n) .n)
 (.c (.ret (.ife (.cmp .eq (.idx (.var 0) (.con (.int 0))) (.con (.str sList))) (.tup (.c (.call cplain_value (.c (.idx (.var 0) (.con (.int 1))) .n)) .n)) (.call cplain_value (.c (.var 0) .n))))
 .n))
def b_parting_record (cfield_of cparting cfull_value cplain_value : Nat) : Ss :=
 (.c (.for_ (.t [(.n 3), (.n 4)]) (.of (.idx (.var 2) (.con (.int 1)))) (.c (.set 5 (.call cfield_of (.c (.var 0) (.c (.var 3) .n))))
 (.c (.set 6 (.call cfield_of (.c (.var 1) (.c (.var 3) .n))))
 (.c (.ite (.bo true (.c (.of (.var 5)) (.c (.of (.var 6)) .n))) (.c (.set 7 (.call cparting (.c (.idx (.var 5) (.con (.int 0))) (.c (.idx (.var 6) (.con (.int 0))) (.c (.var 4) .n)))))
 .n) (.c (.ite (.of (.var 5)) (.c (.set 7 (.lst true (.c (.call cfull_value (.c (.idx (.var 5) (.con (.int 0))) .n)) .n)))
 .n) (.c (.ite (.bo true (.c (.of (.var 6)) (.c (.cmp .eq (.idx (.idx (.var 6) (.con (.int 0))) (.con (.int 0))) (.con (.str sList))) (.c (.cmp .eq (.idx (.var 4) (.con (.int 0))) (.con (.str sOpt))) .n)))) (.c (.ret (.lst true (.c (.call cplain_value (.c (.var 0) .n)) .n)))
 .n) (.c (.set 7 (.lst true .n))
 .n))
 .n))
 .n))
 (.c (.ite (.of (.var 7)) (.c (.ret (.lst true (.c (.bf true .tuple (.c (.lc true (.ife (.cmp .eq (.var 8) (.var 3)) (.idx (.var 7) (.con (.int 0))) (.call cplain_value (.c (.var 9) .n))) (.t [(.n 8), (.n 9)]) (.of (.idx (.var 0) (.con (.int 1)))) .yes [("one", 8), ("kind", 9)]) .n)) .n)))
 .n) .n)
 .n)))))
 (.c (.ret (.lst true .n))
 .n))
def b_parting (cparting_record cparting gLEAVES : Nat) : Ss :=
 (.c (.ite (.cmp .inn (.idx (.var 2) (.con (.int 0))) (.glb gLEAVES)) (.c (.ret (.lst true .n))
 .n) .n)
 (.c (.ite (.cmp .eq (.idx (.var 2) (.con (.int 0))) (.con (.str sRec))) (.c (.ret (.call cparting_record (.c (.var 0) (.c (.var 1) (.c (.var 2) .n)))))
 .n) .n)
 (.c (.ite (.bo true (.c (.cmp .eq (.idx (.var 2) (.con (.int 0))) (.con (.str sOpt))) (.c (.cmp .eq (.idx (.var 1) (.con (.int 0))) (.con (.str sList))) .n))) (.c (.ret (.ife (.cmp .eq (.idx (.var 0) (.con (.int 0))) (.con (.str sOpt))) (.lst true (.c (.con .non) .n)) (.call cparting (.c (.var 0) (.c (.var 1) (.c (.idx (.var 2) (.con (.int 1))) .n))))))
 .n) .n)
 (.c (.ite (.cmp .nin (.idx (.var 1) (.con (.int 0))) (.tup (.c (.con (.str sOpt)) (.c (.con (.str sList)) .n)))) (.c (.ret (.call cparting (.c (.var 0) (.c (.var 1) (.c (.idx (.var 2) (.con (.int 1))) .n)))))
 .n) .n)
 (.c (.ite (.bo true (.c (.cmp .eq (.idx (.var 0) (.con (.int 0))) (.con (.str sList))) (.c (.cmp .eq (.idx (.var 1) (.con (.int 0))) (.con (.str sList))) .n))) (.c (.ret (.lc true (.tup (.c (.var 3) .n)) (.n 3) (.of (.call cparting (.c (.idx (.var 0) (.con (.int 1))) (.c (.idx (.var 1) (.con (.int 1))) (.c (.idx (.var 2) (.con (.int 1))) .n))))) .yes [("one", 3)]))
 .n) .n)
 (.c (.ret (.call cparting (.c (.ife (.cmp .eq (.idx (.var 0) (.con (.int 0))) (.con (.str sOpt))) (.idx (.var 0) (.con (.int 1))) (.var 0)) (.c (.idx (.var 1) (.con (.int 1))) (.c (.idx (.var 2) (.con (.int 1))) .n)))))
 .n))))))
def b_ways (ccheck_chain cdoes_fit cparting : Nat) : Ss :=
 (.c (.ex (.call ccheck_chain (.c (.lst true (.c (.var 0) (.c (.var 1) (.c (.var 2) .n)))) .n)))
 (.c (.ite (.nt (.of (.call cdoes_fit (.c (.var 0) (.c (.var 2) .n))))) (.c (.ret (.con (.str [117, 110, 102, 105, 116])))
 .n) .n)
 (.c (.set 3 (.call cparting (.c (.var 0) (.c (.var 1) (.c (.var 2) .n)))))
 (.c (.ret (.ife (.of (.var 3)) (.idx (.var 3) (.con (.int 0))) (.con (.str [115, 97, 109, 101]))))
 .n))))
def b_law_parts (l_part l_parts : Nat) : Ss :=
 (.c (.ite (.cmp .inn (.idx (.var 2) (.con (.int 0))) (.tup (.c (.con (.str sInt)) (.c (.con (.str sText)) (.c (.con (.str sBool)) .n))))) (.c (.ret (.con (.bl false)))
 .n) .n)
 (.c (.ite (.cmp .eq (.idx (.var 2) (.con (.int 0))) (.con (.str sRec))) (.c (.for_ (.n 3) (.of (.idx (.var 2) (.con (.int 1)))) (.c (.set 4 (.call l_part (.c (.var 0) (.c (.idx (.var 3) (.con (.int 0))) .n))))
 (.c (.set 5 (.call l_part (.c (.var 1) (.c (.idx (.var 3) (.con (.int 0))) .n))))
 (.c (.ite (.bo true (.c (.cmp .nisn (.var 4) (.con .non)) (.c (.bo false (.c (.cmp .isn (.var 5) (.con .non)) (.c (.of (.call l_parts (.c (.var 4) (.c (.var 5) (.c (.idx (.var 3) (.con (.int 1))) .n))))) .n))) .n))) (.c (.ret (.con (.bl true)))
 .n) .n)
 (.c (.ite (.bo true (.c (.cmp .isn (.var 4) (.con .non)) (.c (.cmp .nisn (.var 5) (.con .non)) (.c (.cmp .eq (.idx (.var 5) (.con (.int 0))) (.con (.str sList))) (.c (.cmp .eq (.idx (.idx (.var 3) (.con (.int 1))) (.con (.int 0))) (.con (.str sOpt))) .n))))) (.c (.ret (.con (.bl true)))
 .n) .n)
 .n)))))
 (.c (.ret (.con (.bl false)))
 .n)) .n)
 (.c (.ite (.bo true (.c (.cmp .eq (.idx (.var 2) (.con (.int 0))) (.con (.str sOpt))) (.c (.cmp .eq (.idx (.var 1) (.con (.int 0))) (.con (.str sList))) .n))) (.c (.ret (.boo false (.c (.cmp .eq (.idx (.var 0) (.con (.int 0))) (.con (.str sOpt))) (.c (.call l_parts (.c (.var 0) (.c (.var 1) (.c (.idx (.var 2) (.con (.int 1))) .n)))) .n))))
 .n) .n)
 (.c (.ite (.cmp .nin (.idx (.var 1) (.con (.int 0))) (.tup (.c (.con (.str sOpt)) (.c (.con (.str sList)) .n)))) (.c (.ret (.call l_parts (.c (.var 0) (.c (.var 1) (.c (.idx (.var 2) (.con (.int 1))) .n)))))
 .n) .n)
 (.c (.ite (.bo true (.c (.cmp .inn (.idx (.var 0) (.con (.int 0))) (.tup (.c (.con (.str sOpt)) (.c (.con (.str sList)) .n)))) (.c (.bo false (.c (.cmp .eq (.idx (.var 0) (.con (.int 0))) (.con (.str sOpt))) (.c (.cmp .eq (.idx (.var 1) (.con (.int 0))) (.con (.str sList))) .n))) .n))) (.c (.ret (.call l_parts (.c (.idx (.var 0) (.con (.int 1))) (.c (.idx (.var 1) (.con (.int 1))) (.c (.idx (.var 2) (.con (.int 1))) .n)))))
 .n) .n)
 (.c (.ret (.call l_parts (.c (.var 0) (.c (.idx (.var 1) (.con (.int 1))) (.c (.idx (.var 2) (.con (.int 1))) .n)))))
 .n))))))
def spVO (n : Nat) : SpD := fun ds G Q _ => ∃ k, ds = [enc k, .tup [.str sAny]] ∧ WK k ∧ dp k ≤ n ∧ Q (pln k) G
def spPV : SpD := fun ds G Q _ => ∃ k, ds = [enc k] ∧ WK k ∧ dp k ≤ 10 ∧ Q (pln k) G
def spFV : SpD := fun ds G Q _ => ∃ k, ds = [enc k] ∧ WK k ∧ dp k ≤ 10 ∧ Q (ful k) G
theorem plain_at {k : List Nat} (w : WK (.leaf k)) : dctD gPlain (.str k) = some (pln (.leaf k)) := by
  simp only [WK, List.mem_cons, List.not_mem_nil, or_false] at w
  rcases w with rfl | rfl | rfl <;> rfl
theorem any_any (G : HD) : cmpD .eq (.tup [.str sAny]) (.tup [.str sAny]) G = some true := rfl
theorem value_of_ok {Γ : Gam} {vo no an gl pl n : Nat} (h1 : Γ.sp vo = spVO n) (h2 : Γ.sp no = spNothing) (ha : Γ.gl an = .tup [.str sAny]) (hg : Γ.gl gl = .tup [.str sInt, .str sText, .str sBool]) (hp : Γ.gl pl = gPlain) (ds : List D) (G : HD) (QD : KD) (XD : KX) (h : spVO (n + 1) ds G QD XD) :
    wSs Γ (b_value_of vo no an gl pl) { nx := fun _ H => QD .non H, rt := QD, ex := fun x _ H => XD x H } (startD 6 ds) G := by
  obtain ⟨k, rfl, w, hn, hQ⟩ := h
  cases k with
  | leaf k =>
    have e := plain_at w
    simp_arith [b_value_of, h1, h2, ha, hg, hp, enc, any_any, k_rec w, k_in3 w, e]
    exact hQ
  | one o a =>
    have e : pln (.one o a) = if isOpt (.one o a) = true then .non else .tup [] := by cases o <;> rfl
    have r : (sOne o == sRec) = false := by cases o <;> rfl
    rw [e] at hQ
    simp_arith [b_value_of, h1, h2, ha, hg, hp, enc, any_any, one_in, r]
    exact ⟨_, by simp only [enc], w, hQ⟩
  | recd fs =>
    simp only [dp] at hn
    simp only [WK] at w
    have e : pln (.recd fs) = .tup ((toL fs).map fun q => pln q.2) := by simp only [pln, plns_eq]
    rw [e] at hQ
    simp_arith [b_value_of, h1, h2, ha, hg, hp, enc, any_any, r_rec]
    rw [encs_eq]
    refine lcD_ind (fun xs acc H => H = G ∧ ∃ l ls : List (List Nat × Kd), xs = ls.map enc1 ∧ toL fs = l ++ ls ∧ acc = l.map fun q => pln q.2) ?_ ?_ _ _ _ ⟨rfl, [], toL fs, rfl, rfl, rfl⟩
    · rintro acc H ⟨rfl, l, ls, hx, hl, rfl⟩
      have : ls = [] := by cases ls <;> first | rfl | cases hx
      subst this
      rw [List.append_nil] at hl
      rw [← hl]
      exact hQ
    · rintro x xs acc ih H ⟨rfl, l, ls, hx, hl, rfl⟩
      cases ls with
      | nil => cases hx
      | cons p ls =>
        rw [List.map_cons] at hx
        injection hx with hx1 hx2
        subst hx1; subst hx2
        have mp : p ∈ toL fs := by rw [hl]; simp
        simp_arith [enc1, h1]
        exact ⟨p.2, rfl, (wks_eq w.2 p mp).2, by have := dps_eq p mp; omega, ih _ _ ⟨rfl, l ++ [p], ls, rfl, by rw [hl]; simp, by simp⟩⟩
theorem plain_value_ok {Γ : Gam} {vo an : Nat} (h1 : Γ.sp vo = spVO 10) (ha : Γ.gl an = .tup [.str sAny]) (ds : List D) (G : HD) (QD : KD) (XD : KX) (h : spPV ds G QD XD) :
    wSs Γ (b_plain_value vo an) { nx := fun _ H => QD .non H, rt := QD, ex := fun x _ H => XD x H } (startD 1 ds) G := by
  obtain ⟨k, rfl, w, hn, hQ⟩ := h
  simp_arith [b_plain_value, h1, ha]
  exact ⟨k, rfl, w, hn, hQ⟩
theorem full_value_ok {Γ : Gam} {pv : Nat} (h1 : Γ.sp pv = spPV) (ds : List D) (G : HD) (QD : KD) (XD : KX) (h : spFV ds G QD XD) :
    wSs Γ (b_full_value pv) { nx := fun _ H => QD .non H, rt := QD, ex := fun x _ H => XD x H } (startD 1 ds) G := by
  obtain ⟨k, rfl, w, hn, hQ⟩ := h
  cases k with
  | leaf k =>
    simp_arith [b_full_value, h1, enc, k_opt w, k_list w]
    exact ⟨.leaf k, by simp only [enc], w, hn, hQ⟩
  | recd fs =>
    simp_arith [b_full_value, h1, enc, r_opt, r_list]
    exact ⟨.recd fs, by simp only [enc], w, hn, hQ⟩
  | one o a =>
    have wa : WK a := by simpa only [WK] using w
    simp only [dp] at hn
    cases o with
    | true =>
      simp_arith [b_full_value, h1, enc, o_opt]
      exact ⟨a, rfl, wa, by omega, hQ⟩
    | false =>
      simp_arith [b_full_value, h1, enc, o_opt, o_list]
      exact ⟨a, rfl, wa, by omega, hQ⟩
end DL

namespace DL
open PySem PySem.Spec PyProof.Rows L2
/-! ### parting -/
def ptL (r : Option D) : List D := match r with | some x => [x] | none => []
def PtIn (v u t : Kd) : Prop := WK v ∧ WK u ∧ WK t ∧ (dp u ≤ 10 ∧ dp t ≤ 10) ∧ fit u t = true ∧ fit v u = true
def spPt (n : Nat) : SpD := fun ds G Q _ => ∃ v u t, ds = [enc t, enc u, enc v] ∧ PtIn v u t ∧ dp v ≤ n ∧ Q (.lst (ptL (ptg v u t))) G
def spPtR (n : Nat) : SpD := fun ds G Q _ => ∃ ks gs fs, ds = [enc (.recd fs), enc (.recd gs), enc (.recd ks)] ∧ PtIn (.recd ks) (.recd gs) (.recd fs) ∧ (0 < n ∧ dps ks ≤ n) ∧ Q (.lst (ptL (ptgs ks (toL gs) (toL fs)))) G
theorem wk_one {o : Bool} {a : Kd} (w : WK (.one o a)) : WK a := by simpa only [WK] using w
theorem parting_ok {Γ : Gam} {pr pa gl n : Nat} (h1 : Γ.sp pr = spPtR n) (h2 : Γ.sp pa = spPt n) (hg : Γ.gl gl = .tup [.str sInt, .str sText, .str sBool]) (ds : List D) (G : HD) (QD : KD) (XD : KX) (h : spPt (n + 1) ds G QD XD) :
    wSs Γ (b_parting pr pa gl) { nx := fun _ H => QD .non H, rt := QD, ex := fun x _ H => XD x H } (startD 4 ds) G := by
  obtain ⟨v, u, t, rfl, ⟨wv, wu, wt, ⟨du, dt⟩, fu, fv⟩, hn, hQ⟩ := h
  cases v with
  | leaf k =>
    simp_arith [b_parting, h1, h2, hg, enc, k_in3 wv]
    exact hQ
  | recd ks =>
    cases u with
    | leaf k => simp only [fit] at fv; cases fv
    | one o a => simp only [fit] at fv; cases fv
    | recd gs =>
      cases t with
      | leaf k => simp only [fit] at fu; cases fu
      | one o a => simp only [fit] at fu; cases fu
      | recd fs =>
        have e : ptg (.recd ks) (.recd gs) (.recd fs) = ptgs ks (toL gs) (toL fs) := by simp only [ptg]
        rw [e] at hQ
        simp only [dp] at hn
        have w2 := wv
        simp only [WK] at w2
        have pos : 0 < dps ks := by
          cases ks with
          | nil => exact absurd rfl w2.1.1
          | cons m k r => have := dpos k; simp only [dps]; omega
        simp_arith [b_parting, h1, h2, hg, enc, rec_in, r_rec]
        exact ⟨ks, gs, fs, by simp only [enc], ⟨wv, wu, wt, ⟨du, dt⟩, fu, fv⟩, ⟨by omega, by omega⟩, hQ⟩
  | one o c =>
    have wc := wk_one wv
    simp only [dp] at hn
    have rr : ∀ o, (sOne o == sRec) = false := fun o => by cases o <;> rfl
    have plain : isOneK u = false → ptg (.one o c) u t = ptg c u t ∧ fit c u = true := fun hu => by
      cases o with
      | true => rw [fit_opt, strip_i (one_opt hu)] at fv; exact ⟨(by cases u <;> first | (simp only [ptg]; done) | cases hu), fv⟩
      | false => rw [fit_lst_i hu] at fv; exact ⟨(by cases u <;> first | (simp only [ptg]; done) | cases hu), fv⟩
    cases u with
    | leaf k =>
      obtain ⟨p1, p2⟩ := plain rfl
      rw [p1] at hQ
      cases o with
      | true =>
        simp_arith [b_parting, h1, h2, hg, enc, one_in, rr, o_opt, k_list wu, k_in2 wu]
        exact ⟨c, .leaf k, t, by simp only [enc], ⟨wc, wu, wt, ⟨du, dt⟩, fu, p2⟩, by omega, hQ⟩
      | false =>
        simp_arith [b_parting, h1, h2, hg, enc, one_in, rr, o_opt, k_list wu, k_in2 wu]
        exact ⟨c, .leaf k, t, by simp only [enc], ⟨wc, wu, wt, ⟨du, dt⟩, fu, p2⟩, by omega, hQ⟩
    | recd gs =>
      obtain ⟨p1, p2⟩ := plain rfl
      rw [p1] at hQ
      cases o with
      | true =>
        simp_arith [b_parting, h1, h2, hg, enc, one_in, rr, o_opt, r_list, r_in2]
        exact ⟨c, .recd gs, t, by simp only [enc], ⟨wc, wu, wt, ⟨du, dt⟩, fu, p2⟩, by omega, hQ⟩
      | false =>
        simp_arith [b_parting, h1, h2, hg, enc, one_in, rr, o_opt, r_list, r_in2]
        exact ⟨c, .recd gs, t, by simp only [enc], ⟨wc, wu, wt, ⟨du, dt⟩, fu, p2⟩, by omega, hQ⟩
    | one o' b =>
      have wb := wk_one wu
      simp only [dp] at du
      obtain ⟨rt, et⟩ := enc_hd t
      obtain ⟨t1, t2, _⟩ := wk_hd wt
      have st : ∀ Q : Prop, (Q ↔ Q) := fun _ => Iff.rfl
      cases o' with
      | true =>
        -- u a choice
        have fv' : fit c b = true := by
          cases o with
          | true => exact fv
          | false => simp only [fit, Bool.and_eq_true] at fv; exact fv.2
        rw [fit_opt] at fu
        have e : ptg (.one o c) (.one true b) t = ptg c b (strip t) := by cases o <;> simp only [ptg]
        rw [e] at hQ
        cases ht : isOpt t with
        | true =>
          obtain ⟨a, rfl⟩ : ∃ a, t = .one true a := by
            cases t with
            | one o a => cases o <;> first | exact ⟨a, rfl⟩ | cases ht
            | leaf k => cases ht
            | recd k => cases ht
          simp only [dp] at dt
          have fin : spPt n [enc a, enc b, enc c] G QD XD := ⟨c, b, a, rfl, ⟨wc, wb, wk_one wt, ⟨by omega, by omega⟩, fu, fv'⟩, by omega, hQ⟩
          cases o <;> (simp_arith [b_parting, h1, h2, hg, enc, one_in, rr, o_opt, o_list, o_in2]; exact fin)
        | false =>
          rw [strip_i ht] at fu hQ
          rw [ht] at t1
          have fin : spPt n [enc t, enc b, enc c] G QD XD := ⟨c, b, t, rfl, ⟨wc, wb, wt, ⟨by omega, dt⟩, fu, fv'⟩, by omega, hQ⟩
          rw [et] at fin ⊢
          cases hl : isLst t with
          | true =>
            rw [hl] at t2
            cases o <;> (simp_arith [b_parting, h1, h2, hg, enc, one_in, rr, o_opt, o_list, o_in2, t1, t2]; exact fin)
          | false =>
            rw [hl] at t2
            cases o <;> (simp_arith [b_parting, h1, h2, hg, enc, one_in, rr, o_opt, o_list, o_in2, t1, t2]; exact fin)
      | false =>
        cases o with
        | true =>
          have fv' : fit c (.one false b) = true := fv
          cases ht : isOpt t with
          | true =>
            obtain ⟨a, rfl⟩ : ∃ a, t = .one true a := by
              cases t with
              | one o a => cases o <;> first | exact ⟨a, rfl⟩ | cases ht
              | leaf k => cases ht
              | recd k => cases ht
            have e : ptg (.one true c) (.one false b) (.one true a) = some .non := by simp only [ptg]
            rw [e] at hQ
            simp_arith [b_parting, h1, h2, hg, enc, one_in, rr, o_opt, o_list]
            exact hQ
          | false =>
            have e : ptg (.one true c) (.one false b) t = ptg c (.one false b) t := by
              cases t with
              | one o a => cases o <;> first | (simp only [ptg]; done) | cases ht
              | leaf k => simp only [ptg]
              | recd k => simp only [ptg]
            rw [e] at hQ
            rw [ht] at t1
            have fin : spPt n [enc t, enc (.one false b), enc c] G QD XD := ⟨c, .one false b, t, rfl, ⟨wc, wu, wt, ⟨by simp only [dp]; omega, dt⟩, fu, fv'⟩, by omega, hQ⟩
            rw [et] at fin ⊢
            simp only [enc] at fin
            simp_arith [b_parting, h1, h2, hg, enc, one_in, rr, o_opt, o_list, t1]
            exact fin
        | false =>
          have fv' : fit c b = true := by simpa only [fit] using fv
          cases t with
          | leaf k =>
            have e : ptg (.one false c) (.one false b) (.leaf k) = ptg c b (.leaf k) := by simp only [ptg]
            rw [e] at hQ
            rw [fit_lst_i rfl] at fu
            simp_arith [b_parting, h1, h2, hg, enc, one_in, rr, o_opt, o_list, o_in2, k_opt wt, k_list wt]
            exact ⟨c, b, .leaf k, by simp only [enc], ⟨wc, wb, wt, ⟨by omega, dt⟩, fu, fv'⟩, by omega, hQ⟩
          | recd fs =>
            have e : ptg (.one false c) (.one false b) (.recd fs) = ptg c b (.recd fs) := by simp only [ptg]
            rw [e] at hQ
            rw [fit_lst_i rfl] at fu
            simp_arith [b_parting, h1, h2, hg, enc, one_in, rr, o_opt, o_list, o_in2, r_opt, r_list]
            exact ⟨c, b, .recd fs, by simp only [enc], ⟨wc, wb, wt, ⟨by omega, dt⟩, fu, fv'⟩, by omega, hQ⟩
          | one o2 a =>
            have wa := wk_one wt
            simp only [dp] at dt
            cases o2 with
            | true =>
              have e : ptg (.one false c) (.one false b) (.one true a) = ptg c b a := by simp only [ptg]
              rw [e] at hQ
              simp only [fit, Bool.and_eq_true] at fu
              simp_arith [b_parting, h1, h2, hg, enc, one_in, rr, o_opt, o_list, o_in2]
              exact ⟨c, b, a, rfl, ⟨wc, wb, wa, ⟨by omega, by omega⟩, fu.2, fv'⟩, by omega, hQ⟩
            | false =>
              have e : ptg (.one false c) (.one false b) (.one false a) = (ptg c b a).map fun x => .tup [x] := by simp only [ptg]
              rw [e] at hQ
              have fu : fit b a = true := by simpa only [fit] using fu
              simp_arith [b_parting, h1, h2, hg, enc, one_in, rr, o_opt, o_list, o_in2]
              refine ⟨c, b, a, rfl, ⟨wc, wb, wa, ⟨by omega, by omega⟩, fu, fv'⟩, by omega, ?_⟩
              cases e3 : ptg c b a with
              | none => rw [e3] at hQ; exact hQ
              | some x => rw [e3] at hQ; exact hQ
end DL

namespace DL
open PySem PySem.Spec PyProof.Rows L2
theorem lcD_mp {α : Type} {step : D → HD → (Option D → HD → Prop) → Prop} {Q : List D → HD → Prop} {G : HD} (g f : α → D) : ∀ (L : List α) (acc : List D), (∀ x ∈ L, ∀ F : Option D → HD → Prop, F (some (f x)) G → step (g x) G F) → Q (acc ++ L.map f) G → lcD step Q (L.map g) acc G
  | [], acc, _, h => by simpa [lcD] using h
  | x :: L, acc, hs, h => by
    rw [List.map_cons, lcD]
    refine hs x List.mem_cons_self _ ?_
    exact lcD_mp g f L (acc ++ [f x]) (fun y hy => hs y (List.mem_cons_of_mem _ hy)) (by simpa using h)
theorem flt_fnd (n : List Nat) (l : List (List Nat × Kd)) : match fnd n l with
    | none => ((l.filter fun p => p.1 == n).map fun p => enc p.2) = []
    | some a => ∃ r, ((l.filter fun p => p.1 == n).map fun p => enc p.2) = enc a :: r := by
  rw [fnd_flt]
  cases l.filter fun p => p.1 == n with
  | nil => rfl
  | cons p r => exact ⟨_, rfl⟩
/-- the fields that are left -/
def PtL (ks gs fs : Fs) : Prop := WKs ks ∧ fits ks (toL gs) = true
theorem ptL_in {ks gs fs : Fs} {n : List Nat} {k : Kd} (h : PtL (.cons n k ks) gs fs) (hg : WK (.recd gs)) (hf : WK (.recd fs)) (du : dp (.recd gs) ≤ 10 ∧ dp (.recd fs) ≤ 10) (fu : fit (.recd gs) (.recd fs) = true) : (WK k ∧ Low n ∧ PtL ks gs fs) ∧ ∀ a b, fnd n (toL fs) = some a → fnd n (toL gs) = some b → PtIn k b a := by
  obtain ⟨w, f⟩ := h
  simp only [WKs] at w
  simp only [fits, Bool.and_eq_true] at f
  simp only [WK] at hg hf
  simp only [dp] at du
  simp only [fit] at fu
  refine ⟨⟨w.2.1, w.1, w.2.2, f.2⟩, fun a b e1 e2 => ?_⟩
  have m1 := fnd_mem e1
  have m2 := fnd_mem e2
  have d1 := dps_eq _ m1
  have d2 := dps_eq _ m2
  have f' := at_field fu e2
  simp only [e1] at f'
  have f2 := f.1
  simp only [e2] at f2
  exact ⟨w.2.1, (wks_eq hg.2 _ m2).2, (wks_eq hf.2 _ m1).2, ⟨by dsimp only at d2; omega, by dsimp only at d1; omega⟩, f', f2⟩
section
variable {n : List Nat} {k a b : Kd} {ks : Fs} {gs fs : List (List Nat × Kd)}
theorem ptgs_nn (e1 : fnd n fs = none) (e2 : fnd n gs = none) : ptgs (.cons n k ks) gs fs = ptgs ks gs fs := by simp only [ptgs, e1, e2]
theorem ptgs_nb (e1 : fnd n fs = none) (e2 : fnd n gs = some b) : ptgs (.cons n k ks) gs fs = if (isLst b && isOpt k) = true then some (.tup (fs.map fun q => pln q.2)) else ptgs ks gs fs := by simp only [ptgs, e1, e2]
theorem ptgs_an (e1 : fnd n fs = some a) (e2 : fnd n gs = none) : ptgs (.cons n k ks) gs fs = some (.tup (fs.map fun q => if (q.1 == n) = true then ful a else pln q.2)) := by simp only [ptgs, e1, e2]
theorem ptgs_ab (e1 : fnd n fs = some a) (e2 : fnd n gs = some b) : ptgs (.cons n k ks) gs fs = match ptg k b a with | some x => some (.tup (fs.map fun q => if (q.1 == n) = true then x else pln q.2)) | none => ptgs ks gs fs := by simp only [ptgs, e1, e2]; all_goals (cases ptg k b a <;> rfl)
end
theorem parting_record_ok {Γ : Gam} {fo pa fv pv n : Nat} (h1 : Γ.sp fo = spFieldOf) (h2 : Γ.sp pa = spPt n) (h3 : Γ.sp fv = spFV) (h4 : Γ.sp pv = spPV) (ds : List D) (G : HD) (QD : KD) (XD : KX) (h : spPtR n ds G QD XD) :
    wSs Γ (b_parting_record fo pa fv pv) { nx := fun _ H => QD .non H, rt := QD, ex := fun x _ H => XD x H } (startD 10 ds) G := by
  obtain ⟨ks, gs, fs, rfl, ⟨wv, wu, wt, du, fu, fv'⟩, ⟨_, hn⟩, hQ⟩ := h
  have wv2 := wv
  have wt2 := wt
  simp only [WK] at wv2 wt2
  have df : dps fs + 1 ≤ 10 := by have := du.2; simp only [dp] at this; omega
  simp only [fit] at fv'
  simp_arith [b_parting_record, enc, h1, h2, h3, h4]
  have kinds : ∀ q ∈ toL fs, WK q.2 ∧ dp q.2 ≤ 10 := fun q hq => ⟨(wks_eq wt2.2 q hq).2, by have := dps_eq q hq; omega⟩
  refine wFor_ind (fun xs σ H => H = G ∧ ∃ (ls : Fs) (o3 o4 o5 o6 o7 o8 o9 : Option D), xs = encs ls ∧ PtL ls gs fs ∧ dps ls ≤ n ∧ ptgs ks (toL gs) (toL fs) = ptgs ls (toL gs) (toL fs) ∧ σ = [some (.tup [.str sRec, .tup (encs fs)]), some (.tup [.str sRec, .tup (encs gs)]), some (.tup [.str sRec, .tup (encs ks)]), o3, o4, o5, o6, o7, o8, o9]) ?_ ?_ _ _ _ ⟨rfl, ks, none, none, none, none, none, none, none, rfl, ⟨wv2.2, fv'⟩, hn, rfl, rfl⟩
  · rintro σ H ⟨rfl, ls, o3, o4, o5, o6, o7, o8, o9, hx, _, _, he, rfl⟩
    cases ls with
    | cons _ _ _ => simp only [encs] at hx; cases hx
    | nil =>
      rw [he] at hQ
      simp_arith []
      exact hQ
  · rintro x xs ih σ H ⟨rfl, ls, o3, o4, o5, o6, o7, o8, o9, hx, hl, hdl, he, rfl⟩
    cases ls with
    | nil => simp only [encs] at hx; cases hx
    | cons m k ls =>
      simp only [encs] at hx
      injection hx with hx1 hx2
      subst hx1; subst hx2
      obtain ⟨⟨wk, _, hl'⟩, both⟩ := ptL_in hl wu wt du fu
      simp only [dps] at hdl
      have fa := flt_fnd m (toL fs)
      have fb := flt_fnd m (toL gs)
      have go := fun o5 o6 o7 (e : ptgs (.cons m k ls) (toL gs) (toL fs) = ptgs ls (toL gs) (toL fs)) => ih [some (.tup [.str sRec, .tup (encs fs)]), some (.tup [.str sRec, .tup (encs gs)]), some (.tup [.str sRec, .tup (encs ks)]), some (.str m), some (enc k), o5, o6, o7, o8, o9] H ⟨rfl, ls, _, _, _, _, _, _, _, rfl, hl', by omega, by rw [he, e], rfl⟩
      simp_arith []
      refine ⟨fs, m, by simp only [enc], ?_⟩
      simp_arith []
      refine ⟨gs, m, by simp only [enc], ?_⟩
      have e0 : ∀ n : Nat, ((n + 1) != 0) = true := fun n => by simp
      have fin : ∀ (y : D) (E : List D → HD → Prop), E ((toL fs).map fun q => if (q.1 == m) = true then y else pln q.2) H → ∀ (step : D → HD → (Option D → HD → Prop) → Prop), (∀ q ∈ toL fs, ∀ F : Option D → HD → Prop, F (some (if (q.1 == m) = true then y else pln q.2)) H → step (enc1 q) H F) → lcD step E (encs fs) [] H := fun y E hE step hs => by
        rw [encs_eq]
        exact lcD_mp enc1 _ (toL fs) [] hs (by rw [List.nil_append]; exact hE)
      cases e1 : fnd m (toL fs) with
      | none =>
        simp only [e1] at fa
        rw [fa]
        cases e2 : fnd m (toL gs) with
        | none =>
          simp only [e2] at fb
          rw [fb]
          simp_arith []
          exact go _ _ _ (ptgs_nn e1 e2)
        | some b =>
          have q := ptgs_nb (k := k) (ks := ls) e1 e2
          simp only [e2] at fb
          obtain ⟨r, fb⟩ := fb
          rw [fb]
          have wb : WK b := (wks_eq (by simp only [WK] at wu; exact wu.2) _ (fnd_mem e2)).2
          obtain ⟨rb, eb⟩ := enc_hd b
          obtain ⟨rk, ek⟩ := enc_hd k
          have hb := (wk_hd wb).2.1
          have hk := (wk_hd wk).1
          have i1 : ∀ H, idxD (enc b) (.int 0) H = some (.str (hd b)) := fun H => by rw [eb]; simp_arith []
          have i2 : ∀ H, idxD (enc k) (.int 0) H = some (.str (hd k)) := fun H => by rw [ek]; simp_arith []
          cases hlb : isLst b with
          | false =>
            rw [hlb] at hb q
            simp_arith [e0, i1, hb]
            exact go _ _ _ q
          | true =>
            rw [hlb] at hb q
            cases hok : isOpt k with
            | false =>
              rw [hok] at hk q
              simp_arith [e0, i1, i2, hb, hk]
              exact go _ _ _ q
            | true =>
              rw [hok] at hk q
              simp_arith [e0, i1, i2, hb, hk, h4]
              refine ⟨.recd fs, by simp only [enc], wt, du.2, ?_⟩
              simp_arith []
              rw [he, q] at hQ
              simp only [pln, plns_eq]
              exact hQ
      | some a =>
        simp only [e1] at fa
        obtain ⟨ra, fa⟩ := fa
        rw [fa]
        have ka := kinds _ (fnd_mem e1)
        cases e2 : fnd m (toL gs) with
        | none =>
          simp only [e2] at fb
          rw [fb]
          simp_arith [e0, h3]
          refine ⟨a, rfl, ka.1, ka.2, ?_⟩
          simp_arith [h4]
          refine fin (ful a) _ ?_ _ fun q hq F hF => ?_
          · rw [he, ptgs_an e1 e2] at hQ
            exact hQ
          · simp_arith [enc1]
            cases e : (q.1 == m) with
            | true => rw [e] at hF; exact hF
            | false =>
              rw [e] at hF
              exact ⟨q.2, rfl, (kinds q hq).1, (kinds q hq).2, hF⟩
        | some b =>
          have q := ptgs_ab (k := k) (ks := ls) e1 e2
          simp only [e2] at fb
          obtain ⟨r, fb⟩ := fb
          rw [fb]
          simp_arith [e0, h2]
          refine ⟨k, b, a, rfl, both a b e1 e2, by omega, ?_⟩
          cases e3 : ptg k b a with
          | none =>
            rw [e3] at q
            simp_arith [ptL]
            exact go _ _ _ q
          | some x =>
            rw [e3] at q
            simp_arith [ptL, h4]
            refine fin x _ ?_ _ fun q hq F hF => ?_
            · rw [he, q] at hQ
              exact hQ
            · simp_arith [enc1]
              cases e : (q.1 == m) with
              | true => rw [e] at hF; exact hF
              | false =>
                rw [e] at hF
                exact ⟨q.2, rfl, (kinds q hq).1, (kinds q hq).2, hF⟩
end DL

namespace DL
open PySem PySem.Spec PyProof.Rows L2
/-! ### the law's own parting -/
def spLP (n : Nat) : SpD := fun ds G Q _ => ∃ v u t, ds = [enc t, enc u, enc v] ∧ PtIn v u t ∧ dp v ≤ n ∧ Q (.bl (ptg v u t).isSome) G
theorem law_parts_ok {Γ : Gam} {lp pa n : Nat} (h1 : Γ.sp lp = spPart) (h2 : Γ.sp pa = spLP n) (ds : List D) (G : HD) (QD : KD) (XD : KX) (h : spLP (n + 1) ds G QD XD) :
    wSs Γ (b_law_parts lp pa) { nx := fun _ H => QD .non H, rt := QD, ex := fun x _ H => XD x H } (startD 6 ds) G := by
  obtain ⟨v, u, t, rfl, ⟨wv, wu, wt, ⟨du, dt⟩, fu, fv⟩, hn, hQ⟩ := h
  cases v with
  | leaf k =>
    simp_arith [b_law_parts, h1, h2, enc, k_in3 wv]
    exact hQ
  | recd ks =>
    cases u with
    | leaf k => simp only [fit] at fv; cases fv
    | one o a => simp only [fit] at fv; cases fv
    | recd gs =>
      cases t with
      | leaf k => simp only [fit] at fu; cases fu
      | one o a => simp only [fit] at fu; cases fu
      | recd fs =>
        have e : ptg (.recd ks) (.recd gs) (.recd fs) = ptgs ks (toL gs) (toL fs) := by simp only [ptg]
        rw [e] at hQ
        simp only [dp] at hn
        have wv2 := wv
        simp only [WK] at wv2
        have fv' := fv
        simp only [fit] at fv'
        simp_arith [b_law_parts, h1, h2, enc, rec_in, r_rec]
        refine wFor_ind (fun xs σ H => H = G ∧ ∃ (ls : Fs) (o3 o4 o5 : Option D), xs = encs ls ∧ PtL ls gs fs ∧ dps ls ≤ n ∧ ptgs ks (toL gs) (toL fs) = ptgs ls (toL gs) (toL fs) ∧ σ = [some (.tup [.str sRec, .tup (encs fs)]), some (.tup [.str sRec, .tup (encs gs)]), some (.tup [.str sRec, .tup (encs ks)]), o3, o4, o5]) ?_ ?_ _ _ _ ⟨rfl, ks, none, none, none, rfl, ⟨wv2.2, fv'⟩, by omega, rfl, rfl⟩
        · rintro σ H ⟨rfl, ls, o3, o4, o5, hx, _, _, he, rfl⟩
          cases ls with
          | cons _ _ _ => simp only [encs] at hx; cases hx
          | nil =>
            rw [he] at hQ
            exact hQ
        · rintro x xs ih σ H ⟨rfl, ls, o3, o4, o5, hx, hl, hdl, he, rfl⟩
          cases ls with
          | nil => simp only [encs] at hx; cases hx
          | cons m k ls =>
            simp only [encs] at hx
            injection hx with hx1 hx2
            subst hx1; subst hx2
            obtain ⟨⟨wk, _, hl'⟩, both⟩ := ptL_in hl wu wt ⟨du, dt⟩ fu
            simp only [dps] at hdl
            have go := fun o3 o4 o5 (e : ptgs (.cons m k ls) (toL gs) (toL fs) = ptgs ls (toL gs) (toL fs)) => ih [some (.tup [.str sRec, .tup (encs fs)]), some (.tup [.str sRec, .tup (encs gs)]), some (.tup [.str sRec, .tup (encs ks)]), o3, o4, o5] H ⟨rfl, ls, _, _, _, rfl, hl', by omega, by rw [he, e], rfl⟩
            have en : ∀ (k : Kd) H, cmpD .nisn (enc k) .non H = some true := fun k H => by
              obtain ⟨r, e⟩ := enc_hd k
              rw [e]; rfl
            have ei : ∀ (k : Kd) H, cmpD .isn (enc k) .non H = some false := fun k H => by
              obtain ⟨r, e⟩ := enc_hd k
              rw [e]; rfl
            simp_arith []
            refine ⟨fs, m, by simp only [enc], ?_⟩
            simp_arith []
            refine ⟨gs, m, by simp only [enc], ?_⟩
            cases e1 : fnd m (toL fs) with
            | none =>
              cases e2 : fnd m (toL gs) with
              | none =>
                simp_arith []
                exact go _ _ _ (ptgs_nn e1 e2)
              | some b =>
                have q := ptgs_nb (k := k) (ks := ls) e1 e2
                have wb : WK b := (wks_eq (by simp only [WK] at wu; exact wu.2) _ (fnd_mem e2)).2
                obtain ⟨rb, eb⟩ := enc_hd b
                obtain ⟨rk, ek⟩ := enc_hd k
                have hb := (wk_hd wb).2.1
                have hk := (wk_hd wk).1
                have i1 : ∀ H, idxD (enc b) (.int 0) H = some (.str (hd b)) := fun H => by rw [eb]; simp_arith []
                have i2 : ∀ H, idxD (enc k) (.int 0) H = some (.str (hd k)) := fun H => by rw [ek]; simp_arith []
                cases hlb : isLst b with
                | false =>
                  rw [hlb] at hb q
                  simp_arith [en, ei, i1, hb]
                  exact go _ _ _ q
                | true =>
                  rw [hlb] at hb q
                  cases hok : isOpt k with
                  | false =>
                    rw [hok] at hk q
                    simp_arith [en, ei, i1, i2, hb, hk]
                    exact go _ _ _ q
                  | true =>
                    rw [hok] at hk q
                    simp_arith [en, ei, i1, i2, hb, hk]
                    rw [he, q] at hQ
                    exact hQ
            | some a =>
              cases e2 : fnd m (toL gs) with
              | none =>
                simp_arith [en, ei]
                rw [he, ptgs_an e1 e2] at hQ
                exact hQ
              | some b =>
                have q := ptgs_ab (k := k) (ks := ls) e1 e2
                simp_arith [en, ei]
                refine ⟨k, b, a, rfl, both a b e1 e2, by omega, ?_⟩
                cases e3 : ptg k b a with
                | none =>
                  rw [e3] at q
                  simp_arith [en, ei]
                  exact go _ _ _ q
                | some x =>
                  rw [e3] at q
                  simp_arith [en, ei]
                  rw [he, q] at hQ
                  exact hQ
  | one o c =>
    have wc := wk_one wv
    simp only [dp] at hn
    have rr : ∀ o, (sOne o == sRec) = false := fun o => by cases o <;> rfl
    have plain : isOneK u = false → ptg (.one o c) u t = ptg c u t ∧ fit c u = true := fun hu => by
      cases o with
      | true => rw [fit_opt, strip_i (one_opt hu)] at fv; exact ⟨(by cases u <;> first | (simp only [ptg]; done) | cases hu), fv⟩
      | false => rw [fit_lst_i hu] at fv; exact ⟨(by cases u <;> first | (simp only [ptg]; done) | cases hu), fv⟩
    cases u with
    | leaf k =>
      obtain ⟨p1, p2⟩ := plain rfl
      rw [p1] at hQ
      cases o with
      | true =>
        simp_arith [b_law_parts, h1, h2, enc, one_in, rr, o_opt, k_list wu, k_in2 wu]
        exact ⟨c, .leaf k, t, by simp only [enc], ⟨wc, wu, wt, ⟨du, dt⟩, fu, p2⟩, by omega, hQ⟩
      | false =>
        simp_arith [b_law_parts, h1, h2, enc, one_in, rr, o_opt, k_list wu, k_in2 wu]
        exact ⟨c, .leaf k, t, by simp only [enc], ⟨wc, wu, wt, ⟨du, dt⟩, fu, p2⟩, by omega, hQ⟩
    | recd gs =>
      obtain ⟨p1, p2⟩ := plain rfl
      rw [p1] at hQ
      cases o with
      | true =>
        simp_arith [b_law_parts, h1, h2, enc, one_in, rr, o_opt, r_list, r_in2]
        exact ⟨c, .recd gs, t, by simp only [enc], ⟨wc, wu, wt, ⟨du, dt⟩, fu, p2⟩, by omega, hQ⟩
      | false =>
        simp_arith [b_law_parts, h1, h2, enc, one_in, rr, o_opt, r_list, r_in2]
        exact ⟨c, .recd gs, t, by simp only [enc], ⟨wc, wu, wt, ⟨du, dt⟩, fu, p2⟩, by omega, hQ⟩
    | one o' b =>
      have wb := wk_one wu
      simp only [dp] at du
      obtain ⟨rt, et⟩ := enc_hd t
      obtain ⟨t1, t2, t3⟩ := wk_hd wt
      cases o' with
      | true =>
        have fv' : fit c b = true := by
          cases o with
          | true => exact fv
          | false => simp only [fit, Bool.and_eq_true] at fv; exact fv.2
        rw [fit_opt] at fu
        have e : ptg (.one o c) (.one true b) t = ptg c b (strip t) := by cases o <;> simp only [ptg]
        rw [e] at hQ
        cases ht : isOpt t with
        | true =>
          obtain ⟨a, rfl⟩ : ∃ a, t = .one true a := by
            cases t with
            | one o a => cases o <;> first | exact ⟨a, rfl⟩ | cases ht
            | leaf k => cases ht
            | recd k => cases ht
          simp only [dp] at dt
          have fin : spLP n [enc a, enc b, enc c] G QD XD := ⟨c, b, a, rfl, ⟨wc, wb, wk_one wt, ⟨by omega, by omega⟩, fu, fv'⟩, by omega, hQ⟩
          cases o <;> (simp_arith [b_law_parts, h1, h2, enc, one_in, rr, o_opt, o_list, o_in2]; exact fin)
        | false =>
          rw [strip_i ht] at fu hQ
          rw [ht] at t1
          have fin : spLP n [enc t, enc b, enc c] G QD XD := ⟨c, b, t, rfl, ⟨wc, wb, wt, ⟨by omega, dt⟩, fu, fv'⟩, by omega, hQ⟩
          rw [et] at fin ⊢
          cases hl : isOneK t with
          | true =>
            rw [hl] at t3
            cases o <;> (simp_arith [b_law_parts, h1, h2, enc, one_in, rr, o_opt, o_list, o_in2, t1, t3]; exact fin)
          | false =>
            rw [hl] at t3
            cases o <;> (simp_arith [b_law_parts, h1, h2, enc, one_in, rr, o_opt, o_list, o_in2, t1, t3]; exact fin)
      | false =>
        cases o with
        | true =>
          have fv' : fit c (.one false b) = true := fv
          cases ht : isOpt t with
          | true =>
            obtain ⟨a, rfl⟩ : ∃ a, t = .one true a := by
              cases t with
              | one o a => cases o <;> first | exact ⟨a, rfl⟩ | cases ht
              | leaf k => cases ht
              | recd k => cases ht
            have e : ptg (.one true c) (.one false b) (.one true a) = some .non := by simp only [ptg]
            rw [e] at hQ
            simp_arith [b_law_parts, h1, h2, enc, one_in, rr, o_opt, o_list]
            exact hQ
          | false =>
            have e : ptg (.one true c) (.one false b) t = ptg c (.one false b) t := by
              cases t with
              | one o a => cases o <;> first | (simp only [ptg]; done) | cases ht
              | leaf k => simp only [ptg]
              | recd k => simp only [ptg]
            rw [e] at hQ
            rw [ht] at t1
            have fin : spLP n [enc t, enc (.one false b), enc c] G QD XD := ⟨c, .one false b, t, rfl, ⟨wc, wu, wt, ⟨by simp only [dp]; omega, dt⟩, fu, fv'⟩, by omega, hQ⟩
            rw [et] at fin ⊢
            simp only [enc] at fin
            simp_arith [b_law_parts, h1, h2, enc, one_in, rr, o_opt, o_list, t1]
            exact fin
        | false =>
          have fv' : fit c b = true := by simpa only [fit] using fv
          cases t with
          | leaf k =>
            have e : ptg (.one false c) (.one false b) (.leaf k) = ptg c b (.leaf k) := by simp only [ptg]
            rw [e] at hQ
            rw [fit_lst_i rfl] at fu
            simp_arith [b_law_parts, h1, h2, enc, one_in, rr, o_opt, o_list, o_in2, k_in2 wt]
            exact ⟨c, b, .leaf k, by simp only [enc], ⟨wc, wb, wt, ⟨by omega, dt⟩, fu, fv'⟩, by omega, hQ⟩
          | recd fs =>
            have e : ptg (.one false c) (.one false b) (.recd fs) = ptg c b (.recd fs) := by simp only [ptg]
            rw [e] at hQ
            rw [fit_lst_i rfl] at fu
            simp_arith [b_law_parts, h1, h2, enc, one_in, rr, o_opt, o_list, o_in2, r_in2]
            exact ⟨c, b, .recd fs, by simp only [enc], ⟨wc, wb, wt, ⟨by omega, dt⟩, fu, fv'⟩, by omega, hQ⟩
          | one o2 a =>
            have wa := wk_one wt
            simp only [dp] at dt
            cases o2 with
            | true =>
              have e : ptg (.one false c) (.one false b) (.one true a) = ptg c b a := by simp only [ptg]
              rw [e] at hQ
              simp only [fit, Bool.and_eq_true] at fu
              simp_arith [b_law_parts, h1, h2, enc, one_in, rr, o_opt, o_list, o_in2]
              exact ⟨c, b, a, rfl, ⟨wc, wb, wa, ⟨by omega, by omega⟩, fu.2, fv'⟩, by omega, hQ⟩
            | false =>
              have e : ptg (.one false c) (.one false b) (.one false a) = (ptg c b a).map fun x => .tup [x] := by simp only [ptg]
              rw [e] at hQ
              have fu : fit b a = true := by simpa only [fit] using fu
              simp_arith [b_law_parts, h1, h2, enc, one_in, rr, o_opt, o_list, o_in2]
              refine ⟨c, b, a, rfl, ⟨wc, wb, wa, ⟨by omega, by omega⟩, fu, fv'⟩, by omega, ?_⟩
              rw [Option.isSome_map] at hQ
              exact hQ
end DL

namespace DL
open PySem PySem.Spec PyProof.Rows L2
/-! ### _law_same, either answer -/
def PlT : Nat → D → Prop
  | 0, _ => False
  | n + 1, d => match d with
    | .non | .bl _ | .int _ | .str _ => True
    | .tup ds => ds.length ≤ lim ∧ ∀ x ∈ ds, PlT n x
    | _ => False
theorem PlT.mono : ∀ {n m : Nat} {d : D}, n ≤ m → PlT n d → PlT m d
  | 0, _, _, _, h => h.elim
  | n + 1, 0, _, hm, _ => by omega
  | n + 1, m + 1, d, hm, h => by
    cases d <;> first | trivial | exact h.elim | exact ⟨h.1, fun x hx => PlT.mono (by omega) (h.2 x hx)⟩
mutual
theorem vk_plt : ∀ (k : Kd) (v : D), WK k → VK k v → PlT (dp k) v
  | .leaf k, v, _, h => by
    simp only [VK] at h
    simp only [dp]
    rcases h with ⟨_, i, rfl, _⟩ | ⟨_, s, rfl, _⟩ | ⟨_, b, rfl⟩ <;> trivial
  | .one true a, v, w, h => by
    simp only [WK] at w
    simp only [VK] at h
    simp only [dp]
    rcases h with rfl | h
    · trivial
    · exact PlT.mono (by omega) (vk_plt a v w h)
  | .one false a, v, w, h => by
    simp only [WK] at w
    simp only [VK] at h
    obtain ⟨vs, rfl, hl, hv⟩ := h
    have hlim : lim = 16777216 := rfl
    simp only [dp]
    exact ⟨by omega, fun x hx => vk_plt a x w (hv x hx)⟩
  | .recd fs, v, w, h => by
    simp only [WK] at w
    simp only [VK] at h
    obtain ⟨vs, rfl, hv⟩ := h
    have hlim : lim = 16777216 := rfl
    have hl := vks_len hv
    simp only [dp]
    exact ⟨by have := w.1.2; omega, vks_plt fs vs w.2 hv⟩
theorem vks_plt : ∀ (fs : Fs) (vs : List D), WKs fs → VKs fs vs → ∀ x ∈ vs, PlT (dps fs) x
  | .nil, vs, _, h, x, hx => by simp only [VKs] at h; subst h; cases hx
  | .cons n k fs, vs, w, h, x, hx => by
    simp only [WKs] at w
    simp only [VKs] at h
    obtain ⟨v, r, rfl, h1, h2⟩ := h
    simp only [dps]
    rcases List.mem_cons.mp hx with rfl | hx
    · exact PlT.mono (by omega) (vk_plt k _ w.2.1 h1)
    · exact PlT.mono (by omega) (vks_plt fs r w.2.2 h2 x hx)
end
def spSameD (n : Nat) : SpD := fun ds G Q _ => ∃ t d, ds = [t, d] ∧ PlT n t ∧ PlT n d ∧ ∀ b : Bool, (b = true ↔ t = d) → Q (.bl b) G
theorem sameD_ok {Γ : Gam} {sm n : Nat} (h4 : Γ.sp sm = spSameD n) (ds : List D) (G : HD) (QD : KD) (XD : KX) (h : spSameD (n + 1) ds G QD XD) : wSs Γ (b_same sm) { nx := fun _ H => QD .non H, rt := QD, ex := fun x _ H => XD x H } (startD 3 ds) G := by
  obtain ⟨t, d, rfl, pt, pd, hQ⟩ := h
  have seqs : ∀ (ts ds : List D), ts.length = ds.length → (∀ x ∈ ts, PlT n x) → (∀ x ∈ ds, PlT n x) → (∀ b : Bool, (b = true ↔ ts = ds) → QD (.bl b) G) →
      lcD (fun x H2 K => ok (idxD (.tup ts) x H2) fun u => ok (idxD (.tup ds) x H2) fun v => spSameD n [u, v] H2 (fun w H4 => K (some w) H4) fun _ _ => False) (fun acc H2 => ok (blsOf acc) fun bs => QD (.bl (bs.all id)) H2) (rngL (0, ds.length, 1)) [] G := by
    intro ts ds hl p1 p2 hq
    have e0 : rngL (0, ds.length, 1) = rngF 1 (ds.length - ([] : List Bool).length) (([] : List Bool).length : Nat) := rfl
    rw [e0]
    refine lcD_ind (fun xs acc H => H = G ∧ ∃ bs : List Bool, xs = rngF 1 (ds.length - bs.length) (bs.length : Nat) ∧ bs.length ≤ ds.length ∧ acc = bs.map D.bl ∧ (bs.all id = true ↔ ts.take bs.length = ds.take bs.length)) ?_ ?_ _ _ _ ⟨rfl, [], rfl, Nat.zero_le _, rfl, by simp⟩
    · rintro acc H ⟨rfl, bs, hx, hl2, rfl, he⟩
      have hz : ds.length - bs.length = 0 := by
        cases q : ds.length - bs.length with
        | zero => rfl
        | succ n => rw [q] at hx; cases hx
      rw [List.take_of_length_le (by omega), List.take_of_length_le (by omega)] at he
      rw [bls_map, ok_some]
      exact hq _ he
    · rintro x xs acc ih H ⟨rfl, bs, hx, hl2, rfl, he⟩
      obtain ⟨m, hm, rfl, rfl⟩ := rngF_cons hx
      have hk : bs.length < ds.length := by omega
      rw [show idxD (.tup ts) (.int (bs.length : Nat)) H = atI ts (bs.length : Nat) from rfl, show idxD (.tup ds) (.int (bs.length : Nat)) H = atI ds (bs.length : Nat) from rfl, at_nat, at_nat, List.getElem?_eq_getElem hk, List.getElem?_eq_getElem (by omega), ok_some, ok_some]
      refine ⟨_, _, rfl, p1 _ (List.getElem_mem _), p2 _ (List.getElem_mem _), fun b hb => ?_⟩
      refine ih _ _ ⟨rfl, bs ++ [b], ?_, by simp; omega, by simp, ?_⟩
      · rw [List.length_append, List.length_singleton]
        have : m = ds.length - (bs.length + 1) := by omega
        rw [← this]
        congr 1
      · rw [List.all_append, List.length_append, List.length_singleton, List.take_add_one, List.take_add_one, List.getElem?_eq_getElem hk, List.getElem?_eq_getElem (by omega)]
        simp only [Bool.and_eq_true, Option.toList_some]
        rw [he]
        constructor
        · rintro ⟨q1, q2⟩
          rw [q1]
          simp only [List.all_cons, List.all_nil, Bool.and_true, id] at q2
          rw [hb.mp q2]
        · intro q
          have hlen : (ts.take bs.length).length = (ds.take bs.length).length := by simp; omega
          obtain ⟨q1, q2⟩ := List.append_inj q hlen
          refine ⟨q1, ?_⟩
          simp only [List.all_cons, List.all_nil, Bool.and_true, id]
          exact hb.mpr (by injection q2)
  have rg : ∀ (es : List D), es.length ≤ lim → rngD [.int es.length] = some (0, es.length, 1) := fun es hl => by
    have : lim = 16777216 := rfl
    rw [q_rng1 ⟨by omega, by omega⟩, Int.toNat_natCast]
  cases d <;> (try exact pd.elim) <;> cases t <;> (try exact pt.elim)
  all_goals first
    | (simp_arith [b_same, h4]; exact hQ _ (by simp))
    | skip
  · rename_i es ts
    by_cases hl : ts.length = es.length
    · simp_arith [b_same, h4, hl, beq_self_eq_true]
      rw [rg es pd.1, ok_some]
      exact And.intro pd.1 (seqs ts es hl pt.2 pd.2 fun b hb => hQ b (by rw [hb]; exact ⟨fun z => by rw [z], fun z => by injection z⟩))
    · have e : ((ts.length : Int) == (es.length : Int)) = false := by
        rw [beq_eq_false_iff_ne]
        exact fun z => hl (by exact_mod_cast z)
      simp_arith [b_same, h4, e]
      exact hQ _ (by
        constructor
        · intro z; cases z
        · intro z; injection z with z; exact absurd (by rw [z]) hl)
end DL

namespace DL
open PySem PySem.Spec PyProof.Rows L2
/-! ### ways -/
def b_law_is_told (l_fits cways l_same l_parts cis_row l_moved l_value : Nat) : Ss :=
 (.c (.ite (.bo false (.c (.nt (.of (.call l_fits (.c (.var 1) (.c (.var 2) .n))))) (.c (.nt (.of (.call l_fits (.c (.var 2) (.c (.var 3) .n))))) .n))) (.c (.tri (.c (.ex (.call cways (.c (.var 1) (.c (.var 2) (.c (.var 3) .n)))))
 (.c (.ret (.con (.bl false)))
 .n)) 1 (some 7) (.ret (.boo true (.c (.isc 7 (some 0)) (.c (.isc 7 none) .n)))))
 .n) .n)
 (.c (.set 4 (.call cways (.c (.var 1) (.c (.var 2) (.c (.var 3) .n)))))
 (.c (.ite (.nt (.of (.call l_fits (.c (.var 1) (.c (.var 3) .n))))) (.c (.ret (.call l_same (.c (.var 4) (.c (.con (.str [117, 110, 102, 105, 116])) .n))))
 .n) .n)
 (.c (.ite (.of (.call l_parts (.c (.var 1) (.c (.var 2) (.c (.var 3) .n))))) (.c (.ite (.bo false (.c (.nt (.of (.isi (.var 4) [.tuple]))) (.c (.cmp .nisn (.call cis_row (.c (.var 1) (.c (.var 4) .n))) (.con (.bl true))) .n))) (.c (.ret (.con (.bl false)))
 .n) .n)
 (.c (.ret (.nt (.call l_same (.c (.call l_moved (.c (.var 1) (.c (.var 3) (.c (.var 4) .n)))) (.c (.call l_moved (.c (.var 2) (.c (.var 3) (.c (.call l_moved (.c (.var 1) (.c (.var 2) (.c (.var 4) .n)))) .n)))) .n)))))
 .n)) .n)
 (.c (.ite (.nt (.of (.call l_same (.c (.var 4) (.c (.con (.str [115, 97, 109, 101])) .n))))) (.c (.ret (.con (.bl false)))
 .n) .n)
 (.c (.for_ (.n 5) (.rng (.c (.con (.int 2)) .n)) (.c (.set 6 (.call l_value (.c (.var 0) (.c (.var 1) (.c (.lst false (.c (.con (.int 8)) .n)) .n)))))
 (.c (.ite (.nt (.of (.call l_same (.c (.call l_moved (.c (.var 1) (.c (.var 3) (.c (.var 6) .n)))) (.c (.call l_moved (.c (.var 2) (.c (.var 3) (.c (.call l_moved (.c (.var 1) (.c (.var 2) (.c (.var 6) .n)))) .n)))) .n))))) (.c (.ret (.con (.bl false)))
 .n) .n)
 .n)))
 (.c (.ret (.con (.bl true)))
 .n)))))))
def waysR (v u t : Kd) : Option D := if (fit u t && fit v u) = true then some (if fit v t = true then (match ptg v u t with | some x => x | none => .str sSame) else .str sUnfit) else none
def ChD (k : Kd) : Prop := Wf k ∧ dp k ≤ 9
def spWays : SpD := fun ds G Q X => ∃ v u t, ds = [enc t, enc u, enc v] ∧ (ChD v ∧ ChD u ∧ ChD t) ∧ (match waysR v u t with | some d => Q d G | none => X 1 G)
theorem ways_ok {Γ : Gam} {cc df pa : Nat} (h1 : Γ.sp cc = spCheck) (h2 : Γ.sp df = spFit 10) (h3 : Γ.sp pa = spPt 10) (ds : List D) (G : HD) (QD : KD) (XD : KX) (h : spWays ds G QD XD) :
    wSs Γ (b_ways cc df pa) { nx := fun _ H => QD .non H, rt := QD, ex := fun x _ H => XD x H } (startD 4 ds) G := by
  obtain ⟨v, u, t, rfl, ⟨⟨wv, dv⟩, ⟨wu, du⟩, wt, dt⟩, hQ⟩ := h
  have kv := wk_of _ wv
  have ku := wk_of _ wu
  have kt := wk_of _ wt
  simp_arith [b_ways, h1, h2, h3]
  have ch : Chs 10 [t, u, v] := ⟨fun k hk => by
    simp only [List.mem_cons, List.not_mem_nil, or_false] at hk
    rcases hk with rfl | rfl | rfl
    · exact ⟨kt, by omega⟩
    · exact ⟨ku, by omega⟩
    · exact ⟨kv, by omega⟩, by show 3 ≤ 1000; decide⟩
  have fc : fitc [t, u, v] = (fit u t && fit v u) := by
    rw [fitc_cons, fitc_cons]
    show (fit u t && (fit v u && true)) = _
    rw [Bool.and_true]
  unfold waysR at hQ
  refine ⟨[t, u, v], rfl, ch, fun f => ?_, fun f => ?_⟩
  · rw [fc] at f
    rw [if_pos f] at hQ
    rw [Bool.and_eq_true] at f
    refine ⟨t, v, rfl, kt, kv, by omega, ?_⟩
    cases e3 : fit v t with
    | false =>
      rw [e3] at hQ
      simp_arith []
      exact hQ
    | true =>
      rw [e3] at hQ
      simp_arith []
      refine ⟨v, u, t, rfl, ⟨kv, ku, kt, ⟨by omega, by omega⟩, f.1, f.2⟩, by omega, ?_⟩
      cases e4 : ptg v u t with
      | none =>
        rw [e4] at hQ
        simp_arith [ptL]
        exact hQ
      | some x =>
        rw [e4] at hQ
        simp_arith [ptL]
        exact hQ
  · rw [fc] at f
    rw [f] at hQ
    exact hQ
def spIsTold : SpD := fun ds G Q _ => ∃ v u t, ds = [.rnd, enc t, enc u, enc v] ∧ (ChK v ∧ ChK u ∧ ChK t) ∧ ∀ H, Q (.bl true) H
theorem is_told_ok {Γ : Gam} {lf wy sm lp ir mo va : Nat} (h1 : Γ.sp lf = spFit 10) (h2 : Γ.sp wy = spWays) (h3 : Γ.sp sm = spSameD 12) (h4 : Γ.sp lp = spLP 10) (h5 : Γ.sp ir = spIsVal) (h6 : Γ.sp mo = spMv 10) (h7 : Γ.sp va = spValue 10)
    (s1 : Γ.sb 1 1 = true) (s0 : Γ.sb 1 0 = true) (ds : List D) (G : HD) (QD : KD) (XD : KX) (h : spIsTold ds G QD XD) :
    wSs Γ (b_law_is_told lf wy sm lp ir mo va) { nx := fun _ H => QD .non H, rt := QD, ex := fun x _ H => XD x H } (startD 8 ds) G := by
  obtain ⟨v, u, t, rfl, ⟨⟨wv, rv, dv, lv⟩, ⟨wu, ru, du, lu⟩, wt, rt, dt, lt⟩, hQ⟩ := h
  have kv := wk_of _ wv
  have ku := wk_of _ wu
  have kt := wk_of _ wt
  have cd : ChD v ∧ ChD u ∧ ChD t := ⟨⟨wv, dv⟩, ⟨wu, du⟩, wt, dt⟩
  simp_arith [b_law_is_told, h1, h2, h3, h4, h5, h6, h7]
  refine ⟨t, u, rfl, kt, ku, by omega, ?_⟩
  cases e1 : fit u t with
  | false =>
    have w0 : waysR v u t = none := by unfold waysR; rw [e1]; rfl
    simp_arith []
    refine ⟨v, u, t, rfl, cd, ?_⟩
    rw [w0]
    simp_arith [s1]
    intro a ha
    simp_arith [s0]
    exact hQ _
  | true =>
    simp_arith []
    refine ⟨u, v, rfl, ku, kv, by omega, ?_⟩
    cases e2 : fit v u with
    | false =>
      have w0 : waysR v u t = none := by unfold waysR; rw [e1, e2]; rfl
      simp_arith []
      refine ⟨v, u, t, rfl, cd, ?_⟩
      rw [w0]
      simp_arith [s1]
      intro a ha
      simp_arith [s0]
      exact hQ _
    | true =>
      simp_arith []
      refine ⟨v, u, t, rfl, cd, ?_⟩
      have w0 : waysR v u t = some (if fit v t = true then (match ptg v u t with | some x => x | none => .str sSame) else .str sUnfit) := by unfold waysR; rw [e1, e2]; rfl
      rw [w0]
      cases e3 : fit v t with
      | false =>
        simp_arith []
        refine ⟨t, v, rfl, kt, kv, by omega, ?_⟩
        rw [e3]
        simp_arith []
        refine ⟨_, _, rfl, trivial, trivial, fun b hb => ?_⟩
        rw [hb.mpr rfl]
        exact hQ _
      | true =>
        have main := ptg_ok v u t wv wu wt e1 e2 e3 (by omega)
        have both : ∀ x, VK t x → PlT 12 (mv v t x) ∧ PlT 12 (mv v u (mv u t x)) := fun x hx => ⟨PlT.mono (by omega) (vk_plt v _ kv (mv_vk v t x e3 hx)), PlT.mono (by omega) (vk_plt v _ kv (mv_vk v u _ e2 (mv_vk u t x e1 hx)))⟩
        cases e4 : ptg v u t with
        | none =>
          rw [e4] at main
          simp_arith []
          refine ⟨t, v, rfl, kt, kv, by omega, ?_⟩
          rw [e3]
          simp_arith []
          refine ⟨v, u, t, rfl, ⟨kv, ku, kt, ⟨by omega, by omega⟩, e1, e2⟩, by omega, ?_⟩
          rw [e4]
          simp_arith [Option.isSome_none]
          refine ⟨_, _, rfl, trivial, trivial, fun b hb => ?_⟩
          rw [hb.mpr rfl]
          simp_arith []
          refine And.intro (by decide) ?_
          refine wFor_ind (fun xs σ H => ∃ o5 o6, σ = [some .rnd, some (enc t), some (enc u), some (enc v), some (.str sSame), o5, o6, none]) ?_ ?_ _ _ _ ⟨none, none, rfl⟩
          · rintro σ H ⟨o5, o6, rfl⟩
            exact hQ _
          · rintro x xs ih σ H ⟨o5, o6, rfl⟩
            simp_arith []
            intro p hp
            refine ⟨t, p, 8, rfl, wt, by omega, updD_same, by decide, fun w m hw hm => ?_⟩
            have hvk := okv_vk t w m hw (by omega)
            simp_arith []
            refine ⟨t, v, w, rfl, kt, kv, by omega, e3, hvk, ?_⟩
            refine ⟨t, u, w, rfl, kt, ku, by omega, e1, hvk, ?_⟩
            refine ⟨u, v, mv u t w, rfl, ku, kv, by omega, e2, mv_vk u t w e1 hvk, ?_⟩
            refine ⟨_, _, rfl, (both w hvk).1, (both w hvk).2, fun b hb => ?_⟩
            rw [hb.mpr (main w hvk)]
            simp_arith []
            exact ih _ _ ⟨_, _, rfl⟩
        | some x =>
          rw [e4] at main
          obtain ⟨m, m1, m2, m3⟩ := main
          have hvk := okv_vk t x m m2 (by omega)
          obtain ⟨vs, rfl⟩ : ∃ vs, x = .tup vs := by
            obtain ⟨fs, rfl⟩ := rt
            simp only [OkV] at m2
            obtain ⟨vs, e, _⟩ := m2
            exact ⟨vs, e⟩
          simp_arith []
          refine ⟨t, v, rfl, kt, kv, by omega, ?_⟩
          rw [e3]
          simp_arith []
          refine ⟨v, u, t, rfl, ⟨kv, ku, kt, ⟨by omega, by omega⟩, e1, e2⟩, by omega, ?_⟩
          rw [e4]
          simp_arith [Option.isSome_some]
          have hs : sz t * (m + 1) ≤ 1000000 := by
            have h3 := sz_le t wt
            have h4 : (DL.lv t).length * dp t ≤ 24 * 9 := Nat.mul_le_mul lt dt
            have : sz t * (m + 1) ≤ 1000 * 10 := Nat.mul_le_mul (by omega) (by omega)
            omega
          refine ⟨t, .tup vs, m, rfl, wt, m2, hs, ?_⟩
          simp_arith []
          refine ⟨t, v, .tup vs, rfl, kt, kv, by omega, e3, hvk, ?_⟩
          refine ⟨t, u, .tup vs, rfl, kt, ku, by omega, e1, hvk, ?_⟩
          refine ⟨u, v, mv u t (.tup vs), rfl, ku, kv, by omega, e2, mv_vk u t _ e1 hvk, ?_⟩
          refine ⟨_, _, rfl, (both _ hvk).1, (both _ hvk).2, fun b hb => ?_⟩
          have b0 : b = false := by
            cases b with
            | false => rfl
            | true => exact absurd (hb.mp rfl) m3
          rw [b0]
          simp_arith []
          exact hQ _
end DL

namespace DL.K65
open PySem PySem.Spec PyProof.Rows L2 DL
abbrev prog : Program := PySem.Challenge.pw_stripewalk_k65_whole_ways
def top (i : Nat) : Stmt := prog.main.body.getD i (.Pass ⟨0, 0, 0, 0⟩)
def mtop (i j : Nat) : Stmt := match top i with | .ClassDef _ _ _ body _ _ _ _ _ _ _ => body.getD j (.Pass ⟨0, 0, 0, 0⟩) | s => s
def d_is_integer : Df := ⟨"is_integer", ["value"], ["value"], top 7, b_is_integer⟩
def d_is_text : Df := ⟨"is_text", ["value"], ["value", "sign"], top 8, b_is_text 2 1⟩
def d_is_leaf_value : Df := ⟨"is_leaf_value", ["word", "value"], ["word", "value"], top 9, b_is_leaf_value 0 1⟩
def d_is_value : Df := ⟨"is_value", ["kind", "value"], ["kind", "value", "waiting", "one", "field"], top 10, b_is_value 2 0⟩
def d_is_row : Df := ⟨"is_row", ["schema", "value"], ["schema", "value"], top 11, b_is_row 3⟩
def d_field_of : Df := ⟨"field_of", ["kind", "name"], ["kind", "name", "one", "part"], top 15, b_field_of⟩
def d_does_field_fit : Df := ⟨"does_field_fit", ["found", "part"], ["found", "part"], top 17, b_does_field_fit 7⟩
def d_does_fit : Df := ⟨"does_fit", ["t", "u"], ["t", "u", "name", "part"], top 16, b_does_fit 7 6 5 0⟩
def d_check_chain : Df := ⟨"check_chain", ["chain"], ["chain", "at"], top 18, b_check_chain 7⟩
def d_nothing_of : Df := ⟨"nothing_of", ["kind"], ["kind"], top 19, b_nothing_of⟩
def d_value_of : Df := ⟨"value_of", ["kind", "pattern"], ["kind", "pattern", "_", "part", "one", "field"], top 20, b_value_of 10 9 3 0 60⟩
def d_plain_value : Df := ⟨"plain_value", ["kind"], ["kind"], top 21, b_plain_value 10 3⟩
def d_full_value : Df := ⟨"full_value", ["kind"], ["kind"], top 22, b_full_value 11⟩
def d_parting_record : Df := ⟨"parting_record", ["t", "u", "v"], ["t", "u", "v", "name", "part", "here", "over", "found", "one", "kind"], top 24, b_parting_record 5 14 12 11⟩
def d_parting : Df := ⟨"parting", ["t", "u", "v"], ["t", "u", "v", "one"], top 23, b_parting 13 14 0⟩
def d_ways : Df := ⟨"ways", ["t", "u", "v"], ["t", "u", "v", "found"], top 25, b_ways 8 7 14⟩
def d_law_pick : Df := ⟨"_law_pick", ["stream", "rows"], ["stream", "rows"], top 29, b_pick 17⟩
def d_law_same : Df := ⟨"_law_same", ["told", "due"], ["told", "due", "k"], top 30, b_same 19⟩
def d_law_name : Df := ⟨"_law_name", ["stream", "used"], ["stream", "used", "letters", "many", "name", "at", "k"], top 31, b_name 17⟩
def d_law_kind : Df := ⟨"_law_kind", ["stream", "depth", "most"], ["stream", "depth", "most", "pick", "inner"], top 33, b_kind 17 18 21 22⟩
def d_law_record : Df := ⟨"_law_record", ["stream", "depth", "most"], ["stream", "depth", "most", "many", "used", "fields", "k", "name"], top 32, b_record 17 20 21⟩
def d_law_text : Df := ⟨"_law_text", ["stream"], ["stream", "signs", "many", "text", "k"], top 34, b_text 17⟩
def d_law_int : Df := ⟨"_law_int", ["stream"], ["stream", "pick"], top 35, b_int 17 18⟩
def d_law_value : Df := ⟨"_law_value", ["stream", "kind", "room"], ["stream", "kind", "room", "many", "field", "k"], top 36, b_value 17 23 24 25⟩
def d_law_is_name : Df := ⟨"_law_is_name", ["value"], ["value", "sign"], top 37, b_law_is_name⟩
def d_law_count : Df := ⟨"_law_count", ["value", "depth"], ["value", "depth", "found", "names", "field"], top 38, b_law_countG 27 26⟩
def d_law_is_schema : Df := ⟨"_law_is_schema", ["value"], ["value"], top 39, b_law_is_schema 27⟩
def d_law_part : Df := ⟨"_law_part", ["kind", "name"], ["kind", "name", "field"], top 40, b_law_part⟩
def d_law_fits : Df := ⟨"_law_fits", ["t", "u"], ["t", "u", "field", "part"], top 41, b_law_fits 30 29⟩
def d_law_wrapped : Df := ⟨"_law_wrapped", ["stream", "t", "u"], ["stream", "t", "u", "pick"], top 42, b_law_wrapped0 17⟩
def d_law_next_record : Df := ⟨"_law_next_record", ["stream", "t", "depth", "pool"], ["stream", "t", "depth", "pool", "fields", "used", "field", "k", "name", "left", "inner", "at", "one"], top 44, b_law_next_record 17 33 20 18 21⟩
def d_law_next : Df := ⟨"_law_next", ["stream", "t", "depth"], ["stream", "t", "depth", "u"], top 43, b_law_next 31 33 17 32⟩
def d_law_chain : Df := ⟨"_law_chain", ["stream", "many"], ["stream", "many", "chain", "pool", "k", "u", "field"], top 45, b_law_chain 22 17 32 28⟩
def d_law_moved : Df := ⟨"_law_moved", ["t", "u", "value"], ["t", "u", "value", "found", "field", "at", "k", "one"], top 46, b_law_moved 35⟩
def d_law_other : Df := ⟨"_law_other", ["stream", "kind", "depth"], ["stream", "kind", "depth", "pick", "at", "fields", "names", "inner", "field"], top 47, b_law_other 17 18 21 20 36⟩
def d_law_parts : Df := ⟨"_law_parts", ["t", "u", "v"], ["t", "u", "v", "field", "here", "over"], top 48, b_law_parts 29 37⟩
def d_law_is_told : Df := ⟨"_law_is_told", ["stream", "t", "u", "v"], ["stream", "t", "u", "v", "told", "k", "row", "e"], top 49, b_law_is_told 30 15 19 37 4 35 25⟩
def b_law (l_stream l_chain l_is_told l_other l_is_schema : Nat) : Ss :=
 (.c (.set 1 (.call l_stream (.c (.var 0) .n)))
 (.c (.for_ (.n 2) (.rng (.c (.con (.int 3)) .n)) (.c (.set 3 (.call l_chain (.c (.var 1) (.c (.con (.int 3)) .n))))
 (.c (.ite (.nt (.of (.call l_is_told (.c (.var 1) (.c (.idx (.var 3) (.con (.int 0))) (.c (.idx (.var 3) (.con (.int 1))) (.c (.idx (.var 3) (.con (.int 2))) .n))))))) (.c (.ret (.con (.bl false)))
 .n) .n)
 (.c (.set 4 (.call l_other (.c (.var 1) (.c (.idx (.var 3) (.con (.int 2))) (.c (.con (.int 6)) .n)))))
 (.c (.ite (.bo true (.c (.of (.call l_is_schema (.c (.var 4) .n))) (.c (.nt (.of (.call l_is_told (.c (.var 1) (.c (.idx (.var 3) (.con (.int 0))) (.c (.idx (.var 3) (.con (.int 1))) (.c (.var 4) .n))))))) .n))) (.c (.ret (.con (.bl false)))
 .n) .n)
 (.c (.set 4 (.call l_other (.c (.var 1) (.c (.idx (.var 3) (.con (.int 1))) (.c (.con (.int 6)) .n)))))
 (.c (.ite (.bo true (.c (.of (.call l_is_schema (.c (.var 4) .n))) (.c (.nt (.of (.call l_is_told (.c (.var 1) (.c (.idx (.var 3) (.con (.int 0))) (.c (.var 4) (.c (.idx (.var 3) (.con (.int 2))) .n))))))) .n))) (.c (.ret (.con (.bl false)))
 .n) .n)
 .n)))))))
 (.c (.ret (.con (.bl true)))
 .n)))
def d_law : Df := ⟨"law", ["script"], ["script", "stream", "turn", "chain", "turned"], top 50, b_law 16 34 38 36 28⟩
def dfs : List Df := [d_is_integer, d_is_text, d_is_leaf_value, d_is_value, d_is_row, d_field_of, d_does_field_fit, d_does_fit, d_check_chain, d_nothing_of, d_value_of, d_plain_value, d_full_value, d_parting_record, d_parting, d_ways, d_stream (top 27), d_draw (top 28), d_law_pick, d_law_same, d_law_name, d_law_kind, d_law_record, d_law_text, d_law_int, d_law_value, d_law_is_name, d_law_count, d_law_is_schema, d_law_part, d_law_fits, d_law_wrapped, d_law_next_record, d_law_next, d_law_chain, d_law_moved, d_law_other, d_law_parts, d_law_is_told, d_law]
def gl0 : List (Str × D) := [("LEAVES", (.tup [(.str sInt), (.str sText), (.str sBool)])), ("SIGNS", (.str [48, 49, 50, 51, 52, 53, 54, 55, 56, 57, 58, 59, 60, 61, 62, 63, 64, 65, 66, 67, 68, 69, 70, 71, 72, 73, 74, 75, 76, 77, 78, 79, 80, 81, 82, 83, 84, 85, 86, 87, 88, 89, 90, 91, 92, 93, 94, 95, 96, 97, 98, 99, 100, 101, 102, 103, 104, 105, 106, 107, 108, 109, 110, 111, 112, 113, 114, 115, 116, 117, 118, 119, 120, 121, 122])), ("MOST_SIGNS", (.int 200)), ("ANY", (.tup [(.str [97, 110, 121])]))]
def gl : List (Str × D) := gl0 ++ (List.replicate 56 (("LEAVES", (.tup [(.str sInt), (.str sText), (.str sBool)])) : Str × D) ++ ([("PLAIN", (.tup [(.tup [(.str sInt), (.int 0)]), (.tup [(.str sText), (.str [])]), (.tup [(.str sBool), (.bl false)])]))] : List (Str × D)))
def sb (i j : Nat) : Bool := (([[true, false], [true, true]] : List (List Bool)).getD i []).getD j false
def cls : List Str := ["StripewalkError", "Unfit"]
def ocs : List Oc := []
def cfg : Cfg := ⟨dfs.map fun d => (d.x, d.ps.length), gl.map (·.1), cls, false, ocs⟩
theorem m_is_integer : defC cfg d_is_integer = true := by decide +kernel
theorem m_is_text : defC cfg d_is_text = true := by decide +kernel
theorem m_is_leaf_value : defC cfg d_is_leaf_value = true := by decide +kernel
theorem m_is_value : defC cfg d_is_value = true := by decide +kernel
theorem m_is_row : defC cfg d_is_row = true := by decide +kernel
theorem m_field_of : defC cfg d_field_of = true := by decide +kernel
theorem m_does_field_fit : defC cfg d_does_field_fit = true := by decide +kernel
theorem m_does_fit : defC cfg d_does_fit = true := by decide +kernel
theorem m_check_chain : defC cfg d_check_chain = true := by decide +kernel
theorem m_nothing_of : defC cfg d_nothing_of = true := by decide +kernel
theorem m_value_of : defC cfg d_value_of = true := by decide +kernel
theorem m_plain_value : defC cfg d_plain_value = true := by decide +kernel
theorem m_full_value : defC cfg d_full_value = true := by decide +kernel
theorem m_parting_record : defC cfg d_parting_record = true := by decide +kernel
theorem m_parting : defC cfg d_parting = true := by decide +kernel
theorem m_ways : defC cfg d_ways = true := by decide +kernel
theorem m_stream : defC cfg (d_stream (top 27)) = true := by decide +kernel
theorem m_draw : defC cfg (d_draw (top 28)) = true := by decide +kernel
theorem m_pick : defC cfg d_law_pick = true := by decide +kernel
theorem m_same : defC cfg d_law_same = true := by decide +kernel
theorem m_name : defC cfg d_law_name = true := by decide +kernel
theorem m_kind : defC cfg d_law_kind = true := by decide +kernel
theorem m_record : defC cfg d_law_record = true := by decide +kernel
theorem m_text : defC cfg d_law_text = true := by decide +kernel
theorem m_int : defC cfg d_law_int = true := by decide +kernel
theorem m_value : defC cfg d_law_value = true := by decide +kernel
theorem m_lis_name : defC cfg d_law_is_name = true := by decide +kernel
theorem m_count : defC cfg d_law_count = true := by decide +kernel
theorem m_lis_schema : defC cfg d_law_is_schema = true := by decide +kernel
theorem m_part : defC cfg d_law_part = true := by decide +kernel
theorem m_fits : defC cfg d_law_fits = true := by decide +kernel
theorem m_wrapped : defC cfg d_law_wrapped = true := by decide +kernel
theorem m_next_record : defC cfg d_law_next_record = true := by decide +kernel
theorem m_next : defC cfg d_law_next = true := by decide +kernel
theorem m_chain : defC cfg d_law_chain = true := by decide +kernel
theorem m_moved : defC cfg d_law_moved = true := by decide +kernel
theorem m_other : defC cfg d_law_other = true := by decide +kernel
theorem m_parts : defC cfg d_law_parts = true := by decide +kernel
theorem m_is_told : defC cfg d_law_is_told = true := by decide +kernel
theorem m_law : defL cfg d_law = true := by decide +kernel
theorem binds : ∀ d ∈ dfs, BindsH d := by
  unfold dfs
  simp only [List.forall_mem_cons, List.not_mem_nil, false_imp_iff, implies_true, and_true]
  exact ⟨fun _ _ _ _ _ _ us hl => match us, hl with | [_], _ => rfl,
    fun _ _ _ _ _ _ us hl => match us, hl with | [_], _ => rfl,
    fun _ _ _ _ _ _ us hl => match us, hl with | [_, _], _ => rfl,
    fun _ _ _ _ _ _ us hl => match us, hl with | [_, _], _ => rfl,
    fun _ _ _ _ _ _ us hl => match us, hl with | [_, _], _ => rfl,
    fun _ _ _ _ _ _ us hl => match us, hl with | [_, _], _ => rfl,
    fun _ _ _ _ _ _ us hl => match us, hl with | [_, _], _ => rfl,
    fun _ _ _ _ _ _ us hl => match us, hl with | [_, _], _ => rfl,
    fun _ _ _ _ _ _ us hl => match us, hl with | [_], _ => rfl,
    fun _ _ _ _ _ _ us hl => match us, hl with | [_], _ => rfl,
    fun _ _ _ _ _ _ us hl => match us, hl with | [_, _], _ => rfl,
    fun _ _ _ _ _ _ us hl => match us, hl with | [_], _ => rfl,
    fun _ _ _ _ _ _ us hl => match us, hl with | [_], _ => rfl,
    fun _ _ _ _ _ _ us hl => match us, hl with | [_, _, _], _ => rfl,
    fun _ _ _ _ _ _ us hl => match us, hl with | [_, _, _], _ => rfl,
    fun _ _ _ _ _ _ us hl => match us, hl with | [_, _, _], _ => rfl,
    fun _ _ _ _ _ _ us hl => match us, hl with | [_], _ => rfl,
    fun _ _ _ _ _ _ us hl => match us, hl with | [_, _], _ => rfl,
    fun _ _ _ _ _ _ us hl => match us, hl with | [_, _], _ => rfl,
    fun _ _ _ _ _ _ us hl => match us, hl with | [_, _], _ => rfl,
    fun _ _ _ _ _ _ us hl => match us, hl with | [_, _], _ => rfl,
    fun _ _ _ _ _ _ us hl => match us, hl with | [_, _, _], _ => rfl,
    fun _ _ _ _ _ _ us hl => match us, hl with | [_, _, _], _ => rfl,
    fun _ _ _ _ _ _ us hl => match us, hl with | [_], _ => rfl,
    fun _ _ _ _ _ _ us hl => match us, hl with | [_], _ => rfl,
    fun _ _ _ _ _ _ us hl => match us, hl with | [_, _, _], _ => rfl,
    fun _ _ _ _ _ _ us hl => match us, hl with | [_], _ => rfl,
    fun _ _ _ _ _ _ us hl => match us, hl with | [_, _], _ => rfl,
    fun _ _ _ _ _ _ us hl => match us, hl with | [_], _ => rfl,
    fun _ _ _ _ _ _ us hl => match us, hl with | [_, _], _ => rfl,
    fun _ _ _ _ _ _ us hl => match us, hl with | [_, _], _ => rfl,
    fun _ _ _ _ _ _ us hl => match us, hl with | [_, _, _], _ => rfl,
    fun _ _ _ _ _ _ us hl => match us, hl with | [_, _, _, _], _ => rfl,
    fun _ _ _ _ _ _ us hl => match us, hl with | [_, _, _], _ => rfl,
    fun _ _ _ _ _ _ us hl => match us, hl with | [_, _], _ => rfl,
    fun _ _ _ _ _ _ us hl => match us, hl with | [_, _, _], _ => rfl,
    fun _ _ _ _ _ _ us hl => match us, hl with | [_, _, _], _ => rfl,
    fun _ _ _ _ _ _ us hl => match us, hl with | [_, _, _], _ => rfl,
    fun _ _ _ _ _ _ us hl => match us, hl with | [_, _, _, _], _ => rfl,
    fun _ _ _ _ _ _ us hl => match us, hl with | [_], _ => rfl⟩
-- 0:is_integer 1:is_text 2:is_leaf_value 3:is_value 4:is_row 5:field_of 6:does_field_fit 7:does_fit 8:check_chain 9:nothing_of 10:value_of 11:plain_value 12:full_value 13:parting_record 14:parting 15:ways 16:_law_stream 17:_law_draw 18:_law_pick 19:_law_same 20:_law_name 21:_law_kind 22:_law_record 23:_law_text 24:_law_int 25:_law_value 26:_law_is_name 27:_law_count 28:_law_is_schema 29:_law_part 30:_law_fits 31:_law_wrapped 32:_law_next_record 33:_law_next 34:_law_chain 35:_law_moved 36:_law_other 37:_law_parts 38:_law_is_told 39:law

/-! ### the law -/
theorem law_ok {Γ : Gam} (g1 : Γ.sp 16 = spStream) (g2 : Γ.sp 34 = spChain4) (g3 : Γ.sp 38 = spIsTold) (g4 : Γ.sp 36 = spOther 10) (g5 : Γ.sp 28 = spSG) (ds : List D) (G : HD) (QD : KD) (XD : KX) (h : spLaw ds G QD XD) :
    wSs Γ (b_law 16 34 38 36 28) { nx := fun _ H => QD .non H, rt := QD, ex := fun x _ H => XD x H } (startD 5 ds) G := by
  obtain ⟨ns, rfl, rfl, hQ⟩ := h
  simp_arith [b_law, g1, g2, g3, g4, g5]
  refine ⟨ns, rfl, by decide, ?_⟩
  generalize D.scr (ns.map .int) = scr0
  refine wFor_ind (fun xs σ H => ∃ o2 o3 o4, σ = [some scr0, some .rnd, o2, o3, o4]) ?_ ?_ _ _ _ ⟨none, none, none, rfl⟩
  · rintro σ H ⟨o2, o3, o4, rfl⟩
    exact hQ _
  · rintro x xs ih σ H ⟨o2, o3, o4, rfl⟩
    simp_arith []
    refine ⟨3, rfl, by decide, fun L hL hlen => ?_⟩
    obtain ⟨t, u, v, rfl⟩ : ∃ t u v, L = [t, u, v] := by
      match L, hlen with
      | [t, u, v], _ => exact ⟨t, u, v, rfl⟩
    have ct := hL.1 t (by simp)
    have cu := hL.1 u (by simp)
    have cv := hL.1 v (by simp)
    have i0 : ∀ H, idxD (.lst ([t, u, v].map enc)) (.int 0) H = some (enc t) := fun _ => rfl
    have i1 : ∀ H, idxD (.lst ([t, u, v].map enc)) (.int 1) H = some (enc u) := fun _ => rfl
    have i2 : ∀ H, idxD (.lst ([t, u, v].map enc)) (.int 2) H = some (enc v) := fun _ => rfl
    generalize D.lst ([t, u, v].map enc) = ch at i0 i1 i2
    simp_arith [i0, i1, i2]
    refine ⟨v, u, t, rfl, ⟨cv, cu, ct⟩, fun H1 => ?_⟩
    simp_arith [i0, i1, i2]
    refine ⟨v, 6, rfl, wk_of _ cv.1, by have := cv.2.2.1; omega, fun v' wv' dv' => ?_⟩
    simp_arith [i0, i1, i2]
    refine ⟨_, rfl, encK_px _ wv', ?_⟩
    have second : ∀ (H2 : HD) (o4 : Option D) (F : StD → HD → Prop), (∀ o2 o3 o4 H, F [some scr0, some .rnd, o2, o3, o4] H) → ∀ y : Option D, F [some scr0, some .rnd, y, some ch, o4] H2 := fun H2 o4 F hF y => hF _ _ _ _
    have nxt : ∀ o2 o3 o4 H, _ := fun o2 o3 o4 H => ih [some scr0, some .rnd, o2, o3, o4] H ⟨o2, o3, o4, rfl⟩
    cases hs : isS (enc v') with
    | false =>
      simp_arith [i0, i1, i2]
      refine ⟨u, 6, rfl, wk_of _ cu.1, by have := cu.2.2.1; omega, fun u' wu' du' => ?_⟩
      simp_arith [i0, i1, i2]
      refine ⟨_, rfl, encK_px _ wu', ?_⟩
      cases hs2 : isS (enc u') with
      | false =>
        simp_arith [i0, i1, i2]
        exact nxt _ _ _ _
      | true =>
        have t2 : ∃ fs, u' = .recd fs := isS_recd wu' hs2
        cases t2 with
        | intro us eu =>
        subst eu
        have hu := chk_of wu' hs2
        simp_arith [i0, i1, i2]
        refine ⟨v, .recd us, t, rfl, ⟨cv, hu, ct⟩, fun H2 => ?_⟩
        simp_arith []
        exact nxt _ _ _ _
    | true =>
      have t1 : ∃ fs, v' = .recd fs := isS_recd wv' hs
      cases t1 with
      | intro vs ev =>
      subst ev
      have hv := chk_of wv' hs
      simp_arith [i0, i1, i2]
      refine ⟨.recd vs, u, t, rfl, ⟨hv, cu, ct⟩, fun H2 => ?_⟩
      simp_arith [i0, i1, i2]
      refine ⟨u, 6, rfl, wk_of _ cu.1, by have := cu.2.2.1; omega, fun u' wu' du' => ?_⟩
      simp_arith [i0, i1, i2]
      refine ⟨_, rfl, encK_px _ wu', ?_⟩
      cases hs2 : isS (enc u') with
      | false =>
        simp_arith [i0, i1, i2]
        exact nxt _ _ _ _
      | true =>
        have t2 : ∃ fs, u' = .recd fs := isS_recd wu' hs2
        cases t2 with
        | intro us eu =>
        subst eu
        have hu := chk_of wu' hs2
        simp_arith [i0, i1, i2]
        refine ⟨v, .recd us, t, rfl, ⟨cv, hu, ct⟩, fun H2 => ?_⟩
        simp_arith []
        exact nxt _ _ _ _

/-! ### the chain, the head -/
abbrev R : PySem.W.OpenRow := PySem.W.OpenLaw.row PySem.Challenge.rw_stripewalk_k65_whole_ways
abbrev fa : List He.Fa := faOf dfs cls ocs
abbrev fn : List He.DefD := dfs.map Df.he
abbrev hk : PySem.W.Hook := hookX 6 fa fn gl cls sb
def ob (s : PySem.W.SharedT) : AlX := obX 6 fa fn gl cls sb (HandSHeadRun.getT s)
theorem ob_eq (s : PySem.W.SharedT) : ob s = hk.obs s.abs := obX_eq (HandSHeadRun.getT_eq s)
def RunW (w : World) : Prop := HandSHeadRun.RunEq R (PySem.W.view R.prog [50]) hk ob 3000 ("LEAVES" :: "SIGNS" :: "MOST_SIGNS" :: "PLAIN" :: "ANY" :: "StripewalkError" :: "Unfit" :: "is_integer" :: "is_text" :: "is_leaf_value" :: "is_value" :: "is_row" :: "field_of" :: "does_fit" :: "does_field_fit" :: "check_chain" :: "nothing_of" :: "value_of" :: "plain_value" :: "full_value" :: "parting" :: "parting_record" :: "ways" :: "_law_stream" :: "_law_draw" :: "_law_pick" :: "_law_same" :: "_law_name" :: "_law_record" :: "_law_kind" :: "_law_text" :: "_law_int" :: "_law_value" :: "_law_is_name" :: "_law_count" :: "_law_is_schema" :: "_law_part" :: "_law_fits" :: "_law_wrapped" :: "_law_next" :: "_law_next_record" :: "_law_chain" :: "_law_moved" :: "_law_other" :: "_law_parts" :: "_law_is_told" :: []) w
theorem run0 (w : World) : RunW (w.withFollow "special-get-raises" false) := by
  intro os
  kernel_rfl
theorem run1 (w : World) : RunW (w.withFollow "special-get-raises" true) := by
  intro os
  kernel_rfl
theorem run (w : World) : HandSHeadRun.RunEq R (PySem.W.view R.prog [50]) hk ob 3000 ("LEAVES" :: "SIGNS" :: "MOST_SIGNS" :: "PLAIN" :: "ANY" :: "StripewalkError" :: "Unfit" :: "is_integer" :: "is_text" :: "is_leaf_value" :: "is_value" :: "is_row" :: "field_of" :: "does_fit" :: "does_field_fit" :: "check_chain" :: "nothing_of" :: "value_of" :: "plain_value" :: "full_value" :: "parting" :: "parting_record" :: "ways" :: "_law_stream" :: "_law_draw" :: "_law_pick" :: "_law_same" :: "_law_name" :: "_law_record" :: "_law_kind" :: "_law_text" :: "_law_int" :: "_law_value" :: "_law_is_name" :: "_law_count" :: "_law_is_schema" :: "_law_part" :: "_law_fits" :: "_law_wrapped" :: "_law_next" :: "_law_next_record" :: "_law_chain" :: "_law_moved" :: "_law_other" :: "_law_parts" :: "_law_is_told" :: []) w := PySem.W.byRow2 "special-get-raises" (P := RunW) run0 run1 w
theorem facts {P : Program} {w : World} {K : PySem.W.Frag} {h : Heap} {mg : Str → Option Value} {f : Addr} (X : K.In h) (G : h.Ns mainGlobals mg) (hfa : mg ("law" : Str) = some (.ref f)) (c : He.SaysD fa fn K) (g : gOk w gl cls sb K) :
    ∀ (base : Heap) (H : Hp) (s : Shared) (a : Addr) (ns : List Int), ns.length ≤ 63 → K.In base → base.Ns mainGlobals mg → Env0 P w K mg base callerA [] s H → Only H → SqL K H a (ns.map V.int) → codeAny (model P w) callerA (.call (.ref f) ⟨[.ref a], []⟩) (CR (L2.CX P w) [] P w H s QT QN) s := by
  have ob_ : ocsB dfs ocs = true := by decide +kernel
  have W : Wd P w K mg (clmOf K cls) (glD gl) sb (gl.map (·.1)) cls := wd_of X G c g
  have at_ := fun (i : Nat) (d : Df) (e : dfs[i]? = some d) => df_at X G c ob_ binds (i := i) (d := d) e
  have a0 : AllOk P w K mg (fnmOf K dfs ocs) (clmOf K cls) cfg { sp := fun _ => bot, gl := glD gl, sb := sb } 0 := bot_of X G c binds ob_ rfl rfl
  have a1 := all_up (i := 0) (d := d_is_integer) (s := spIsInt) a0 W rfl (at_ 0 _ rfl) m_is_integer fun ds G Q X _ h => is_integer_ok ds G Q X h
  have a2 := all_up (i := 1) (d := d_is_text) (s := spIsTx) a1 W rfl (at_ 1 _ rfl) m_is_text fun ds G Q X _ h => is_text_ok rfl rfl ds G Q X h
  have a3 := all_up (i := 2) (d := d_is_leaf_value) (s := spIsLv) a2 W rfl (at_ 2 _ rfl) m_is_leaf_value fun ds G Q X _ h => is_leaf_value_ok rfl rfl ds G Q X h
  have a4 := all_up (i := 3) (d := d_is_value) (s := spIsVal) a3 W rfl (at_ 3 _ rfl) m_is_value fun ds G Q X _ h => is_value_ok rfl rfl ds G Q X h
  have a5 := all_up (i := 4) (d := d_is_row) (s := spIsVal) a4 W rfl (at_ 4 _ rfl) m_is_row fun ds G Q X _ h => is_row_ok rfl ds G Q X h
  have a6 := all_up (i := 5) (d := d_field_of) (s := spFieldOf) a5 W rfl (at_ 5 _ rfl) m_field_of fun ds G Q X _ h => field_of_ok ds G Q X h
  have a7 := all_rec2 (i := 7) (j := 6) (d := d_does_fit) (e := d_does_field_fit) (s := spFit) (t := spDff) (by decide) a6 W rfl (at_ 7 _ rfl) m_does_fit rfl (at_ 6 _ rfl) m_does_field_fit (fun ds G Q X ⟨_, u, _, _, _, z, _⟩ => absurd z (by have := dpos u; omega)) (fun ds G Q X ⟨_, u, _, _, _, z, _⟩ => absurd z (by have := dpos u; omega))
    (fun n ds G Q X _ h => does_fit_ok rfl rfl rfl rfl ds G Q X h) (fun n ds G Q X _ h => dff_ok rfl ds G Q X h) 10
  have a8 := all_up (i := 8) (d := d_check_chain) (s := spCheck) a7 W rfl (at_ 8 _ rfl) m_check_chain fun ds G Q X _ h => check_ok rfl ds G Q X h
  have a9 := all_up (i := 9) (d := d_nothing_of) (s := spNothing) a8 W rfl (at_ 9 _ rfl) m_nothing_of fun ds G Q X _ h => nothing_ok ds G Q X h
  have a10 := all_rec (i := 10) (d := d_value_of) (s := spVO) a9 W rfl (at_ 10 _ rfl) m_value_of (fun ds G Q X ⟨k, _, _, z, _⟩ => absurd z (by have := dpos k; omega)) (fun n ds G Q X _ h => value_of_ok up_same rfl rfl rfl rfl ds G Q X h) 10
  have a11 := all_up (i := 11) (d := d_plain_value) (s := spPV) a10 W rfl (at_ 11 _ rfl) m_plain_value fun ds G Q X _ h => plain_value_ok rfl rfl ds G Q X h
  have a12 := all_up (i := 12) (d := d_full_value) (s := spFV) a11 W rfl (at_ 12 _ rfl) m_full_value fun ds G Q X _ h => full_value_ok rfl ds G Q X h
  have a13 := all_rec2 (i := 14) (j := 13) (d := d_parting) (e := d_parting_record) (s := spPt) (t := spPtR) (by decide) a12 W rfl (at_ 14 _ rfl) m_parting rfl (at_ 13 _ rfl) m_parting_record (fun ds G Q X ⟨k, _, _, _, _, z, _⟩ => absurd z (by have := dpos k; omega)) (fun ds G Q X ⟨_, _, _, _, _, z, _⟩ => absurd z.1 (Nat.lt_irrefl _))
    (fun n ds G Q X _ h => parting_ok rfl rfl rfl ds G Q X h) (fun n ds G Q X _ h => parting_record_ok rfl rfl rfl rfl ds G Q X h) 10
  have a14 := all_up (i := 15) (d := d_ways) (s := spWays) a13 W rfl (at_ 15 _ rfl) m_ways fun ds G Q X _ h => ways_ok rfl rfl rfl ds G Q X h
  have a15 := all_stream (i := 16) (st := top 27) a14 W rfl (at_ 16 _ rfl) m_stream
  have a16 := all_draw (i := 17) (st := top 28) a15 W rfl (at_ 17 _ rfl) m_draw
  have a17 := all_up (i := 18) (d := d_law_pick) (s := spPick) a16 W rfl (at_ 18 _ rfl) m_pick fun ds G Q X _ h => pick_ok rfl ds G Q X h
  have a18 := all_rec (i := 19) (d := d_law_same) (s := spSameD) a17 W rfl (at_ 19 _ rfl) m_same (fun ds G Q X ⟨_, _, _, z, _⟩ => z) (fun n ds G Q X _ h => sameD_ok up_same ds G Q X h) 12
  have a19 := all_up (i := 20) (d := d_law_name) (s := spName) a18 W rfl (at_ 20 _ rfl) m_name fun ds G Q X _ h => name_ok rfl ds G Q X h
  have a20 := all_rec2 (i := 21) (j := 22) (d := d_law_kind) (e := d_law_record) (s := spKind) (t := spRecord) (by decide) a19 W rfl (at_ 21 _ rfl) m_kind rfl (at_ 22 _ rfl) m_record (fun ds G Q X ⟨_, _, _, z, _⟩ => absurd z.2 (Nat.lt_irrefl _)) (fun ds G Q X ⟨_, _, _, z, _⟩ => absurd z.2 (Nat.lt_irrefl _))
    (fun n ds G Q X _ h => kind_ok rfl rfl rfl rfl ds G Q X h) (fun n ds G Q X _ h => record_ok rfl rfl rfl ds G Q X h) 8
  have a21 := all_up (i := 23) (d := d_law_text) (s := spText) a20 W rfl (at_ 23 _ rfl) m_text fun ds G Q X _ h => text_ok rfl ds G Q X h
  have a22 := all_up (i := 24) (d := d_law_int) (s := spInt) a21 W rfl (at_ 24 _ rfl) m_int fun ds G Q X _ h => int_ok rfl rfl ds G Q X h
  have a23 := all_rec (i := 25) (d := d_law_value) (s := spValue) a22 W rfl (at_ 25 _ rfl) m_value (fun ds G Q X ⟨k, _, _, _, _, z, _⟩ => absurd z (by have := dpos k; omega)) (fun n ds G Q X _ h => value_ok rfl rfl rfl up_same ds G Q X h) 10
  have a24 := all_up (i := 26) (d := d_law_is_name) (s := spNm) a23 W rfl (at_ 26 _ rfl) m_lis_name fun ds G Q X _ h => nmL_ok ds G Q X h
  have a25 := all_rec (i := 27) (d := d_law_count) (s := spLc) a24 W rfl (at_ 27 _ rfl) m_count (fun ds G Q X ⟨_, _, _, _, _, z, _⟩ => absurd z (Nat.not_lt_zero _)) (fun n ds G Q X _ h => lcG_ok up_same rfl ds G Q X h) 9
  have a26 := all_up (i := 28) (d := d_law_is_schema) (s := spSG) a25 W rfl (at_ 28 _ rfl) m_lis_schema fun ds G Q X _ h => lsG_ok rfl ds G Q X h
  have a27 := all_up (i := 29) (d := d_law_part) (s := spPart) a26 W rfl (at_ 29 _ rfl) m_part fun ds G Q X _ h => part_ok ds G Q X h
  have a28 := all_rec (i := 30) (d := d_law_fits) (s := spFit) a27 W rfl (at_ 30 _ rfl) m_fits (fun ds G Q X ⟨_, u, _, _, _, z, _⟩ => absurd z (by have := dpos u; omega)) (fun n ds G Q X _ h => fits_ok up_same rfl ds G Q X h) 10
  have a29 := all_up (i := 31) (d := d_law_wrapped) (s := spWr) a28 W rfl (at_ 31 _ rfl) m_wrapped fun ds G Q X _ h => wrapped_ok rfl ds G Q X h
  have a30 := all_rec2 (i := 33) (j := 32) (d := d_law_next) (e := d_law_next_record) (s := spNext) (t := spNextR) (by decide) a29 W rfl (at_ 33 _ rfl) m_next rfl (at_ 32 _ rfl) m_next_record (fun ds G Q X ⟨t, _, _, _, z, _⟩ => absurd z (by have := dpos t; omega)) (fun ds G Q X ⟨_, _, _, _, _, z, _⟩ => absurd z.2 (Nat.lt_irrefl _))
    (fun n ds G Q X _ h => next_ok rfl rfl rfl rfl ds G Q X h) (fun n ds G Q X _ h => next_record_ok rfl rfl rfl rfl rfl ds G Q X h) 9
  have a31 := all_up (i := 34) (d := d_law_chain) (s := spChain4) a30 W rfl (at_ 34 _ rfl) m_chain fun ds G Q X _ h => chain4_ok rfl rfl rfl rfl ds G Q X h
  have a32 := all_rec (i := 35) (d := d_law_moved) (s := spMv) a31 W rfl (at_ 35 _ rfl) m_moved (fun ds G Q X ⟨_, u, _, _, _, _, z, _⟩ => absurd z (by have := dpos u; omega)) (fun n ds G Q X _ h => law_moved_ok up_same ds G Q X h) 10
  have a33 := all_rec (i := 36) (d := d_law_other) (s := spOther) a32 W rfl (at_ 36 _ rfl) m_other (fun ds G Q X ⟨k, _, _, _, z, _⟩ => absurd z (by have := dpos k; omega)) (fun n ds G Q X _ h => other_ok rfl rfl rfl rfl up_same ds G Q X h) 10
  have a34 := all_rec (i := 37) (d := d_law_parts) (s := spLP) a33 W rfl (at_ 37 _ rfl) m_parts (fun ds G Q X ⟨k, _, _, _, _, z, _⟩ => absurd z (by have := dpos k; omega)) (fun n ds G Q X _ h => law_parts_ok rfl up_same ds G Q X h) 10
  have aZ := all_up (i := 38) (d := d_law_is_told) (s := spIsTold) a34 W rfl (at_ 38 _ rfl) m_is_told fun ds G Q X _ h => is_told_ok rfl rfl rfl rfl rfl rfl rfl rfl rfl ds G Q X h
  obtain ⟨f', fd, h1, h2, h3, F⟩ := at_ 39 d_law rfl
  have e := hfa.symm.trans (h2 (by decide +kernel))
  cases e
  have b := FunD.bindsA (ps := ["script"]) F (binds d_law (List.mem_of_getElem? (show dfs[39]? = some d_law from rfl)))
  intro base H s a ns hl hb hg z hO hS
  exact law_good (k := 199) W (aZ.mono (by decide)) F m_law ⟨rfl, by decide, by decide⟩ rfl (fun s u => b s [u] rfl) (fun ds G Q X _ h => law_ok rfl rfl rfl rfl rfl ds G Q X h) hl hb hg z hO hS
end DL.K65
open PySem PySem.W PySem.Calls PyProof.Rows
theorem PySem.Challenge.cw_stripewalk_k65_whole_ways_holds : PySem.Challenge.rw_stripewalk_k65_whole_ways.Holds := by
  w_on; o_law
  refine HandSHeadRun.head_any (r := OpenLaw.row PySem.Challenge.rw_stripewalk_k65_whole_ways) (q := view (OpenLaw.row PySem.Challenge.rw_stripewalk_k65_whole_ways).prog [50]) (H := DL.K65.hk) (ob := DL.K65.ob) (M := 3000) (loose := ("LEAVES" :: "SIGNS" :: "MOST_SIGNS" :: "PLAIN" :: "ANY" :: "StripewalkError" :: "Unfit" :: "is_integer" :: "is_text" :: "is_leaf_value" :: "is_value" :: "is_row" :: "field_of" :: "does_fit" :: "does_field_fit" :: "check_chain" :: "nothing_of" :: "value_of" :: "plain_value" :: "full_value" :: "parting" :: "parting_record" :: "ways" :: "_law_stream" :: "_law_draw" :: "_law_pick" :: "_law_same" :: "_law_name" :: "_law_record" :: "_law_kind" :: "_law_text" :: "_law_int" :: "_law_value" :: "_law_is_name" :: "_law_count" :: "_law_is_schema" :: "_law_part" :: "_law_fits" :: "_law_wrapped" :: "_law_next" :: "_law_next_record" :: "_law_chain" :: "_law_moved" :: "_law_other" :: "_law_parts" :: "_law_is_told" :: [])) (d := HandSHeadRun.topDef (OpenLaw.row PySem.Challenge.rw_stripewalk_k65_whole_ways).prog 50) (kwd := []) DL.K65.ob_eq
    (by kernel_rfl) (fun s => by kernel_rfl) DL.K65.run (by kernel_rfl) (by kernel_rfl) (by kernel_rfl) (by rfl) (by first | assumption | decide +kernel) (by decide +kernel) ⟨rfl, rfl, rfl, rfl, rfl, by decide +kernel⟩ ?hw ?hc
  case hw => w_witness2
  case hc =>
    refine DL.walk_at (l := PySem.Challenge.rw_stripewalk_k65_whole_ways) rfl (by kernel_rfl) ?go
    intro w mg fa h Y G hmg0
    obtain ⟨K, KX, c, g⟩ := Y
    have hmg : mg ("law" : PySem.Str) = some (.ref fa) := by
      have e : (HandSHeadRun.topDef (OpenLaw.row PySem.Challenge.rw_stripewalk_k65_whole_ways).prog 50).name = ("law" : PySem.Str) := by kernel_rfl
      rw [← e]
      exact hmg0
    exact ⟨K, KX, DL.K65.facts (P := (PySem.Challenge.rw_stripewalk_k65_whole_ways).prog) (w := w) KX G hmg c g⟩

