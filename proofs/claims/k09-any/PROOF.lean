import PyProof.Rows.All
import Wide.All
import OpenK.AllK
import Wide.FinOn
import HandS.ForMost
import HandS.TupAny
import HandS.Conv
import PyProof.EqAt
import PyProof.EqKinds
import PyProof.TupleCall
import HandS.ForExc
import HandS.Flow
import HandS.Style
import HandS.Wide
import HandS.IsInst
import HandS.Zip
import HandS.Deep
import HandS.StrMore
import HandS.DictComp
import HandS.SortInts
import HandS.NoneIn
import HandS.Rev
import HandS.Walk
import HandS.CallSlots
import HandS.ExcOwn
import HandS.ExcIs
import HandS.TryOnly
import HandS.Head2
import HandS.HeadHook2
import HandS.HeadEnd
import HandS.Defaults
import HandS.WordsDict
import KE.GoesMore
import PyProof.ReprRoads
import KE.KDictPairs
import HandS.Codes
import PyProof.Rows.RegReprOcc
import HandS.FStr
import PyProof.FitsInt
import PySem.Challenge.RW_stripewalk_k09_any_texts
set_option Elab.async false
set_option linter.all false
set_option maxRecDepth 100000
set_option maxHeartbeats 4000000
/-! ## 0. Tuples that are known to bear no dict of their own -/
namespace DL
open PySem PySem.Spec PyProof.Rows L2
/-- a tuple without attributes -/
def SqP (K : PySem.W.Frag) (H : Hp) (a : Addr) (xs : List V) : Prop :=
  (∃ ob, H a = some (.frz ob (.tup xs)) ∧ ob.dict = none) ∨
    ∃ (ob : Obj) (arr : Array Value) (m : Nat), K.lookup a = some ob ∧ ob.cls = .type "tuple" ∧ ob.dict = none ∧ ob.data = .seq arr m ∧ arr.size ≤ sizeLine ∧ Vals xs arr.toList
theorem SqP.sq {K : PySem.W.Frag} {H : Hp} {a : Addr} {xs : List V} (h : SqP K H a xs) : SqT K H a xs := by
  rcases h with ⟨ob, e, _⟩ | ⟨ob, arr, m, e1, e2, _, e4, e5, e6⟩
  · exact .inl (.inr ⟨ob, e⟩)
  · exact .inr ⟨ob, arr, m, e1, e2, e4, e5, e6⟩
/-- the wish, a new tuple of these being told -/
def NewP (H : Hp) (xs : List V) (Q : VK) : Prop := ∀ (p : Addr) (ob : Obj), H p = none → ob.dict = none → Q (.ref p) (upd H p (.frz ob (.tup xs)))
section
variable {X : Cx} {pins : List (Addr × Obj)} {σ : L2.St} {H : Hp} {s : Shared}
theorem laidP {xs : List V} {its : List Value} {Q : VK} {tk : Nat} (I : Inv X pins σ H s) (rv : Vals xs its) (hz : xs.length ≤ sizeLine) (go : NewP H xs Q) :
    EP X pins σ Q (.ref s.heap.objs.size) { s with heap := s.heap.push { cls := .type "tuple", data := .seq its.toArray }, toks := tk } := by
  have got : (s.heap.push { cls := .type "tuple", data := .seq its.toArray }).get? s.heap.objs.size = some { cls := .type "tuple", data := .seq its.toArray } := Heap.get?_push_size _ rfl
  refine ⟨.ref s.heap.objs.size, upd H s.heap.objs.size (.frz { cls := .type "tuple", data := .seq its.toArray } (.tup xs)), I.laid (t' := tk) (fun _ _ z => Heap.get?_push_of_some _ z) (Nat.le_refl _) ?_, rfl, go _ _ (I.hok.fresh (Nat.le_refl _)) rfl⟩
  exact ⟨got, hz, its, rv, _, got, rfl, _, rfl⟩
end
section
variable {X : Cx} {es : List Expr} {pos : Pos} {ta : TA}
def tTupP (t : TA) : TE := fun σ H Q => t σ H fun xs G => xs.length ≤ sizeLine ∧ NewP G xs Q
theorem pe_tupP {j : Nat} (ha : PA X es ta) : PE X (.Tuple es j pos) (tTupP ta) := by
  constructor
  intro pins s σ H Q I go
  exact wpAny_Tuple_spliced (thn (ha.run pos pins s σ H _ I go) fun us t ⟨xs, G, J, rv, hz, w⟩ => ⟨rv.length ▸ hz, laidP J rv hz w⟩)
/-- t + u -/
def rCatP (K : PySem.W.Frag) : R2 := fun x y H Q => ∃ a b xs ys, x = .ref a ∧ y = .ref b ∧ SqT K H a xs ∧ SqT K H b ys ∧ xs.length + ys.length ≤ sizeLine ∧
  (xs = [] → Q (.ref b) H) ∧ (xs ≠ [] → ys = [] → Q (.ref a) H) ∧ (xs ≠ [] → ys ≠ [] → NewP H (xs ++ ys) Q)
theorem op_catP : OpR X (binaryOp .Add) (rCatP X.K) := by
  rintro pins s σ H x y v u Q I rx ry ⟨a, b, xs, ys, ex, ey, ha, hb, hz, w0, w1, w2⟩
  subst ex; subst ey
  obtain rfl : v = .ref a := rx
  obtain rfl : u = .ref b := ry
  obtain ⟨us, rx', pa, _⟩ := I.tuple ha
  obtain ⟨ws, ry', pb, _⟩ := I.tuple hb
  rcases xs with _ | ⟨x0, xs⟩
  · cases rx'
    exact cat_tup0 pa pb ⟨.ref b, H, I, rfl, w0 rfl⟩
  · refine HT.cat_tup pa pb (fun e => absurd (rx'.nil_iff.mp e) (List.cons_ne_nil _ _)) (fun e => ⟨.ref a, H, I, rfl, w1 (List.cons_ne_nil _ _) (ry'.nil_iff.mp e)⟩) (fun e => ?_) (by rw [← rx'.length, ← ry'.length]; exact hz)
    exact laidP (tk := s.toks) I (rx'.append ry') (by rw [List.length_append]; exact hz) (w2 (List.cons_ne_nil _ _) fun z => e (ry'.nil_iff.mpr z))
/-- t[lo:hi] -/
def rSlP (K : PySem.W.Frag) : V → Option Int → Option Int → Hp → VK → Prop := fun x lo hi H Q => ∃ a xs, x = .ref a ∧ SqT K H a xs ∧
  (HT.sIx xs.length 0 lo = 0 ∧ HT.sIx xs.length xs.length hi = xs.length → Q (.ref a) H) ∧ (¬ (HT.sIx xs.length 0 lo = 0 ∧ HT.sIx xs.length xs.length hi = xs.length) → NewP H (cutV xs lo hi) Q)
theorem sl_tupP : SlR X (rSlP X.K) := by
  rintro pins s σ H x v vl vu lo hi sl Q I rx hs pl pu ⟨a, xs, ex, ha, w1, w2⟩
  subst ex
  obtain rfl : v = .ref a := rx
  obtain ⟨us, rv, pa, hz⟩ := I.tuple ha
  have many : us.toArray.size = xs.length := by rw [List.size_toArray, rv.length]
  refine ⟨"tuple", _, PyProof.Rows.slot_tuple_getitem.lookup, pa.typeIs, ?_⟩
  rcases Classical.em (HT.sIx xs.length 0 lo = 0 ∧ HT.sIx xs.length xs.length hi = xs.length) with all | part
  · refine getItem_tuple_whole pa hs pl pu (by rw [many]; exact all) ⟨.ref a, H, I, rfl, w1 all⟩
  · refine HT.getItem_tuple_cut pa hs pl pu (by rw [many]; exact part) ?_ (by rw [many]; exact hz)
    rw [many]
    exact laidP (tk := s.toks) I ((rv.drop (HT.sIx xs.length 0 lo)).take (HT.sIx xs.length xs.length hi - HT.sIx xs.length 0 lo)) (Nat.le_trans (cutV_length xs lo hi) hz) (w2 part)
/-- tuple(x) of a list, or of a tuple -/
theorem call_tupP : CallR X (.type "tuple") (fun xs H Q => ∃ p ys, xs = [.ref p] ∧ ((SqL X.K H p ys ∧ NewP H ys Q) ∨ (SqT X.K H p ys ∧ Q (.ref p) H))) := by
  rintro pins s σ H xs us Q I r ⟨p, ys, ex, h⟩
  subst ex
  obtain ⟨u, eu, ru⟩ := vals1 r
  subst eu
  obtain rfl : u = .ref p := ru
  rcases h with ⟨hl, w⟩ | ⟨ht, w⟩
  · obtain ⟨its, rv, pl, hz⟩ := I.list hl
    refine call_tuple_list pl.isList (fun h' kp => ?_) (by rw [List.size_toArray, ← rv.length]; exact hz)
    have J : Inv X pins σ H { s with heap := h' } := I.kept (t' := s.toks) kp
    exact laidP (tk := s.toks) J rv hz w
  · obtain ⟨its, rv, pt, _⟩ := I.tuple ht
    exact call_tuple_same pt ⟨.ref p, H, I, rfl, w⟩
/-- tuple(range(..)) -/
def tTupRgP (te : L2.St → Hp → (Int → Int → Hp → Prop) → Prop) : TE := fun σ H Q => te σ H fun a b G => RgOk a b ∧ NewP G (rgV a b) Q
theorem pe_tupRgP {p : Pos} {e : Expr} {te : L2.St → Hp → (Int → Int → Hp → Prop) → Prop} (hc : X.calm = true) (hg : Gl X "tuple") (hm : X.mg "tuple" = none) (he : PRg X e te) (na : starEach [e] X.env = (false, eval e X.env) :: starEach [] X.env) :
    PE X (.Call (.Name "tuple" p) [e] [] pos) (tTupRgP te) := by
  constructor
  intro pins s σ H Q I go
  refine Call_ (ld_blt I hg hm boot_tuple (PyProof.Rows.callWith_type1 (args_cons (thn (he pins s σ H _ I go) fun x t ⟨r, a, b, c, d, f, G, ex, hr, J, ok, w⟩ => args_nil ?_) na) na))
  subst ex
  have ok' := ok
  obtain ⟨k1, k2, k3, k4, k5⟩ := ok'
  refine call_tuple_range (n := (b - a).toNat) (J.ok.hd hc) hr (small_one k1 k2 k3 k4) (rangeSize_nat a b) k5 fun h' tk acc hk hi => ?_
  have J2 : Inv X pins σ G { t with heap := h', toks := tk } := J.kept hk
  have fin := laidP (tk := tk) J2 (vals_rg hi) (by rw [rgV_length, sizeLine_eq]; omega) w
  rw [Array.toArray_toList] at fin
  exact fin
end
end DL

namespace DL
open PySem PySem.Spec PyProof.Rows L2

/-! ## 1. Data -/
inductive D where
  | non | bl (b : Bool) | int (i : Int) | str (s : List Nat) | tup (ds : List D) | tpl (ds : List D) | lst (ds : List D) | ref (a : Addr) | rnd | scr (ds : List D) | ty (n : String) | fn (i : Nat)

/-- a live object -/
inductive HC where
  | lst (ds : List D)
  | dct (kvs : List (D × D))
  | ins (C : Nat) (fs : List (Str × D))

abbrev HD := Addr → Option HC
def updD (H : HD) (a : Addr) (c : HC) : HD := fun b => if b = a then some c else H b
def delD (H : HD) (a : Addr) : HD := fun b => if b = a then none else H b
def emp : HD := fun _ => none
@[simp] theorem updD_same {H : HD} {a : Addr} {c : HC} : updD H a c a = some c := by unfold updD; rw [if_pos rfl]
theorem updD_ne {H : HD} {a b : Addr} {c : HC} (h : b ≠ a) : updD H a c b = H b := by unfold updD; rw [if_neg h]
@[simp] theorem updD_updD {H : HD} {a : Addr} {c c' : HC} : updD (updD H a c) a c' = updD H a c' := by
  funext b; unfold updD; split <;> rfl
@[simp] theorem delD_same {H : HD} {a : Addr} : delD H a a = none := by unfold delD; rw [if_pos rfl]
theorem delD_updD {H : HD} {a : Addr} {c : HC} (h : H a = none) : delD (updD H a c) a = H := by
  funext b; unfold delD updD; split
  · rename_i e; rw [e, h]
  · rfl
theorem updD_comm {H : HD} {a b : Addr} {c d : HC} (h : a ≠ b) : updD (updD H a c) b d = updD (updD H b d) a c := by
  funext x; unfold updD; split
  · rename_i e; rw [if_neg (by rw [e]; exact fun z => h z.symm)]
  · rfl

def mkStr (l : List Nat) : Str := ⟨l.toArray⟩
theorem mkStr_inj {a b : List Nat} (h : mkStr a = mkStr b) : a = b := by
  have := congrArg (fun s => s.cps.toList) h
  simpa [mkStr] using this
theorem mkStr_length (a : List Nat) : (mkStr a).length = a.length := by simp [mkStr, Str.length]
theorem mkStr_append (a b : List Nat) : mkStr a ++ mkStr b = mkStr (a ++ b) := by
  show Str.append _ _ = _
  simp [mkStr, Str.append]
theorem mkStr_of (s : Str) : mkStr s.cps.toList = s := by simp [mkStr]

/-! ## 2. What stands for what -/
/-- a list of the written part -/
def KPart (K : PySem.W.Frag) (a : Addr) (xs : List V) : Prop :=
  ∃ (o : Obj) (its : Array Value) (n : Nat), K.lookup a = some o ∧ o.cls = .type "list" ∧ o.dict = none ∧ o.data = .seq its n ∧ its.size ≤ sizeLine ∧ Vals xs its.toList
/-- a list that stays as it is -/
def LAt (K : PySem.W.Frag) (S : Addr → Option Bool) (H : Hp) (G : HD) (a : Addr) (vs : List V) : Prop :=
  (H a = some (.lst vs) ∧ G a = none ∧ S a = none) ∨ (∃ o, H a = some (.frz o (.lst vs))) ∨ KPart K a vs
theorem LAt.sq {K : PySem.W.Frag} {S : Addr → Option Bool} {H : Hp} {G : HD} {a : Addr} {vs : List V} (h : LAt K S H G a vs) : SqL K H a vs := by
  rcases h with ⟨h, _, _⟩ | ⟨o, h⟩ | h
  · exact .inl (.inl h)
  · exact .inl (.inr ⟨o, h⟩)
  · exact .inr h
section
variable (K : PySem.W.Frag) (fnm : Nat → Option Addr) (clm : Nat → Option Addr) (S : Addr → Option Bool) (H : Hp) (G : HD)
mutual
inductive Dat : V → D → Prop
  | non : Dat .non .non
  | bl (b : Bool) : Dat (.bl b) (.bl b)
  | int (i : Int) : Dat (.int i) (.int i)
  | str (s : List Nat) : PyData.strOk (mkStr s) = true → s.length ≤ sizeLine → Dat (.str (mkStr s)) (.str s)
  | tup {a : Addr} {vs : List V} {ds : List D} : SqP K H a vs → vs.length ≤ sizeLine → DatAll vs ds → Dat (.ref a) (.tup ds)
  | tpl {a : Addr} {vs : List V} {ds : List D} : SqT K H a vs → vs.length ≤ sizeLine → DatAll vs ds → Dat (.ref a) (.tpl ds)
  | lst {a : Addr} {vs : List V} {ds : List D} : H a = some (.lst vs) → G a = none → S a = none → vs.length ≤ sizeLine → DatAll vs ds → Dat (.ref a) (.lst ds)
  | ref (a : Addr) : Dat (.ref a) (.ref a)
  | rnd (a : Addr) : S a = some true → Dat (.ref a) .rnd
  | scr {a : Addr} {vs : List V} {ds : List D} : ((∃ o, H a = some (.frz o (.lst vs))) ∨ KPart K a vs) → vs.length ≤ sizeLine → DatAll vs ds → Dat (.ref a) (.scr ds)
  | ty (n : String) : Dat (.ty n) (.ty n)
  | fn {i : Nat} {f : Addr} : fnm i = some f → Dat (.ref f) (.fn i)
inductive DatAll : List V → List D → Prop
  | nil : DatAll [] []
  | cons {v : V} {d : D} {vs : List V} {ds : List D} : Dat v d → DatAll vs ds → DatAll (v :: vs) (d :: ds)
end
end
theorem DatAll.length {K fnm S H G} : ∀ {vs : List V} {ds : List D}, DatAll K fnm S H G vs ds → vs.length = ds.length
  | _, _, .nil => rfl
  | _, _, .cons _ t => by simp [DatAll.length t]
theorem DatAll.get {K fnm S H G} : ∀ {vs : List V} {ds : List D} {i : Nat} {d : D}, DatAll K fnm S H G vs ds → ds[i]? = some d → ∃ v, vs[i]? = some v ∧ Dat K fnm S H G v d
  | _, _, _, _, .nil, e => by simp at e
  | _, _, 0, _, .cons r _, e => by simp at e; subst e; exact ⟨_, rfl, r⟩
  | _, _, i + 1, _, .cons _ t, e => by
    obtain ⟨v, h1, h2⟩ := DatAll.get t (by simpa using e)
    exact ⟨v, by simpa using h1, h2⟩
theorem DatAll.get' {K fnm S H G} : ∀ {vs : List V} {ds : List D} {i : Nat} {v : V}, DatAll K fnm S H G vs ds → vs[i]? = some v → ∃ d, ds[i]? = some d ∧ Dat K fnm S H G v d
  | _, _, _, _, .nil, e => by simp at e
  | _, _, 0, _, .cons r _, e => by simp at e; subst e; exact ⟨_, rfl, r⟩
  | _, _, i + 1, _, .cons _ t, e => by
    obtain ⟨v, h1, h2⟩ := DatAll.get' t (by simpa using e)
    exact ⟨v, by simpa using h1, h2⟩
theorem DatAll.append {K fnm S H G} : ∀ {vs ws : List V} {ds es : List D}, DatAll K fnm S H G vs ds → DatAll K fnm S H G ws es → DatAll K fnm S H G (vs ++ ws) (ds ++ es)
  | _, _, _, _, .nil, s => s
  | _, _, _, _, .cons r t, s => .cons r (DatAll.append t s)
theorem DatAll.take {K fnm S H G} : ∀ {vs : List V} {ds : List D} (n : Nat), DatAll K fnm S H G vs ds → DatAll K fnm S H G (vs.take n) (ds.take n)
  | _, _, 0, _ => .nil
  | _, _, _ + 1, .nil => .nil
  | _, _, n + 1, .cons r t => .cons r (DatAll.take n t)
theorem DatAll.drop {K fnm S H G} : ∀ {vs : List V} {ds : List D} (n : Nat), DatAll K fnm S H G vs ds → DatAll K fnm S H G (vs.drop n) (ds.drop n)
  | _, _, 0, r => r
  | _, _, _ + 1, .nil => .nil
  | _, _, n + 1, .cons _ t => DatAll.drop n t
theorem DatAll.set {K fnm S H G} {v : V} {d : D} (r : Dat K fnm S H G v d) : ∀ {vs : List V} {ds : List D} (i : Nat), DatAll K fnm S H G vs ds → DatAll K fnm S H G (vs.set i v) (ds.set i d)
  | _, _, _, .nil => .nil
  | _, _, 0, .cons _ t => .cons r t
  | _, _, i + 1, .cons q t => .cons q (DatAll.set r i t)
theorem DatAll.eraseIdx {K fnm S H G} : ∀ {vs : List V} {ds : List D} (i : Nat), DatAll K fnm S H G vs ds → DatAll K fnm S H G (vs.eraseIdx i) (ds.eraseIdx i)
  | _, _, _, .nil => .nil
  | _, _, 0, .cons _ t => t
  | _, _, i + 1, .cons q t => .cons q (DatAll.eraseIdx i t)
theorem DatAll.dropLast {K fnm S H G} {vs : List V} {ds : List D} (h : DatAll K fnm S H G vs ds) : DatAll K fnm S H G vs.dropLast ds.dropLast := by
  rw [List.dropLast_eq_take, List.dropLast_eq_take, h.length]; exact h.take _
theorem DatAll.reverse {K fnm S H G} : ∀ {vs : List V} {ds : List D}, DatAll K fnm S H G vs ds → DatAll K fnm S H G vs.reverse ds.reverse
  | _, _, .nil => .nil
  | _, _, .cons r t => by rw [List.reverse_cons, List.reverse_cons]; exact (DatAll.reverse t).append (.cons r .nil)
theorem DatAll.rep {K fnm S H G} {vs : List V} {ds : List D} (h : DatAll K fnm S H G vs ds) : ∀ n : Nat, DatAll K fnm S H G (List.replicate n vs).flatten (List.replicate n ds).flatten
  | 0 => .nil
  | n + 1 => by rw [List.replicate_succ, List.replicate_succ, List.flatten_cons, List.flatten_cons]; exact h.append (DatAll.rep h n)
theorem DatAll.nil_iff {K fnm S H G} {vs : List V} {ds : List D} (h : DatAll K fnm S H G vs ds) : vs = [] ↔ ds = [] := by
  cases h <;> simp

/-- a law's stream -/
def RndAt (H : Hp) (G : HD) (S : Addr → Option Bool) (a : Addr) : Prop :=
  ∃ (q : Addr) (ns : List Int) (x k m : Int), H a = some (.lst [.ref q, .int x, .int k, .int m]) ∧ H q = some (.lst (ns.map V.int)) ∧ G q = none ∧ S q = none ∧ 0 ≤ x ∧ 0 ≤ k ∧ k ≤ ns.length ∧ 0 ≤ m ∧ m < 2147483647 ∧ ns.length ≤ sizeLine
def keyD : D → Option Key
  | .int i => some (.inl i)
  | .str s => some (.inr (mkStr s))
  | _ => none
section
variable (K : PySem.W.Frag) (fnm : Nat → Option Addr) (clm : Nat → Option Addr) (S : Addr → Option Bool) (H : Hp) (G : HD)
inductive KvAll : List (Key × V) → List (D × D) → Prop
  | nil : KvAll [] []
  | cons {k : Key} {v : V} {c d : D} {vs : List (Key × V)} {ds : List (D × D)} : keyD c = some k → Dat K fnm S H G (kV k) c → Dat K fnm S H G v d → KvAll vs ds → KvAll ((k, v) :: vs) ((c, d) :: ds)
inductive FsAll : List (Str × V) → List (Str × D) → Prop
  | nil : FsAll [] []
  | cons {x : Str} {v : V} {d : D} {vs : List (Str × V)} {ds : List (Str × D)} : Dat K fnm S H G v d → FsAll vs ds → FsAll ((x, v) :: vs) ((x, d) :: ds)
end
def CellOk (K : PySem.W.Frag) (fnm _clm : Nat → Option Addr) (S : Addr → Option Bool) (H : Hp) (G : HD) (a : Addr) : HC → Prop
  | .lst ds => ∃ vs, H a = some (.lst vs) ∧ vs.length ≤ sizeLine ∧ DatAll K fnm S H G vs ds
  | .dct kvs => ∃ vs, H a = some (.dK vs) ∧ KvAll K fnm S H G vs kvs
  | .ins C fs => ∃ c dx vs, fnm (1000 + C) = some c ∧ H a = some (.ins c dx vs) ∧ FsAll K fnm S H G vs fs
section
variable (K : PySem.W.Frag) (fnm : Nat → Option Addr) (clm : Nat → Option Addr) (S : Addr → Option Bool) (H : Hp) (G : HD)
structure Hel : Prop where
  cell : ∀ a c, G a = some c → CellOk K fnm clm S H G a c
  rnd : ∀ a, S a = some true → G a = none ∧ RndAt H G S a
  res : ∀ a, S a = some false → G a = none ∧ H a ≠ none
end
/-- what a piece of code may do: what is neither owned nor a stream stays -/
structure Step (S : Addr → Option Bool) (H : Hp) (G : HD) (S' : Addr → Option Bool) (H' : Hp) (G' : HD) : Prop where
  stay : ∀ a o, H a = some o → G a = none → S a ≠ some true → H' a = some o
  strm : ∀ a b, S a = some b → S' a = some b
  own : ∀ a, (G' a ≠ none ∨ S' a = some true) → G a ≠ none ∨ S a = some true ∨ H a = none
  res : ∀ a, S' a = some false → S a = some false ∨ H a = none
  there : ∀ a, H' a = none → H a = none
theorem Step.refl {S H G} : Step S H G S H G := ⟨fun _ _ h _ _ => h, fun _ _ h => h, fun _ h => h.elim .inl fun x => .inr (.inl x), fun _ h => .inl h, fun _ h => h⟩
theorem Step.trans {S H G S1 H1 G1 S2 H2 G2} (x : Step S H G S1 H1 G1) (y : Step S1 H1 G1 S2 H2 G2) : Step S H G S2 H2 G2 := by
  refine ⟨fun a o h g s => ?_, fun a b h => y.strm a b (x.strm a b h), fun a h => ?_, fun a h => ?_, fun a h => x.there a (y.there a h)⟩
  · have h1 := x.stay a o h g s
    have n : ¬ (G1 a ≠ none ∨ S1 a = some true) := fun z => by
      rcases x.own a z with q | q | q
      · exact q g
      · exact s q
      · rw [h] at q; cases q
    exact y.stay a o h1 (Classical.byContradiction fun z => n (.inl z)) fun z => n (.inr z)
  · rcases y.own a h with q | q | q
    · exact x.own a (.inl q)
    · exact x.own a (.inr q)
    · exact .inr (.inr (x.there a q))
  · rcases y.res a h with q | q
    · exact x.res a q
    · exact .inr (x.there a q)
section
variable {K : PySem.W.Frag} {fnm clm : Nat → Option Addr} {S S' : Addr → Option Bool} {H H' : Hp} {G G' : HD}
theorem Step.un (st : Step S H G S' H' G') {a : Addr} {o : HO} (h : H a = some o) (g : G a = none) (s : S a = none) : H' a = some o ∧ G' a = none ∧ S' a = none := by
  have n : ¬ (G' a ≠ none ∨ S' a = some true) := fun z => by
    rcases st.own a z with q | q | q
    · exact q g
    · rw [s] at q; cases q
    · rw [h] at q; cases q
  refine ⟨st.stay a o h g (by rw [s]; simp), Classical.byContradiction fun z => n (.inl z), ?_⟩
  cases e : S' a with
  | none => rfl
  | some b =>
    cases b with
    | true => exact absurd (.inr e) n
    | false =>
      rcases st.res a e with q | q
      · rw [s] at q; cases q
      · rw [h] at q; cases q
theorem Hel.notTup (R : Hel K fnm clm S H G) {a : Addr} (h : (∃ vs, H a = some (.tup vs)) ∨ ∃ o u, H a = some (.frz o u)) : G a = none ∧ S a ≠ some true := by
  refine ⟨?_, fun s => ?_⟩
  · cases e : G a with
    | none => rfl
    | some c =>
      have q := R.cell a c e
      cases c with
      | lst ds => obtain ⟨vs, q, _⟩ := q; rcases h with ⟨_, h⟩ | ⟨_, _, h⟩ <;> (rw [h] at q; cases q)
      | dct ds => obtain ⟨vs, q, _⟩ := q; rcases h with ⟨_, h⟩ | ⟨_, _, h⟩ <;> (rw [h] at q; cases q)
      | ins C fs => obtain ⟨_, _, vs, _, q, _⟩ := q; rcases h with ⟨_, h⟩ | ⟨_, _, h⟩ <;> (rw [h] at q; cases q)
  · obtain ⟨_, q, _, _, _, _, e, _⟩ := R.rnd a s
    rcases h with ⟨_, h⟩ | ⟨_, _, h⟩ <;> (rw [h] at e; cases e)
/-- what stays so that what stood for what does so still -/
structure Keep (S : Addr → Option Bool) (H : Hp) (G : HD) (S' : Addr → Option Bool) (H' : Hp) (G' : HD) : Prop where
  un : ∀ a o, H a = some o → G a = none → S a = none → H' a = some o ∧ G' a = none ∧ S' a = none
  tup : ∀ a vs, H a = some (.tup vs) → H' a = some (.tup vs)
  frz : ∀ a o u, H a = some (.frz o u) → H' a = some (.frz o u)
  rnd : ∀ a, S a = some true → S' a = some true
theorem Keep.of (R : Hel K fnm clm S H G) (st : Step S H G S' H' G') : Keep S H G S' H' G' :=
  ⟨fun a o h g s => st.un h g s, fun a vs h => let ⟨g, s⟩ := R.notTup (.inl ⟨vs, h⟩); st.stay a _ h g s, fun a o u h => let ⟨g, s⟩ := R.notTup (.inr ⟨o, u, h⟩); st.stay a _ h g s, fun a h => st.strm a _ h⟩
theorem Keep.sqT (k : Keep S H G S' H' G') {a : Addr} {vs : List V} (h : SqT K H a vs) : SqT K H' a vs := by
  rcases h with (h | ⟨o, h⟩) | h
  · exact .inl (.inl (k.tup a _ h))
  · exact .inl (.inr ⟨o, k.frz a _ _ h⟩)
  · exact .inr h
theorem Keep.sqP (k : Keep S H G S' H' G') {a : Addr} {vs : List V} (h : SqP K H a vs) : SqP K H' a vs := by
  rcases h with ⟨o, h, z⟩ | h
  · exact .inl ⟨o, k.frz a _ _ h, z⟩
  · exact .inr h
theorem LAt.keep (k : Keep S H G S' H' G') {a : Addr} {vs : List V} (h : LAt K S H G a vs) : LAt K S' H' G' a vs := by
  rcases h with ⟨h, g, s⟩ | ⟨o, h⟩ | h
  · exact .inl (k.un _ _ h g s)
  · exact .inr (.inl ⟨o, k.frz _ _ _ h⟩)
  · exact .inr (.inr h)
mutual
theorem Dat.keep (k : Keep S H G S' H' G') : ∀ {v : V} {d : D}, Dat K fnm S H G v d → Dat K fnm S' H' G' v d
  | _, _, .non => .non
  | _, _, .bl b => .bl b
  | _, _, .int i => .int i
  | _, _, .str s h z => .str s h z
  | _, _, .tup h z r => .tup (k.sqP h) z (DatAll.keep k r)
  | _, _, .tpl h z r => .tpl (k.sqT h) z (DatAll.keep k r)
  | _, _, .lst h g s z r => let ⟨h', g', s'⟩ := k.un _ _ h g s; .lst h' g' s' z (DatAll.keep k r)
  | _, _, .ref a => .ref a
  | _, _, .rnd a s => .rnd a (k.rnd a s)
  | _, _, .scr h z r => .scr (h.imp (fun ⟨o, h⟩ => ⟨o, k.frz _ _ _ h⟩) id) z (DatAll.keep k r)
  | _, _, .ty n => .ty n
  | _, _, .fn h => .fn h
theorem DatAll.keep (k : Keep S H G S' H' G') : ∀ {vs : List V} {ds : List D}, DatAll K fnm S H G vs ds → DatAll K fnm S' H' G' vs ds
  | _, _, .nil => .nil
  | _, _, .cons r t => .cons (Dat.keep k r) (DatAll.keep k t)
end
theorem Dat.step (R : Hel K fnm clm S H G) (st : Step S H G S' H' G') {v : V} {d : D} (r : Dat K fnm S H G v d) : Dat K fnm S' H' G' v d := r.keep (.of R st)
theorem DatAll.step (R : Hel K fnm clm S H G) (st : Step S H G S' H' G') {vs : List V} {ds : List D} (r : DatAll K fnm S H G vs ds) : DatAll K fnm S' H' G' vs ds := r.keep (.of R st)
end
section
variable {K : PySem.W.Frag} {fnm clm : Nat → Option Addr} {S S' : Addr → Option Bool} {H H' : Hp} {G G' : HD}
theorem KvAll.keep (k : Keep S H G S' H' G') : ∀ {vs ds}, KvAll K fnm S H G vs ds → KvAll K fnm S' H' G' vs ds
  | _, _, .nil => .nil
  | _, _, .cons e c r t => .cons e (c.keep k) (r.keep k) (KvAll.keep k t)
theorem FsAll.keep (k : Keep S H G S' H' G') : ∀ {vs ds}, FsAll K fnm S H G vs ds → FsAll K fnm S' H' G' vs ds
  | _, _, .nil => .nil
  | _, _, .cons r t => .cons (r.keep k) (FsAll.keep k t)
theorem CellOk.keep (k : Keep S H G S' H' G') {a : Addr} (e : H' a = H a) {c : HC} (h : CellOk K fnm clm S H G a c) : CellOk K fnm clm S' H' G' a c := by
  cases c with
  | lst ds => obtain ⟨vs, h1, h2, h3⟩ := h; exact ⟨vs, e.trans h1, h2, h3.keep k⟩
  | dct ds => obtain ⟨vs, h1, h3⟩ := h; exact ⟨vs, e.trans h1, h3.keep k⟩
  | ins C fs => obtain ⟨c, dx, vs, h0, h1, h3⟩ := h; exact ⟨c, dx, vs, h0, e.trans h1, h3.keep k⟩
theorem RndAt.keep (k : Keep S H G S' H' G') {a : Addr} (e : H' a = H a) (h : RndAt H G S a) : RndAt H' G' S' a := by
  obtain ⟨q, ns, x, y, m, h1, h2, h3, h4, h5⟩ := h
  obtain ⟨k1, k2, k3⟩ := k.un _ _ h2 h3 h4
  exact ⟨q, ns, x, y, m, e.trans h1, k1, k2, k3, h5⟩
theorem CellOk.step (R : Hel K fnm clm S H G) (st : Step S H G S' H' G') {a : Addr} (e : H' a = H a) {c : HC} (h : CellOk K fnm clm S H G a c) : CellOk K fnm clm S' H' G' a c := h.keep (.of R st) e
theorem RndAt.step (R : Hel K fnm clm S H G) (st : Step S H G S' H' G') {a : Addr} (e : H' a = H a) (h : RndAt H G S a) : RndAt H' G' S' a := h.keep (.of R st) e
theorem Hel.there (R : Hel K fnm clm S H G) {a : Addr} (h : G a ≠ none ∨ S a ≠ none) : H a ≠ none := fun e => by
  rcases h with h | h
  · cases q : G a with
    | none => exact h q
    | some c =>
      have z := R.cell a c q
      cases c with
      | lst ds => obtain ⟨vs, h1, _⟩ := z; rw [e] at h1; cases h1
      | dct ds => obtain ⟨vs, h1, _⟩ := z; rw [e] at h1; cases h1
      | ins C fs => obtain ⟨c, dx, vs, h0, h1, h3⟩ := z; rw [e] at h1; cases h1
  · cases q : S a with
    | none => exact h q
    | some b =>
      cases b with
      | true =>
        obtain ⟨_, q, ns, x, k, m, h1, _⟩ := R.rnd a q
        rw [e] at h1; cases h1
      | false => exact (R.res a q).2 e
theorem Hel.free (R : Hel K fnm clm S H G) {p : Addr} (h : H p = none) : G p = none ∧ S p = none :=
  ⟨Classical.byContradiction fun z => R.there (.inl z) h, Classical.byContradiction fun z => R.there (.inr z) h⟩
theorem upd_there {p a : Addr} {o : HO} (h : upd H p o a = none) : H a = none := by
  unfold upd at h
  split at h
  · cases h
  · exact h
/-- a new object that is no live one -/
theorem Step.newU {p : Addr} {o : HO} (h : H p = none) : Step S H G S (upd H p o) G :=
  ⟨fun a u e _ _ => by rw [upd_ne (ne_of_none e h)]; exact e, fun _ _ h => h, fun _ h => h.elim .inl fun x => .inr (.inl x), fun _ h => .inl h, fun _ h => upd_there h⟩
/-- the rest of a heap's facts, where the live ones and the streams stand as they were -/
theorem Hel.kept (R : Hel K fnm clm S H G) (st : Step S H G S H' G) (ne : ∀ a, (G a ≠ none ∨ S a = some true) → H' a = H a) : Hel K fnm clm S H' G := by
  refine ⟨fun a c e => (R.cell a c e).step R st (ne a (.inl (by rw [e]; simp))), fun a e => ?_, fun a e => ?_⟩
  · obtain ⟨g, r⟩ := R.rnd a e
    exact ⟨g, r.step R st (ne a (.inr e))⟩
  · obtain ⟨g, r⟩ := R.res a e
    exact ⟨g, fun z => r (st.there a z)⟩
theorem Hel.newU (R : Hel K fnm clm S H G) {p : Addr} {o : HO} (h : H p = none) : Hel K fnm clm S (upd H p o) G := by
  refine R.kept (Step.newU h) fun a z => upd_ne fun e => R.there (a := a) ?_ (by rw [e]; exact h)
  rcases z with z | z
  · exact .inl z
  · exact .inr (by rw [z]; simp)
/-- a new live object -/
theorem Step.new {p : Addr} {o : HO} {c : HC} (h : H p = none) : Step S H G S (upd H p o) (updD G p c) := by
  refine ⟨fun a u e _ _ => by rw [upd_ne (ne_of_none e h)]; exact e, fun _ _ h => h, fun a z => ?_, fun _ h => .inl h, fun _ h => upd_there h⟩
  by_cases q : a = p
  · exact .inr (.inr (by rw [q]; exact h))
  · rw [updD_ne q] at z
    exact z.elim .inl fun x => .inr (.inl x)
theorem Hel.put (R : Hel K fnm clm S H G) {p : Addr} {vs : List V} {ds : List D} (st : Step S H G S (upd H p (.lst vs)) (updD G p (.lst ds))) (ns : S p = none) (z : vs.length ≤ sizeLine) (r : DatAll K fnm S H G vs ds) :
    Hel K fnm clm S (upd H p (.lst vs)) (updD G p (.lst ds)) := by
  refine ⟨fun a c e => ?_, fun a e => ?_, fun a e => ?_⟩
  · by_cases q : a = p
    · subst q
      rw [updD_same] at e; cases e
      exact ⟨vs, upd_same, z, r.step R st⟩
    · rw [updD_ne q] at e
      exact (R.cell a c e).step R st (upd_ne q)
  · obtain ⟨g, r⟩ := R.rnd a e
    have q : a ≠ p := fun z => by rw [z, ns] at e; cases e
    exact ⟨by rw [updD_ne q]; exact g, r.step R st (upd_ne q)⟩
  · obtain ⟨g, r⟩ := R.res a e
    have q : a ≠ p := fun z => by rw [z, ns] at e; cases e
    exact ⟨by rw [updD_ne q]; exact g, by rw [upd_ne q]; exact r⟩
theorem Hel.newL (R : Hel K fnm clm S H G) {p : Addr} {vs : List V} {ds : List D} (h : H p = none) (z : vs.length ≤ sizeLine) (r : DatAll K fnm S H G vs ds) :
    Hel K fnm clm S (upd H p (.lst vs)) (updD G p (.lst ds)) := R.put (Step.new h) (R.free h).2 z r
/-- a live object is changed -/
theorem Step.write {p : Addr} {o : HO} {c : HC} (h : G p ≠ none) : Step S H G S (upd H p o) (updD G p c) := by
  refine ⟨fun a u e g _ => by rw [upd_ne (fun z => h (by rw [← z]; exact g))]; exact e, fun _ _ h => h, fun a z => ?_, fun _ h => .inl h, fun _ h => upd_there h⟩
  by_cases q : a = p
  · exact .inl (by rw [q]; exact h)
  · rw [updD_ne q] at z
    exact z.elim .inl fun x => .inr (.inl x)
theorem Hel.live (R : Hel K fnm clm S H G) {p : Addr} (h : G p ≠ none) : S p = none := by
  cases e : S p with
  | none => rfl
  | some b =>
    cases b with
    | true => exact absurd (R.rnd p e).1 h
    | false => exact absurd (R.res p e).1 h
theorem Hel.writeL (R : Hel K fnm clm S H G) {p : Addr} {vs : List V} {ds : List D} (h : G p ≠ none) (z : vs.length ≤ sizeLine) (r : DatAll K fnm S H G vs ds) :
    Hel K fnm clm S (upd H p (.lst vs)) (updD G p (.lst ds)) := R.put (Step.write h) (R.live h) z r
/-- less is known -/
def Sub (G' G : HD) : Prop := ∀ a c, G' a = some c → G a = some c
theorem Step.less (h : Sub G' G) : Step S H G S H G' := by
  refine ⟨fun _ _ e _ _ => e, fun _ _ h => h, fun a z => ?_, fun _ h => .inl h, fun _ h => h⟩
  rcases z with z | z
  · cases q : G' a with
    | none => exact absurd q z
    | some c => exact .inl (by rw [h a c q]; simp)
  · exact .inr (.inl z)
theorem Sub.no (h : Sub G' G) {a : Addr} (g : G a = none) : G' a = none := by
  cases q : G' a with
  | none => rfl
  | some c => rw [h a c q] at g; cases g
theorem Hel.less (R : Hel K fnm clm S H G) (h : Sub G' G) : Hel K fnm clm S H G' := by
  have st : Step S H G S H G' := Step.less h
  refine ⟨fun a c e => (R.cell a c (h a c e)).step R st rfl, fun a e => ?_, fun a e => ?_⟩
  · obtain ⟨g, r⟩ := R.rnd a e
    exact ⟨h.no g, r.step R st rfl⟩
  · obtain ⟨g, r⟩ := R.res a e
    exact ⟨h.no g, r⟩
theorem sub_del {a : Addr} : Sub (delD G a) G := fun b c e => by
  unfold delD at e
  split at e
  · cases e
  · exact e
theorem Sub.refl : Sub G G := fun _ _ h => h
theorem Sub.upd {p : Addr} {c : HC} (h : G p = none) : Sub G (updD G p c) := fun a o e => by
  rw [updD_ne (fun z => by rw [z, h] at e; cases e)]; exact e
theorem Sub.trans {G1 G2 : HD} (x : Sub G G1) (y : Sub G1 G2) : Sub G G2 := fun a c h => y a c (x a c h)
theorem Sub.emp : Sub emp G := fun a c h => by cases h
end
/-! ### an object kept apart for a while -/
def resS (S : Addr → Option Bool) (p : Addr) : Addr → Option Bool := fun a => if a = p then some false else S a
def unS (S : Addr → Option Bool) (p : Addr) : Addr → Option Bool := fun a => if a = p then none else S a
section
variable {K : PySem.W.Frag} {fnm clm : Nat → Option Addr} {S S' : Addr → Option Bool} {H H' : Hp} {G G' : HD}
theorem Step.reserve {p : Addr} {o : HO} (R : Hel K fnm clm S H G) (h : H p = none) : Step S H G (resS S p) (upd H p o) G := by
  refine ⟨fun a u e _ _ => by rw [upd_ne (ne_of_none e h)]; exact e, fun a b e => ?_, fun a z => ?_, fun a e => ?_, fun _ h => upd_there h⟩
  · unfold resS
    rw [if_neg (fun z => by rw [z, (R.free h).2] at e; cases e)]; exact e
  · unfold resS at z
    rcases z with z | z
    · exact .inl z
    · split at z
      · cases z
      · exact .inr (.inl z)
  · unfold resS at e
    split at e
    · rename_i q; exact .inr (by rw [q]; exact h)
    · exact .inl e
theorem Hel.reserve (R : Hel K fnm clm S H G) {p : Addr} {o : HO} (h : H p = none) : Hel K fnm clm (resS S p) (upd H p o) G := by
  have st : Step S H G (resS S p) (upd H p o) G := Step.reserve R h
  have fr := R.free h
  refine ⟨fun a c e => (R.cell a c e).step R st (upd_ne fun z => by rw [z, fr.1] at e; cases e), fun a e => ?_, fun a e => ?_⟩
  · unfold resS at e
    split at e
    · cases e
    · rename_i q
      obtain ⟨g, r⟩ := R.rnd a e
      exact ⟨g, r.step R st (upd_ne q)⟩
  · by_cases q : a = p
    · subst q; exact ⟨fr.1, by rw [upd_same]; simp⟩
    · unfold resS at e
      rw [if_neg q] at e
      obtain ⟨g, r⟩ := R.res a e
      exact ⟨g, by rw [upd_ne q]; exact r⟩
/-- the object kept apart is changed -/
theorem Keep.change {p : Addr} {o : HO} {vs : List V} (h : H p = some (.lst vs)) (s : S p = some false) : Keep S H G S (upd H p o) G := by
  refine ⟨fun a u e g s' => ⟨by rw [upd_ne (fun z => by rw [z, s] at s'; cases s')]; exact e, g, s'⟩, fun a ws e => ?_, fun a u w e => ?_, fun _ h => h⟩
  · rw [upd_ne (fun z => by rw [z, h] at e; cases e)]; exact e
  · rw [upd_ne (fun z => by rw [z, h] at e; cases e)]; exact e
theorem Hel.change (R : Hel K fnm clm S H G) {p : Addr} {o : HO} {vs : List V} (h : H p = some (.lst vs)) (s : S p = some false) : Hel K fnm clm S (upd H p o) G := by
  have k : Keep S H G S (upd H p o) G := Keep.change h s
  refine ⟨fun a c e => (R.cell a c e).keep k (upd_ne fun z => by rw [z, (R.res p s).1] at e; cases e), fun a e => ?_, fun a e => ?_⟩
  · obtain ⟨g, r⟩ := R.rnd a e
    exact ⟨g, r.keep k (upd_ne fun z => by rw [z, s] at e; cases e)⟩
  · obtain ⟨g, r⟩ := R.res a e
    refine ⟨g, fun z => r (upd_there z)⟩
/-- from before it was there the change is none -/
theorem Step.change {H0 : Hp} {S0 : Addr → Option Bool} {G0 : HD} {p : Addr} {o : HO} (st : Step S0 H0 G0 S H G) (h : H0 p = none) : Step S0 H0 G0 S (upd H p o) G :=
  ⟨fun a u e g s => by rw [upd_ne (ne_of_none e h)]; exact st.stay a u e g s, st.strm, st.own, st.res, fun a z => st.there a (upd_there z)⟩
/-- it is let out -/
theorem Hel.letOut (R : Hel K fnm clm S H G) {p : Addr} (s : S p = some false) : Keep S H G (unS S p) H G ∧ Hel K fnm clm (unS S p) H G := by
  have k : Keep S H G (unS S p) H G := by
    refine ⟨fun a u e g s => ⟨e, g, ?_⟩, fun _ _ e => e, fun _ _ _ e => e, fun a h => ?_⟩
    · unfold unS; split <;> first | rfl | exact s
    · unfold unS; rw [if_neg (fun z => by rw [z, s] at h; cases h)]; exact h
  refine ⟨k, fun a c e => (R.cell a c e).keep k rfl, fun a e => ?_, fun a e => ?_⟩
  · unfold unS at e
    split at e
    · cases e
    · obtain ⟨g, r⟩ := R.rnd a e
      exact ⟨g, r.keep k rfl⟩
  · unfold unS at e
    split at e
    · cases e
    · exact R.res a e
theorem Hel.track (R : Hel K fnm clm S H G) {p : Addr} {vs : List V} {ds : List D} (h : H p = some (.lst vs)) (s : S p = some false) (z : vs.length ≤ sizeLine) (r : DatAll K fnm S H G vs ds) : Hel K fnm clm (unS S p) H (updD G p (.lst ds)) := by
  have k : Keep S H G (unS S p) H (updD G p (.lst ds)) := by
    refine ⟨fun a u e g s' => ?_, fun _ _ e => e, fun _ _ _ e => e, fun a h => ?_⟩
    · have ne : a ≠ p := fun z => by rw [z, s] at s'; cases s'
      refine ⟨e, by rw [updD_ne ne]; exact g, ?_⟩
      unfold unS; split <;> first | rfl | exact s'
    · unfold unS; rw [if_neg (fun z => by rw [z, s] at h; cases h)]; exact h
  refine ⟨fun a c e => ?_, fun a e => ?_, fun a e => ?_⟩
  · by_cases q : a = p
    · subst q
      rw [updD_same] at e; cases e
      exact ⟨vs, h, z, r.keep k⟩
    · rw [updD_ne q] at e
      exact (R.cell a c e).keep k rfl
  · unfold unS at e
    split at e
    · cases e
    · rename_i q
      obtain ⟨g, r⟩ := R.rnd a e
      exact ⟨by rw [updD_ne q]; exact g, r.keep k rfl⟩
  · unfold unS at e
    split at e
    · cases e
    · rename_i q
      obtain ⟨g, r⟩ := R.res a e
      exact ⟨by rw [updD_ne q]; exact g, r⟩
theorem Step.track {H0 : Hp} {S0 : Addr → Option Bool} {G0 : HD} {p : Addr} {c : HC} (st : Step S0 H0 G0 S H G) (h : S0 p = none) (h0 : H0 p = none) : Step S0 H0 G0 (unS S p) H (updD G p c) := by
  refine ⟨st.stay, fun a b e => ?_, fun a z => ?_, fun a e => ?_, st.there⟩
  · unfold unS
    rw [if_neg (fun z => by rw [z, h] at e; cases e)]; exact st.strm a b e
  · by_cases q : a = p
    · exact .inr (.inr (by rw [q]; exact h0))
    · unfold unS at z
      rw [updD_ne q, if_neg q] at z
      exact st.own a z
  · unfold unS at e
    split at e
    · cases e
    · exact st.res a e
theorem Step.letOut {H0 : Hp} {S0 : Addr → Option Bool} {G0 : HD} {p : Addr} (st : Step S0 H0 G0 S H G) (h : S0 p = none) : Step S0 H0 G0 (unS S p) H G := by
  refine ⟨st.stay, fun a b e => ?_, fun a z => ?_, fun a e => ?_, st.there⟩
  · unfold unS
    rw [if_neg (fun z => by rw [z, h] at e; cases e)]; exact st.strm a b e
  · unfold unS at z
    split at z
    · rcases z with z | z
      · exact st.own a (.inl z)
      · cases z
    · exact st.own a z
  · unfold unS at e
    split at e
    · cases e
    · exact st.res a e
end
/-- the slots -/
def SlotOk (K : PySem.W.Frag) (fnm : Nat → Option Addr) (S : Addr → Option Bool) (H : Hp) (G : HD) (σ : List (Option V)) (σD : List (Option D)) : Prop :=
  σ.length = σD.length ∧ ∀ (i : Nat) (d : D), σD[i]? = some (some d) → ∃ v, σ[i]? = some (some v) ∧ Dat K fnm S H G v d
section
variable {K : PySem.W.Frag} {fnm clm : Nat → Option Addr} {S S' : Addr → Option Bool} {H H' : Hp} {G G' : HD} {σ : List (Option V)} {σD : List (Option D)}
theorem SlotOk.step (R : Hel K fnm clm S H G) (st : Step S H G S' H' G') (h : SlotOk K fnm S H G σ σD) : SlotOk K fnm S' H' G' σ σD :=
  ⟨h.1, fun i d e => let ⟨v, h1, h2⟩ := h.2 i d e; ⟨v, h1, h2.step R st⟩⟩
theorem SlotOk.set (h : SlotOk K fnm S H G σ σD) {v : V} {d : D} (r : Dat K fnm S H G v d) (i : Nat) : SlotOk K fnm S H G (σ.set i (some v)) (σD.set i (some d)) := by
  refine ⟨by simp [h.1], fun j e q => ?_⟩
  by_cases hj : i = j
  · subst hj
    by_cases hl : i < σD.length
    · rw [List.getElem?_set_self hl] at q
      cases q
      exact ⟨v, List.getElem?_set_self (by rw [h.1]; exact hl), r⟩
    · rw [List.getElem?_eq_none (by simpa using hl)] at q; cases q
  · rw [List.getElem?_set_ne hj] at q
    obtain ⟨w, h1, h2⟩ := h.2 j e q
    exact ⟨w, by rw [List.getElem?_set_ne hj]; exact h1, h2⟩
theorem SlotOk.wipe1 (h : SlotOk K fnm S H G σ σD) (i : Nat) : SlotOk K fnm S H G (σ.set i none) (σD.set i none) := by
  refine ⟨by simp [h.1], fun j e q => ?_⟩
  by_cases hj : i = j
  · subst hj
    by_cases hl : i < σD.length
    · rw [List.getElem?_set_self hl] at q; cases q
    · rw [List.getElem?_eq_none (by simpa using hl)] at q; cases q
  · rw [List.getElem?_set_ne hj] at q
    obtain ⟨w, h1, h2⟩ := h.2 j e q
    exact ⟨w, by rw [List.getElem?_set_ne hj]; exact h1, h2⟩
end
end DL

namespace DL
open PySem PySem.Spec PyProof.Rows L2

/-! ## 3. The short language -/
inductive BOp where | add | sub | mul | fdiv | mod | pow | xor | bor | band | shl | shr
inductive COp where | eq | ne | lt | le | gt | ge | isn | nisn | inn | nin
inductive Bf where | len | abs | int | bool | tuple | list | all | any | min | max | sum | ord | str
inductive Mt where | append | extend | pop | index | join | count | sindex | scount | sfind
inductive Ty where | non | bool | int | str | tuple | list | dict
  deriving DecidableEq
inductive Tgt where | n (i : Nat) | t (ts : List Tgt)
mutual
inductive E where
  | var (i : Nat) | con (d : D) | glb (i : Nat)
  | bin (z : Bool) (o : BOp) (a b : E) | neg (a : E) | nt (a : E) | boo (b : Bool) (es : Es)
  | cmp (o : COp) (a b : E) | chn (o p : COp) (a b c : E) | ife (t : T) (a b : E)
  | tup (es : Es) | lst (z : Bool) (es : Es) | idx (a b : E) | sl (z : Bool) (a lo hi : E) | no
  | call (f : Nat) (es : Es) | bf (z : Bool) (f : Bf) (es : Es) | isi (a : E) (ts : List Ty)
  | mt (m : Mt) (o : E) (es : Es)
  | lc (z : Bool) (e : E) (g : Tgt) (it : I) (c : T) (own : List (Str × Nat))
  | frz (a : E) | rg1 (z t : Bool) (a : E) | rg2 (z t : Bool) (a b : E)
  | dlen (e v : E) (g : Tgt) (it : I) (c : T) (own : List (Str × Nat))
  | rep (a : E) | dix (a b : E) | isc (i : Nat) (c : Option Nat)
  | lcl (z : Bool) (e : E) (g : Tgt) (a : E) (c : T) (own : List (Str × Nat))
  | fld (c : Nat) (a : E) (f : Str) | mcl (c : Nat) (m : Str) (i : Nat) (o : E) (es : Es) | mak (c i : Nat) (es : Es)
inductive Es where | n | c (e : E) (es : Es)
inductive T where
  | of (e : E) | nt (t : T) | bo (b : Bool) (ts : Ts) | cmp (o : COp) (a b : E) | chn (o p : COp) (a b c : E) | yes
inductive Ts where | n | c (t : T) (ts : Ts)
inductive I where
  | of (e : E) | rng (es : Es) | enu (e : E) | zip (es : Es) | rev (e : E)
end
/-- an except clause's suite -/
inductive SU where
  | n | set (i : Nat) (e : E) (r : SU) | ret (e : E) | ifr (t : T) (e : E) (r : SU)
mutual
inductive S where
  | set (i : Nat) (e : E) | asg (g : Tgt) (e : E) | setI (o i e : E) | aug (i : Nat) (o : BOp) (e : E)
  | ex (e : E) | ret (e : E) | retN | ite (t : T) (a b : Ss) | for_ (g : Tgt) (it : I) (b : Ss) | whl (t : T) (b : Ss)
  | brk | cnt | pas | rai (x : Nat)
  | setF (c : Nat) (o : E) (f : Str) (e : E) | augF (c : Nat) (o : E) (f : Str) (e : E)
  | fz (i : Nat) | tri (b : Ss) (x : Nat) (n : Option Nat) (h : SU)
inductive Ss where | n | c (s : S) (ss : Ss)
end

/-! ## 4. What it means -/
abbrev StD := List (Option D)
abbrev KD := D → HD → Prop
abbrev KX := Nat → HD → Prop
abbrev SpD := List D → HD → KD → KX → Prop
structure Gam where
  sp : Nat → SpD
  gl : Nat → D
  /-- is a class below another one? -/
  sb : Nat → Nat → Bool := fun _ _ => false
  /-- the exception that is handled, its class -/
  xc : Option (Addr × Nat) := none
/-- is y below the class c (none: ValueError)? -/
def Gam.isb (Γ : Gam) (y : Nat) : Option Nat → Bool
  | none => true
  | some c => Γ.sb y c
def ok {α : Type} (o : Option α) (k : α → Prop) : Prop := match o with | some a => k a | none => False
@[simp] theorem ok_some {α : Type} (a : α) (k : α → Prop) : ok (some a) k = k a := rfl
@[simp] theorem ok_none {α : Type} (k : α → Prop) : ok none k = False := rfl
abbrev lim : Nat := 16777216
def seqOf : D → HD → Option (List D)
  | .lst ds, _ => some ds
  | .scr ds, _ => some ds
  | .ref a, H => match H a with | some (.lst ds) => some ds | _ => none
  | _, _ => none
/-- a list of the heap -/
def seqH : D → HD → Option (List D)
  | .lst ds, _ => some ds
  | .ref a, H => match H a with | some (.lst ds) => some ds | _ => none
  | _, _ => none
/-- a tuple's or a list's items -/
def itms (d : D) (H : HD) : Option (List D) := match d with
  | .tup ds => some ds
  | .tpl ds => some ds
  | d => seqOf d H
/-- .. what tuple(x) is made of -/
def itmT (d : D) (H : HD) : Option (List D) := match d with
  | .tup ds => some ds
  | d => seqOf d H
def lenD (d : D) (H : HD) : Option Nat := match d with
  | .str s => some s.length
  | .tup ds => some ds.length
  | .tpl ds => some ds.length
  | d => match seqOf d H with
    | some ds => some ds.length
    | none => match d with
      | .ref a => match H a with | some (.dct kvs) => some kvs.length | _ => none
      | _ => none
def truth (d : D) (H : HD) : Option Bool := match d with
  | .non => some false
  | .bl b => some b
  | .int i => some (i != 0)
  | d => match lenD d H with
    | some n => some (n != 0)
    | none => none
mutual
def py : D → Option PyData
  | .non => some .none
  | .bl b => some (.bool b)
  | .int i => some (.int i)
  | .str s => some (.str (mkStr s))
  | .tup ds => match pys ds with | some xs => some (.tuple xs) | none => none
  | .tpl ds => match pys ds with | some xs => some (.tuple xs) | none => none
  | .lst ds => match pys ds with | some xs => some (.list xs) | none => none
  | .scr ds => match pys ds with | some xs => some (.list xs) | none => none
  | _ => none
def pys : List D → Option (List PyData)
  | [] => some []
  | d :: ds => match py d, pys ds with | some x, some xs => some (x :: xs) | _, _ => none
end
def pyT (d : D) (H : HD) : Option PyData := match d with
  | .ref a => match H a with
    | some (.lst ds) => (match pys ds with | some xs => some (.list xs) | none => none)
    | _ => none
  | d => py d
def eqD (x y : D) (H : HD) : Option Bool := match pyT x H, pyT y H with
  | some a, some b => if min a.depth b.depth ≤ 64 then some (PyData.eqv a b) else none
  | _, _ => none
def flatD : D → Bool
  | .non | .bl _ | .int _ | .str _ => true
  | _ => false
/-- == of flat values -/
def eqF : D → D → Bool
  | .non, .non => true
  | .bl a, .bl b => a == b
  | .bl a, .int b => (if a then 1 else 0) == b
  | .int a, .bl b => a == (if b then 1 else 0)
  | .int a, .int b => a == b
  | .str a, .str b => a == b
  | _, _ => false
def inD (x y : D) (H : HD) : Option Bool := match y with
  | .str t => match x with
    | .str [c] => some (decide (c ∈ t))
    | _ => none
  | y => match itms y H with
    | some ds => if (flatD x && ds.all flatD) = true then some (ds.any fun z => eqF z x) else none
    | none => none
def cmpD (o : COp) (x y : D) (H : HD) : Option Bool := match o with
  | .eq => eqD x y H
  | .ne => (eqD x y H).map (!·)
  | .lt => match x, y with | .int i, .int j => some (decide (i < j)) | _, _ => none
  | .le => match x, y with | .int i, .int j => some (decide (i ≤ j)) | _, _ => none
  | .gt => match x, y with | .int i, .int j => some (decide (j < i)) | _, _ => none
  | .ge => match x, y with | .int i, .int j => some (decide (j ≤ i)) | _, _ => none
  | .isn => match y with | .non => (match x with | .non => some true | _ => some false) | .bl b => (match x with | .bl a => some (decide (a = b)) | _ => none) | _ => none
  | .nisn => match y with | .non => (match x with | .non => some false | _ => some true) | .bl b => (match x with | .bl a => some (!decide (a = b)) | _ => none) | _ => none
  | .inn => inD x y H
  | .nin => (inD x y H).map (!·)
def newL (z : Bool) (ds : List D) (H : HD) (Q : KD) : Prop := match z with
  | true => Q (.lst ds) H
  | false => ∀ p, H p = none → Q (.ref p) (updD H p (.lst ds))
@[simp] theorem newL_t {ds : List D} {H : HD} {Q : KD} : newL true ds H Q = Q (.lst ds) H := rfl
theorem newL_f {ds : List D} {H : HD} {Q : KD} : newL false ds H Q = ∀ p, H p = none → Q (.ref p) (updD H p (.lst ds)) := rfl
def binD (z : Bool) (o : BOp) (x y : D) (H : HD) (Q : KD) : Prop := match o with
  | .add => match x, y with
    | .int i, .int j => Q (.int (i + j)) H
    | .str s, .str t => s.length + t.length ≤ lim ∧ Q (.str (s ++ t)) H
    | .tup s, .tup t => s.length + t.length ≤ lim ∧ Q (.tup (s ++ t)) H
    | x, y => ok (seqH x H) fun a => ok (seqH y H) fun b => a.length + b.length ≤ lim ∧ newL z (a ++ b) H Q
  | .sub => match x, y with | .int i, .int j => Q (.int (i - j)) H | _, _ => False
  | .mul => match x, y with
    | .int i, .int j => ((-18446744073709551616 < i ∧ i < 18446744073709551616) ∨ (-18446744073709551616 < j ∧ j < 18446744073709551616)) ∧ Q (.int (i * j)) H
    | .str s, .int n => (0 ≤ n ∧ n ≤ lim) ∧ s.length * n.toNat ≤ lim ∧ Q (.str (List.replicate n.toNat s).flatten) H
    | x, .int n => ok (seqH x H) fun a => (0 ≤ n ∧ n ≤ lim) ∧ a.length * n.toNat ≤ lim ∧ newL z (List.replicate n.toNat a).flatten H Q
    | _, _ => False
  | .fdiv => match x, y with | .int i, .int j => (0 < j ∧ j < 2 ^ 200) ∧ Q (.int (i / j)) H | _, _ => False
  | .mod => match x, y with | .int i, .int j => 0 < j ∧ Q (.int (i % j)) H | _, _ => False
  | .pow => match x, y with | .int i, .int j => (0 ≤ j ∧ j ≤ 1000000 ∧ i.natAbs < 2 ^ 64) ∧ Q (.int (i ^ j.toNat)) H | _, _ => False
  | .xor => match x, y with | .int i, .int j => Q (.int (Builtin.bitXor i j)) H | _, _ => False
  | .bor => match x, y with | .int i, .int j => Q (.int (Builtin.bitOr i j)) H | _, _ => False
  | .band => match x, y with | .int i, .int j => Q (.int (Builtin.bitAnd i j)) H | _, _ => False
  | .shl => match x, y with | .int i, .int j => (0 ≤ j ∧ j ≤ 1000000 ∧ i.natAbs < 2 ^ 64) ∧ Q (.int (i * 2 ^ j.toNat)) H | _, _ => False
  | .shr => match x, y with | .int i, .int j => 0 ≤ j ∧ Q (.int (i / 2 ^ j.toNat)) H | _, _ => False
def idxD (x i : D) (H : HD) : Option D := match i with
  | .int i => match x with
    | .str s => (atI s i).map fun c => .str [c]
    | x => match itms x H with
      | some ds => atI ds i
      | none => none
  | _ => none
def cutL {α : Type} (xs : List α) (lo hi : Option Int) : List α := (xs.drop (HT.sIx xs.length 0 lo)).take (HT.sIx xs.length xs.length hi - HT.sIx xs.length 0 lo)
def slD (z : Bool) (x : D) (lo hi : Option Int) (H : HD) (Q : KD) : Prop := match x with
  | .str s => Q (.str (cutL s lo hi)) H
  | .tup ds => Q (.tup (cutL ds lo hi)) H
  | x => ok (seqOf x H) fun ds => newL z (cutL ds lo hi) H Q
def tyD (d : D) (H : HD) : Option Ty := match d with
  | .non => some .non
  | .bl _ => some .bool
  | .int _ => some .int
  | .str _ => some .str
  | .tup _ => some .tuple
  | .tpl _ => some .tuple
  | .lst _ => some .list
  | .scr _ => some .list
  | .ref a => match H a with
    | some (.lst _) => some .list
    | some (.dct _) => some .dict
    | _ => none
  | _ => none
def isTy : Ty → Ty → Bool
  | .bool, .int => true
  | a, b => decide (a = b)
def blsOf : List D → Option (List Bool)
  | [] => some []
  | .bl b :: ds => (blsOf ds).map (b :: ·)
  | _ => none
def intsOf : List D → Option (List Int)
  | [] => some []
  | .int b :: ds => (intsOf ds).map (b :: ·)
  | _ => none
def strsOf : List D → Option (List (List Nat))
  | [] => some []
  | .str b :: ds => (strsOf ds).map (b :: ·)
  | _ => none
def joinL (sep : List Nat) : List (List Nat) → List Nat
  | [] => []
  | [x] => x
  | x :: y :: r => x ++ sep ++ joinL sep (y :: r)
/-- a value's text: may it be told? -/
def shOk (p : PyData) : Prop := p.showable = true ∧ p.depth ≤ 64 ∧ p.shown.length ≤ lim ∧ PyData.strOk p.shown = true
/-- pairs of a text and a value -/
def prsD : List D → Option (List (List Nat × D))
  | [] => some []
  | .tup [.str s, v] :: ds => (prsD ds).map ((s, v) :: ·)
  | _ => none
/-- dict(pairs)[k] -/
def drsD : D → Option (List (List Nat × D))
  | .tup ds => match prsD ds with
    | some ps => if (ps.map Prod.fst).Nodup then some ps else none
    | none => none
  | _ => none
def dgtD (ps : List (List Nat × D)) : D → Option D
  | .str s => (ps.find? fun p => decide (p.1 = s)).map Prod.snd
  | _ => none
/-- a field of an instance of the class c -/
def attD (c : Nat) (f : Str) (x : D) (H : HD) : Option D := match x with
  | .ref a => match H a with
    | some (.ins c' fs) => if c' = c then fs.lookup f else none
    | _ => none
  | _ => none
/-- an instance of c, no field of this name -/
def insB (c : Nat) (m : Str) (x : D) (H : HD) : Bool := match x with
  | .ref a => match H a with
    | some (.ins c' fs) => decide (c' = c) && (fs.lookup m).isNone
    | _ => false
  | _ => false
def putFD (f : Str) (d : D) : List (Str × D) → List (Str × D)
  | [] => [(f, d)]
  | (g, e) :: r => if g = f then (g, d) :: r else (g, e) :: putFD f d r
def setFD (c : Nat) (f : Str) (x d : D) (H : HD) (Q : HD → Prop) : Prop := match x with
  | .ref a => match H a with
    | some (.ins c' fs) => (c' = c ∧ fs.length < 1000) ∧ Q (updD H a (.ins c (putFD f d fs)))
    | _ => False
  | _ => False
def bfD (z : Bool) (f : Bf) (ds : List D) (H : HD) (Q : KD) : Prop := match f, ds with
  | .len, [x] => ok (lenD x H) fun n => Q (.int n) H
  | .abs, [.int i] => Q (.int i.natAbs) H
  | .int, [.int i] => Q (.int i) H
  | .int, [.bl b] => Q (.int (if b then 1 else 0)) H
  | .bool, [.bl b] => Q (.bl b) H
  | .bool, [.int i] => Q (.bl (i != 0)) H
  | .tuple, [x] => ok (itmT x H) fun ds => Q (.tup ds) H
  | .list, [x] => ok (itms x H) fun ds => newL z ds H Q
  | .all, [x] => ok (seqOf x H) fun ds => ok (blsOf ds) fun bs => Q (.bl (bs.all id)) H
  | .any, [x] => ok (seqOf x H) fun ds => ok (blsOf ds) fun bs => Q (.bl (bs.any id)) H
  | .min, [.int i, .int j] => Q (.int (if j < i then j else i)) H
  | .max, [.int i, .int j] => Q (.int (if j > i then j else i)) H
  | .min, [x] => ok (seqOf x H) fun ds => ok (intsOf ds) fun ns => 0 < ns.length ∧ ∀ m, m ∈ ns → (∀ y, y ∈ ns → m ≤ y) → Q (.int m) H
  | .max, [x] => ok (seqOf x H) fun ds => ok (intsOf ds) fun ns => 0 < ns.length ∧ ∀ m, m ∈ ns → (∀ y, y ∈ ns → y ≤ m) → Q (.int m) H
  | .sum, [x] => ok (seqOf x H) fun ds => ok (intsOf ds) fun ns => Q (.int ns.sum) H
  | .ord, [.str [c]] => Q (.int c) H
  | .str, [.int i] => i.natAbs.log2 < 1920 ∧ (∀ s : List Nat, mkStr s = Str.ofString (toString i) → Q (.str s) H)
  | _, _ => False
def mtD (m : Mt) (o : D) (es : List D) (H : HD) (Q : KD) : Prop := match m, o, es with
  | .append, .ref a, [d] => (match H a with | some (.lst ds) => ds.length < lim ∧ Q .non (updD H a (.lst (ds ++ [d]))) | _ => False)
  | .extend, .ref a, [x] => (match H a with | some (.lst ds) => ok (seqH x H) fun es => ds.length + es.length ≤ lim ∧ Q .non (updD H a (.lst (ds ++ es))) | _ => False)
  | .pop, .ref a, [] => (match H a with | some (.lst ds) => ok ds.getLast? fun d => Q d (updD H a (.lst ds.dropLast)) | _ => False)
  | .pop, .ref a, [.int i] => (match H a with | some (.lst ds) => (0 ≤ i ∧ i < ds.length) ∧ ok (ds[i.toNat]?) fun d => Q d (updD H a (.lst (ds.eraseIdx i.toNat))) | _ => False)
  | .index, x, [d] => ok (seqOf x H) fun ds => (flatD d && ds.all flatD) = true ∧ ok (ds.findIdx? fun z => eqF z d) fun i => Q (.int (i : Nat)) H
  | .join, .str s, [x] => ok (itms x H) fun ds => ok (strsOf ds) fun ss => (ss.map List.length).sum + ss.length * s.length ≤ lim ∧ Q (.str (joinL s ss)) H
  | .sindex, .str s, [.str t] => ok (Txt.index0 (mkStr s) (mkStr t)) fun i => Q (.int (i : Nat)) H
  | .scount, .str s, [.str t] => Q (.int (Txt.count (mkStr s) (mkStr t))) H
  | .sfind, .str s, [.str t] => Q (.int (Txt.find (mkStr s) (mkStr t))) H
  | _, _, _ => False
/-- what a method is called of -/
def rcv (m : Mt) (x : D) (H : HD) : Bool := match m with
  | .append | .extend | .pop | .index | .count => (seqOf x H).isSome
  | .join | .sindex | .scount | .sfind => match x with | .str _ => true | _ => false
def frzD (d : D) (H : HD) (Q : KD) : Prop := match d with
  | .ref a => (match H a with | some (.lst ds) => Q (.lst ds) (delD H a) | _ => False)
  | d => Q d H
mutual
def asg : Tgt → D → StD → Option StD
  | .n i, d, σ => some (σ.set i (some d))
  | .t ts, .tup ds, σ => asgs ts ds σ
  | .t ts, .tpl ds, σ => asgs ts ds σ
  | .t _, _, _ => none
def asgs : List Tgt → List D → StD → Option StD
  | [], [], σ => some σ
  | g :: gs, d :: ds, σ => match asg g d σ with | some σ' => asgs gs ds σ' | none => none
  | _, _, _ => none
end
def wipeD (σ : StD) : List Nat → StD
  | [] => σ
  | v :: vs => (wipeD σ vs).set v none
/-- what may be walked in a for or a comprehension: it doesn't change meanwhile -/
def walkD : D → Option (List D)
  | .tup ds => some ds
  | .tpl ds => some ds
  | .lst ds => some ds
  | .scr ds => some ds
  | .str s => some (s.map fun c => .str [c])
  | _ => none
/-- .. a live list too, where it stays as it is -/
def lvD (d : D) (H : HD) : Option (List D) := match d with
  | .ref a => match H a with | some (.lst ds) => some ds | _ => none
  | d => walkD d
def gdD (d : D) (ds : List D) (H : HD) : Prop := match d with
  | .ref a => H a = some (.lst ds)
  | _ => True
/-- what may be walked for enumerate, zip, reversed -/
def fixD : D → Option (List D)
  | .tup ds => some ds
  | .lst ds => some ds
  | .scr ds => some ds
  | _ => none
def rngD (ds : List D) : Option (Int × Nat × Int) := match ds with
  | [.int j] => if -4611686018427387904 ≤ j ∧ j < 4611686018427387904 then some (0, j.toNat, 1) else none
  | [.int i, .int j] => if (-4611686018427387904 ≤ i ∧ i < 4611686018427387904) ∧ (-4611686018427387904 ≤ j ∧ j < 4611686018427387904) then some (i, (j - i).toNat, 1) else none
  | [.int i, .int j, .int c] => if ((-4611686018427387904 ≤ i ∧ i < 4611686018427387904) ∧ (-4611686018427387904 ≤ j ∧ j < 4611686018427387904)) ∧ c = -1 then some (i, (i - j).toNat, -1) else none
  | _ => none
def rngF (c : Int) : Nat → Int → List D
  | 0, _ => []
  | n + 1, lo => .int lo :: rngF c n (lo + c)
def rngL (r : Int × Nat × Int) : List D := rngF r.2.2 r.2.1 r.1
/-- tuple(range(i, j)), list(range(i, j)) -/
def rgD (z t : Bool) (i j : Int) (H : HD) (Q : KD) : Prop := ((-4611686018427387904 ≤ i ∧ i < 4611686018427387904) ∧ (-4611686018427387904 ≤ j ∧ j < 4611686018427387904)) ∧ (j - i).toNat ≤ lim ∧
  match t with
  | true => Q (.tup (rngL (i, (j - i).toNat, 1))) H
  | false => newL z (rngL (i, (j - i).toNat, 1)) H Q
def enuF : Nat → List D → List D
  | _, [] => []
  | k, d :: ds => .tpl [.int (k : Nat), d] :: enuF (k + 1) ds
def enuL (ds : List D) : List D := enuF 0 ds
def zip2L : List D → List D → List D
  | x :: xs, y :: ys => .tpl [x, y] :: zip2L xs ys
  | _, _ => []
def zipD (ds : List D) : Option (List D) := match ds with
  | [.lst xs, .lst ys] => some (zip2L xs ys)
  | [.lst xs, .scr ys] => some (zip2L xs ys)
  | [.scr xs, .lst ys] => some (zip2L xs ys)
  | [.scr xs, .scr ys] => some (zip2L xs ys)
  | [.tup xs, .tup ys] => some (zip2L xs ys)
  | _ => none
def isNo : E → Bool
  | .no => true
  | _ => false
/-- an optional part of a slice -/
def wPart (n : Bool) (w : StD → HD → KD → KX → Prop) (σ : StD) (H : HD) (Q : Option Int → HD → Prop) (X : KX) : Prop := match n with
  | true => Q none H
  | false => w σ H (fun d H1 => match d with | .int i => Q (some i) H1 | _ => False) X
/-- the turns of a comprehension -/
def lcD (step : D → HD → (Option D → HD → Prop) → Prop) (Q : List D → HD → Prop) : List D → List D → HD → Prop
  | [], acc, H => Q acc H
  | x :: xs, acc, H => step x H fun r H1 => lcD step Q xs (match r with | some d => acc ++ [d] | none => acc) H1
/-- a dict's keys, one more -/
def insK (acc : List Key) (k : Key) : List Key := if (acc.any fun x => decide (x = k)) = true then acc else acc ++ [k]
/-- the turns of a dict comprehension -/
def dcD (step : D → HD → (Option Key → HD → Prop) → Prop) (Q : List Key → HD → Prop) : List D → List Key → HD → Prop
  | [], acc, H => Q acc H
  | x :: xs, acc, H => step x H fun r H1 => dcD step Q xs (match r with | some k => insK acc k | none => acc) H1
mutual
def wE (Γ : Gam) : E → StD → HD → KD → KX → Prop
  | .var i => fun σ H Q _ => ok (σ.getD i none) fun d => Q d H
  | .con d => fun _ H Q _ => Q d H
  | .glb i => fun _ H Q _ => Q (Γ.gl i) H
  | .bin z o a b => fun σ H Q X => wE Γ a σ H (fun x H1 => wE Γ b σ H1 (fun y H2 => binD z o x y H2 Q) X) X
  | .neg a => fun σ H Q X => wE Γ a σ H (fun x H1 => match x with | .int i => Q (.int (-i)) H1 | _ => False) X
  | .nt a => fun σ H Q X => wE Γ a σ H (fun x H1 => ok (truth x H1) fun b => Q (.bl (!b)) H1) X
  | .boo b es => fun σ H Q X => wBo Γ b es σ H Q X
  | .cmp o a b => fun σ H Q X => wE Γ a σ H (fun x H1 => wE Γ b σ H1 (fun y H2 => ok (cmpD o x y H2) fun c => Q (.bl c) H2) X) X
  | .chn o p a b c => fun σ H Q X => wE Γ a σ H (fun x H1 => wE Γ b σ H1 (fun y H2 => ok (cmpD o x y H2) fun k => match k with
      | true => wE Γ c σ H2 (fun z H3 => ok (cmpD p y z H3) fun k' => Q (.bl k') H3) X
      | false => Q (.bl false) H2) X) X
  | .ife t a b => fun σ H Q X => wT Γ t σ H (fun k H1 => match k with | true => wE Γ a σ H1 Q X | false => wE Γ b σ H1 Q X) X
  | .tup es => fun σ H Q X => wEs Γ es σ H (fun ds H1 => Q (.tup ds) H1) X
  | .lst z es => fun σ H Q X => wEs Γ es σ H (fun ds H1 => newL z ds H1 Q) X
  | .idx a b => fun σ H Q X => wE Γ a σ H (fun x H1 => wE Γ b σ H1 (fun y H2 => ok (idxD x y H2) fun d => Q d H2) X) X
  | .sl z a lo hi => fun σ H Q X => wE Γ a σ H (fun x H1 => wPart (isNo lo) (wE Γ lo) σ H1 (fun l H2 => wPart (isNo hi) (wE Γ hi) σ H2 (fun h H3 => slD z x l h H3 Q) X) X) X
  | .no => fun _ _ _ _ => False
  | .call f es => fun σ H Q X => wEs Γ es σ H (fun ds H1 => Γ.sp f ds H1 Q X) X
  | .bf z f es => fun σ H Q X => wEs Γ es σ H (fun ds H1 => bfD z f ds H1 Q) X
  | .isi a ts => fun σ H Q X => wE Γ a σ H (fun x H1 => ok (tyD x H1) fun t => Q (.bl (ts.any fun u => isTy t u)) H1) X
  | .mt m o es => fun σ H Q X => wE Γ o σ H (fun x H1 => rcv m x H1 = true ∧ wEs Γ es σ H1 (fun ds H2 => mtD m x ds H2 Q) X) X
  | .lc z e g it c own => fun σ H Q X => wI Γ it σ H (fun items H1 => lcD (fun x H2 K => ok (asg g x (wipeD σ (own.map (·.2)))) fun σ' =>
      wT Γ c σ' H2 (fun k H3 => match k with | true => wE Γ e σ' H3 (fun d H4 => K (some d) H4) (fun _ _ => False) | false => K none H3) (fun _ _ => False)) (fun acc H2 => newL z acc H2 Q) items [] H1) X
  | .frz a => fun σ H Q X => wE Γ a σ H (fun d H1 => frzD d H1 Q) X
  | .rg1 z t a => fun σ H Q X => wE Γ a σ H (fun d H1 => match d with | .int j => rgD z t 0 j H1 Q | _ => False) X
  | .rg2 z t a b => fun σ H Q X => wE Γ a σ H (fun d H1 => wE Γ b σ H1 (fun e H2 => match d, e with | .int i, .int j => rgD z t i j H2 Q | _, _ => False) X) X
  | .dix a b => fun σ H Q X => wE Γ a σ H (fun x H1 => ok (drsD x) fun ps => wE Γ b σ H1 (fun y H2 => ok (dgtD ps y) fun d => Q d H2) X) X
  | .isc i c => fun σ H Q _ => match Γ.xc with
    | some (a, y) => σ.getD i none = some (.ref a) ∧ Q (.bl (Γ.isb y c)) H
    | none => False
  | .lcl z e g a c own => fun σ H Q X => wE Γ a σ H (fun d H1 => ok (lvD d H1) fun items => lcD (fun x H2 K => gdD d items H2 ∧ ok (asg g x (wipeD σ (own.map (·.2)))) fun σ' =>
      wT Γ c σ' H2 (fun k H3 => match k with | true => wE Γ e σ' H3 (fun d H4 => K (some d) H4) (fun _ _ => False) | false => K none H3) (fun _ _ => False)) (fun acc H2 => gdD d items H2 ∧ newL z acc H2 Q) items [] H1) X
  | .fld c a f => fun σ H Q X => wE Γ a σ H (fun x H1 => ok (attD c f x H1) fun d => Q d H1) X
  | .mcl c m i o es => fun σ H Q X => wE Γ o σ H (fun x H1 => insB c m x H1 = true ∧ wEs Γ es σ H1 (fun ds H2 => Γ.sp i (x :: ds) H2 Q X) X) X
  | .mak c i es => fun σ H Q X => wEs Γ es σ H (fun ds H1 => ∀ p, H1 p = none → Γ.sp i (.ref p :: ds) (updD H1 p (.ins c [])) (fun d H2 => d = .non ∧ Q (.ref p) H2) X) X
  | .rep a => fun σ H Q X => wE Γ a σ H (fun x H1 => ok (pyT x H1) fun p => shOk p ∧ Q (.str p.shown.cps.toList) H1) X
  | .dlen e v g it c own => fun σ H Q X => wI Γ it σ H (fun items H1 => dcD (fun x H2 K => ok (asg g x (wipeD σ (own.map (·.2)))) fun σ' =>
      wT Γ c σ' H2 (fun k H3 => match k with | true => wE Γ e σ' H3 (fun d H4 => wE Γ v σ' H4 (fun _ H5 => ok (keyD d) fun k => K (some k) H5) (fun _ _ => False)) (fun _ _ => False) | false => K none H3) (fun _ _ => False)) (fun acc H2 => Q (.int (acc.length : Nat)) H2) items [] H1) X
def wEs (Γ : Gam) : Es → StD → HD → (List D → HD → Prop) → KX → Prop
  | .n => fun _ H Q _ => Q [] H
  | .c e es => fun σ H Q X => wE Γ e σ H (fun d H1 => wEs Γ es σ H1 (fun ds H2 => Q (d :: ds) H2) X) X
def wBo (Γ : Gam) (b : Bool) : Es → StD → HD → KD → KX → Prop
  | .n => fun _ _ _ _ => False
  | .c e .n => fun σ H Q X => wE Γ e σ H Q X
  | .c e (.c e' es) => fun σ H Q X => wE Γ e σ H (fun d H1 => ok (truth d H1) fun k => if k = b then wBo Γ b (.c e' es) σ H1 Q X else Q d H1) X
def wT (Γ : Gam) : T → StD → HD → (Bool → HD → Prop) → KX → Prop
  | .of e => fun σ H Q X => wE Γ e σ H (fun d H1 => ok (truth d H1) fun b => Q b H1) X
  | .nt t => fun σ H Q X => wT Γ t σ H (fun b H1 => Q (!b) H1) X
  | .bo b ts => fun σ H Q X => wTs Γ b ts σ H Q X
  | .cmp o a b => fun σ H Q X => wE Γ a σ H (fun x H1 => wE Γ b σ H1 (fun y H2 => ok (cmpD o x y H2) fun c => Q c H2) X) X
  | .chn o p a b c => fun σ H Q X => wE Γ a σ H (fun x H1 => wE Γ b σ H1 (fun y H2 => ok (cmpD o x y H2) fun k => match k with
      | true => wE Γ c σ H2 (fun z H3 => ok (cmpD p y z H3) fun k' => Q k' H3) X
      | false => Q false H2) X) X
  | .yes => fun _ H Q _ => Q true H
def wTs (Γ : Gam) (b : Bool) : Ts → StD → HD → (Bool → HD → Prop) → KX → Prop
  | .n => fun _ _ _ _ => False
  | .c t .n => fun σ H Q X => wT Γ t σ H Q X
  | .c t (.c t' ts) => fun σ H Q X => wT Γ t σ H (fun k H1 => if k = b then wTs Γ b (.c t' ts) σ H1 Q X else Q (!b) H1) X
def wI (Γ : Gam) : I → StD → HD → (List D → HD → Prop) → KX → Prop
  | .of e => fun σ H Q X => wE Γ e σ H (fun d H1 => ok (walkD d) fun ds => Q ds H1) X
  | .rng es => fun σ H Q X => wEs Γ es σ H (fun ds H1 => ok (rngD ds) fun r => r.2.1 ≤ lim ∧ Q (rngL r) H1) X
  | .enu e => fun σ H Q X => wE Γ e σ H (fun d H1 => ok (fixD d) fun ds => Q (enuL ds) H1) X
  | .zip es => fun σ H Q X => wEs Γ es σ H (fun ds H1 => ok (zipD ds) fun ds => Q ds H1) X
  | .rev e => fun σ H Q X => wE Γ e σ H (fun d H1 => ok (fixD d) fun ds => Q ds.reverse H1) X
end
structure EndsD where
  nx : StD → HD → Prop
  rt : KD
  bk : StD → HD → Prop := fun _ _ => False
  ct : StD → HD → Prop := fun _ _ => False
  ex : Nat → StD → HD → Prop := fun _ _ _ => False
def wFor (g : Tgt) (body : EndsD → StD → HD → Prop) (D : EndsD) : List DL.D → StD → HD → Prop
  | [], σ, H => D.nx σ H
  | x :: xs, σ, H => ok (asg g x σ) fun σ' => body { D with nx := wFor g body D xs, ct := wFor g body D xs, bk := D.nx } σ' H
def wWhl (t : StD → HD → (Bool → HD → Prop) → Prop) (body : EndsD → StD → HD → Prop) (D : EndsD) (σ : StD) (H : HD) : Prop :=
  ∃ W : Nat → StD → HD → Prop, (∃ m, W m σ H) ∧ ∀ m σ H, W m σ H →
    t σ H fun b H1 => match b with
      | true => body { D with nx := fun σ' H' => ∃ m', m' < m ∧ W m' σ' H', ct := fun σ' H' => ∃ m', m' < m ∧ W m' σ' H', bk := D.nx } σ H1
      | false => D.nx σ H1
def wSU (Γ : Gam) : SU → EndsD → StD → HD → Prop
  | .n => fun D σ H => D.nx σ H
  | .set i e r => fun D σ H => wE Γ e σ H (fun d H1 => wSU Γ r D (σ.set i (some d)) H1) fun _ _ => False
  | .ret e => fun D σ H => wE Γ e σ H D.rt fun _ _ => False
  | .ifr t e r => fun D σ H => wT Γ t σ H (fun k H1 => match k with | true => wE Γ e σ H1 D.rt fun _ _ => False | false => wSU Γ r D σ H1) fun _ _ => False
/-- the exception's name goes away behind the suite -/
def offD (n : Option Nat) (D : EndsD) : EndsD := match n with
  | none => D
  | some i => { D with nx := fun σ H => D.nx (σ.set i none) H, bk := fun σ H => D.bk (σ.set i none) H, ct := fun σ H => D.ct (σ.set i none) H }
def onD (n : Option Nat) (a : Addr) (σ : StD) : StD := match n with
  | none => σ
  | some i => σ.set i (some (.ref a))
mutual
def wS (Γ : Gam) : S → EndsD → StD → HD → Prop
  | .set i e => fun D σ H => wE Γ e σ H (fun d H1 => D.nx (σ.set i (some d)) H1) fun x H1 => D.ex x σ H1
  | .asg g e => fun D σ H => wE Γ e σ H (fun d H1 => ok (asg g d σ) fun σ' => D.nx σ' H1) fun x H1 => D.ex x σ H1
  | .setI o i e => fun D σ H => wE Γ e σ H (fun d H1 => wE Γ o σ H1 (fun x H2 => wE Γ i σ H2 (fun y H3 => match x, y with
      | .ref a, .int k => (match H3 a with | some (.lst ds) => (0 ≤ k ∧ k < ds.length) ∧ D.nx σ (updD H3 a (.lst (ds.set k.toNat d))) | _ => False)
      | _, _ => False) fun x H1 => D.ex x σ H1) fun x H1 => D.ex x σ H1) fun x H1 => D.ex x σ H1
  | .setF c o f e => fun D σ H => wE Γ e σ H (fun d H1 => wE Γ o σ H1 (fun x H2 => setFD c f x d H2 fun H3 => D.nx σ H3) fun x H1 => D.ex x σ H1) fun x H1 => D.ex x σ H1
  | .augF c o f e => fun D σ H => wE Γ o σ H (fun x H1 => ok (attD c f x H1) fun v => wE Γ e σ H1 (fun y H2 => match v, y with
      | .int i, .int j => setFD c f x (.int (i + j)) H2 fun H3 => D.nx σ H3
      | _, _ => False) fun x H1 => D.ex x σ H1) fun x H1 => D.ex x σ H1
  | .aug i o e => fun D σ H => ok (σ.getD i none) fun x => wE Γ e σ H (fun y H1 => match x, y with
      | .int _, .int _ => binD true o x y H1 fun d H2 => D.nx (σ.set i (some d)) H2
      | .str _, .str _ => binD true o x y H1 fun d H2 => D.nx (σ.set i (some d)) H2
      | _, _ => False) fun x H1 => D.ex x σ H1
  | .ex e => fun D σ H => wE Γ e σ H (fun _ H1 => D.nx σ H1) fun x H1 => D.ex x σ H1
  | .ret e => fun D σ H => wE Γ e σ H D.rt fun x H1 => D.ex x σ H1
  | .retN => fun D _ H => D.rt .non H
  | .ite t a b => fun D σ H => wT Γ t σ H (fun k H1 => match k with | true => wSs Γ a D σ H1 | false => wSs Γ b D σ H1) fun x H1 => D.ex x σ H1
  | .for_ g it b => fun D σ H => wI Γ it σ H (fun items H1 => wFor g (wSs Γ b) D items σ H1) fun x H1 => D.ex x σ H1
  | .whl t b => fun D σ H => wWhl (fun σ H Q => wT Γ t σ H Q fun x H1 => D.ex x σ H1) (wSs Γ b) D σ H
  | .brk => fun D σ H => D.bk σ H
  | .cnt => fun D σ H => D.ct σ H
  | .pas => fun D σ H => D.nx σ H
  | .rai x => fun D σ H => D.ex x σ H
  | .fz i => fun D σ H => ok (σ.getD i none) fun d => frzD d H fun d' H1 => D.nx (σ.set i (some d')) H1
  | .tri b x n h => fun D σ H => wSs Γ b { D with ex := fun y σ' H' => match Γ.sb y x with
      | true => ∀ a, H' a = none → wSU { Γ with xc := some (a, y) } h (offD n D) (onD n a σ') H'
      | false => D.ex y σ' H' } σ H
def wSs (Γ : Gam) : Ss → EndsD → StD → HD → Prop
  | .n => fun D σ H => D.nx σ H
  | .c s ss => fun D σ H => wS Γ s { D with nx := wSs Γ ss D } σ H
end
end DL

namespace DL
open PySem PySem.Spec PyProof.Rows L2
abbrev St' := List (Option V)

/-! ## 5. Contexts and judgements -/
/-- an own class: its name, its instances' fields, its methods (each with its def's place), its __init__'s place -/
structure Oc where
  x : Str
  fds : List Str
  mts : List (Str × Nat)
  ini : Option Nat := none
structure Cfg where
  fns : List (Str × Nat)
  gls : List Str
  cls : List Str
  rp : Bool := false
  ocs : List Oc := []
/-- may repr stand here? -/
def Cfg.no (C : Cfg) : Cfg := { C with rp := false }
def Cfg.yes (C : Cfg) : Cfg := { C with rp := true }
/-- a method's def is told by class.name -/
def dotted (x : Str) : Bool := x.cps.toList.contains 46
def nameOk (x : Str) : Bool := !dotted x && !(x == ("__debug__" : Str)) && !(x == ("__classdict__" : Str)) && !(x == ("__name__" : Str))
def bltNames : List Str := ["len", "abs", "int", "bool", "str", "tuple", "list", "dict", "all", "any", "min", "max", "sum", "ord", "isinstance", "range", "enumerate", "zip", "reversed", "sorted", "repr", "ValueError"]
/-- a def's promise, from one over data -/
def lift (K : PySem.W.Frag) (fnm clm : Nat → Option Addr) (n : Nat) (sp : SpD) : Sp := fun vs H Q E => vs.length = n ∧
  ∃ (S : Addr → Option Bool) (G : HD) (ds : List D) (QD : KD) (XD : KX), Hel K fnm clm S H G ∧ DatAll K fnm S H G vs ds ∧ sp ds G QD XD ∧
    (∀ v S' H' d G', Step S H G S' H' G' → Hel K fnm clm S' H' G' → Dat K fnm S' H' G' v d → QD d G' → Q v H') ∧
    (∀ x c S' H' G', Step S H G S' H' G' → Hel K fnm clm S' H' G' → clm x = some c → XD x G' → E (.ref c) none H')
structure FnGood (P : Program) (w : World) (K : PySem.W.Frag) (mg : Str → Option Value) (base : Heap) (fnm clm : Nat → Option Addr) (k : Nat) (i : Nat) (x : Str × Nat) (sp : SpD) : Prop where
  ex : ∃ f fd ps, ps.length = x.2 ∧ fnm i = some f ∧ (dotted x.1 = false → mg x.1 = some (.ref f)) ∧ PySem.W.keepIn K (.ref f) = true ∧ Binds K fd ps [] ∧ FnOk P w K mg base (L2.CX P w) k f fd ps (lift K fnm clm x.2 sp)
/-- room for a def's call, behind a class's making, too -/
structure RoomM (k : Nat) (A : Around) : Prop where
  r : Room k A
  m : ∀ (c : Addr) (us : List Value), Room k (A.under (.builtin "type.__call__" ⟨.ref c :: us, []⟩))
theorem RoomM.of {k : Nat} {A : Around} (r : Room (k + 1) A) (env : Env) : RoomM k (A.deeper env) :=
  ⟨r.deeper env, fun c us => ⟨r.hd, by have h := r.dp; rw [make_depth]; show A.depth + 1 + 1 + 3 * k + 5 < _; omega, by have h := r.un; rw [make_units]; show A.units + 3 + 1 + 16 * k + 200 < _; omega⟩⟩
/-- an own class stands in the world -/
structure OcAt (K : PySem.W.Frag) (mg : Str → Option Value) (fnm : Nat → Option Addr) (j : Nat) (o : Oc) : Prop where
  ex : ∃ c, fnm (1000 + j) = some c ∧ mg o.x = some (.ref c) ∧ Cls K c ∧ (∀ f ∈ o.fds, NoAttr K c f) ∧ (∀ p ∈ o.mts, ∃ g, fnm p.2 = some g ∧ Meth K c p.1 g) ∧ ∀ i, o.ini = some i → ∃ g, fnm i = some g ∧ Mk K c g
structure COk (C : Cfg) (fnm clm : Nat → Option Addr) (Γ : Gam) (N : List Str) (sc : Scope) (X : Cx) (W : WX) : Prop where
  hN : X.N = N
  nd : N.Nodup
  hsc : X.env.scope = sc
  calm : X.calm = true
  tk : Takes X W
  po : PassesOwn (model X.prog X.w) X.A X.env X.xe
  fnk : ∃ k, RoomM k X.A ∧ ∀ i x, C.fns[i]? = some x → FnGood X.prog X.w X.K X.mg X.base fnm clm k i x (Γ.sp i)
  blt : ∀ x ∈ bltNames, X.mg x = none
  gls : ∀ i x, C.gls[i]? = some x → ∃ u v, X.mg x = some u ∧ RelV v u ∧ ∀ S H G, Dat X.K fnm S H G v (Γ.gl i)
  cls : ∀ i x, C.cls[i]? = some x → ∃ c, clm i = some c ∧ X.mg x = some (.ref c) ∧ PySem.W.excIn X.K c He.veBase "ValueError.__new__" = true ∧ PySem.W.keepIn X.K (.ref c) = true ∧ Raises X (.ref c)
  grd : C.rp = true → X.A.guards = some []
  exm : ∀ i j c d, clm i = some c → clm j = some d → PySem.W.exmOne X.K (.ref c) (.ref d) = some (Γ.sb i j)
  ocs : ∀ j o, C.ocs[j]? = some o → OcAt X.K X.mg fnm j o
  isx : ∀ i c, clm i = some c → L2.ExcC X.K c ∧ PySem.W.kitOne X.K (.ref c) (.type "ValueError") = some true ∧ ∀ j d, clm j = some d → PySem.W.kitOne X.K (.ref c) (.ref d) = some (Γ.sb i j)
section
variable (K : PySem.W.Frag) (fnm clm : Nat → Option Addr)
def PostE (S : Addr → Option Bool) (H : Hp) (G : HD) (QD : KD) (Q : VK) : Prop := ∀ v S' H' d G', Step S H G S' H' G' → Hel K fnm clm S' H' G' → Dat K fnm S' H' G' v d → QD d G' → Q v H'
def PostT (S : Addr → Option Bool) (H : Hp) (G : HD) (QD : Bool → HD → Prop) (Q : Bool → Hp → Prop) : Prop := ∀ b S' H' G', Step S H G S' H' G' → Hel K fnm clm S' H' G' → QD b G' → Q b H'
def PostA (S : Addr → Option Bool) (H : Hp) (G : HD) (n : Nat) (QD : List D → HD → Prop) (Q : List V → Hp → Prop) : Prop := ∀ vs S' H' ds G', vs.length = n → Step S H G S' H' G' → Hel K fnm clm S' H' G' → DatAll K fnm S' H' G' vs ds → QD ds G' → Q vs H'
def PostX (W : WX) (σ : St') (S : Addr → Option Bool) (H : Hp) (G : HD) (XD : KX) : Prop := ∀ x c S' H' G', Step S H G S' H' G' → Hel K fnm clm S' H' G' → clm x = some c → XD x G' → W (.ref c) none σ H'
def RefE (W : WX) (te : TE) (t : StD → HD → KD → KX → Prop) : Prop :=
  ∀ S (σ : St') σD H G Q QD XD, Hel K fnm clm S H G → SlotOk K fnm S H G σ σD → t σD G QD XD → PostE K fnm clm S H G QD Q → PostX K fnm clm W σ S H G XD → te σ H Q
def RefT (W : WX) (te : TT) (t : StD → HD → (Bool → HD → Prop) → KX → Prop) : Prop :=
  ∀ S (σ : St') σD H G Q QD XD, Hel K fnm clm S H G → SlotOk K fnm S H G σ σD → t σD G QD XD → PostT K fnm clm S H G QD Q → PostX K fnm clm W σ S H G XD → te σ H Q
def RefA (W : WX) (n : Nat) (te : TA) (t : StD → HD → (List D → HD → Prop) → KX → Prop) : Prop :=
  ∀ S (σ : St') σD H G Q QD XD, Hel K fnm clm S H G → SlotOk K fnm S H G σ σD → t σD G QD XD → PostA K fnm clm S H G n QD Q → PostX K fnm clm W σ S H G XD → te σ H Q
def RefO (W : WX) (te : TO) (t : StD → HD → (Option Int → HD → Prop) → KX → Prop) : Prop :=
  ∀ S (σ : St') σD H G (Q : Option Int → Hp → Prop) QD XD, Hel K fnm clm S H G → SlotOk K fnm S H G σ σD → t σD G QD XD → (∀ o S' H' G', Step S H G S' H' G' → Hel K fnm clm S' H' G' → QD o G' → Q o H') → PostX K fnm clm W σ S H G XD → te σ H Q
/-- what is walked: from now on, whatever happens, the i-th turn brings the i-th of these -/
structure ItOk (J : It) (S : Addr → Option Bool) (H : Hp) (G : HD) (items : List D) : Prop where
  len : items.length ≤ sizeLine
  go : ∀ S' H' G', Step S H G S' H' G' → Hel K fnm clm S' H' G' → ∀ i d, items[i]? = some d → J.go i H' ∧ ∀ x H'', J.yld i H' x H'' → Step S' H' G' S' H'' G' ∧ Hel K fnm clm S' H'' G' ∧ Dat K fnm S' H'' G' x d
  stop : ∀ S' H' G', Step S H G S' H' G' → Hel K fnm clm S' H' G' → J.stop items.length H'
def RefI (W : WX) (wi : TI) (t : StD → HD → (List D → HD → Prop) → KX → Prop) : Prop :=
  ∀ S (σ : St') σD H G (R : It → Hp → Prop) QD XD, Hel K fnm clm S H G → SlotOk K fnm S H G σ σD → t σD G QD XD →
    (∀ J S' H' G' items, Step S H G S' H' G' → Hel K fnm clm S' H' G' → ItOk K fnm clm J S' H' G' items → QD items G' → R J H') → PostX K fnm clm W σ S H G XD → wi σ H R
structure PostS (S : Addr → Option Bool) (H : Hp) (G : HD) (ED : EndsD) (D : Ends) : Prop where
  nx : ∀ (σ' : St') σD' S' H' G', Step S H G S' H' G' → Hel K fnm clm S' H' G' → SlotOk K fnm S' H' G' σ' σD' → ED.nx σD' G' → D.nx σ' H'
  bk : ∀ (σ' : St') σD' S' H' G', Step S H G S' H' G' → Hel K fnm clm S' H' G' → SlotOk K fnm S' H' G' σ' σD' → ED.bk σD' G' → D.bk σ' H'
  ct : ∀ (σ' : St') σD' S' H' G', Step S H G S' H' G' → Hel K fnm clm S' H' G' → SlotOk K fnm S' H' G' σ' σD' → ED.ct σD' G' → D.ct σ' H'
  rt : PostE K fnm clm S H G ED.rt D.rt
def PostXS (W : WX) (S : Addr → Option Bool) (H : Hp) (G : HD) (XD : Nat → StD → HD → Prop) : Prop :=
  ∀ x c (σ' : St') σD' S' H' G', Step S H G S' H' G' → Hel K fnm clm S' H' G' → SlotOk K fnm S' H' G' σ' σD' → clm x = some c → XD x σD' G' → W (.ref c) none σ' H'
def RefS (W : WX) (ts : TS) (t : EndsD → StD → HD → Prop) : Prop :=
  ∀ S (σ : St') σD H G D ED, Hel K fnm clm S H G → SlotOk K fnm S H G σ σD → t ED σD G → PostS K fnm clm S H G ED D → PostXS K fnm clm W S H G ED.ex → ts D σ H
end
section
variable {K : PySem.W.Frag} {fnm clm : Nat → Option Addr} {S S' : Addr → Option Bool} {H H' : Hp} {G G' : HD}
theorem PostE.step {QD : KD} {Q : VK} (h : PostE K fnm clm S H G QD Q) (st : Step S H G S' H' G') : PostE K fnm clm S' H' G' QD Q :=
  fun v S2 H2 d G2 s2 => h v S2 H2 d G2 (st.trans s2)
theorem PostT.step {QD : Bool → HD → Prop} {Q : Bool → Hp → Prop} (h : PostT K fnm clm S H G QD Q) (st : Step S H G S' H' G') : PostT K fnm clm S' H' G' QD Q :=
  fun v S2 H2 G2 s2 => h v S2 H2 G2 (st.trans s2)
theorem PostX.step {W : WX} {σ : St'} {XD : KX} (h : PostX K fnm clm W σ S H G XD) (st : Step S H G S' H' G') : PostX K fnm clm W σ S' H' G' XD :=
  fun x c S2 H2 G2 s2 => h x c S2 H2 G2 (st.trans s2)
theorem PostS.step {ED : EndsD} {D : Ends} (h : PostS K fnm clm S H G ED D) (st : Step S H G S' H' G') : PostS K fnm clm S' H' G' ED D :=
  ⟨fun a b c d e s2 => h.nx a b c d e (st.trans s2), fun a b c d e s2 => h.bk a b c d e (st.trans s2), fun a b c d e s2 => h.ct a b c d e (st.trans s2), h.rt.step st⟩
theorem PostXS.step {W : WX} {XD : Nat → StD → HD → Prop} (h : PostXS K fnm clm W S H G XD) (st : Step S H G S' H' G') : PostXS K fnm clm W S' H' G' XD :=
  fun x c a b S2 H2 G2 s2 => h x c a b S2 H2 G2 (st.trans s2)
theorem PostXS.at {W : WX} {XD : Nat → StD → HD → Prop} {σ : St'} {σD : StD} (R : Hel K fnm clm S H G) (sl : SlotOk K fnm S H G σ σD) (h : PostXS K fnm clm W S H G XD) : PostX K fnm clm W σ S H G (fun x => XD x σD) :=
  fun x c S2 H2 G2 s2 r2 hc hx => h x c σ σD S2 H2 G2 s2 r2 (sl.step R s2) hc hx
end
def isStar : Expr → Bool
  | .Starred _ _ => true
  | _ => false
theorem star_no {e : Expr} (h : isStar e = false) (es : List Expr) (env : Env) : starEach (e :: es) env = (false, eval e env) :: starEach es env := by
  cases e <;> first | rfl | cases h
def isComp : Expr → Bool
  | .ListComp .. => true
  | .SetComp .. => true
  | .DictComp .. => true
  | _ => false
theorem swap_no {e : Expr} (h : isComp e = false) (t : Option Expr) (l : Nat) (env : Env) : swapsWith e t l env = pure false := by
  cases e <;> first | rfl | cases h
/-- what is asked of an expression besides -/
structure JE (fnm clm : Nat → Option Addr) (X : Cx) (W : WX) (e : Expr) (t : StD → HD → KD → KX → Prop) : Prop where
  star : isStar e = false
  ex : ∃ te, PE X e te ∧ RefE X.K fnm clm W te t
def JT (fnm clm : Nat → Option Addr) (X : Cx) (W : WX) (e : Expr) (t : StD → HD → (Bool → HD → Prop) → KX → Prop) : Prop := ∃ te, PT X e te ∧ RefT X.K fnm clm W te t
structure JA (fnm clm : Nat → Option Addr) (X : Cx) (W : WX) (es : List Expr) (t : StD → HD → (List D → HD → Prop) → KX → Prop) : Prop where
  star : ∀ e ∈ es, isStar e = false
  ex : ∃ te, PA X es te ∧ RefA X.K fnm clm W es.length te t
def JI (fnm clm : Nat → Option Addr) (X : Cx) (W : WX) (tg e : Expr) (t : StD → HD → (List D → HD → Prop) → KX → Prop) : Prop := ∃ te, PI X tg e te ∧ RefI X.K fnm clm W te t
def JS (fnm clm : Nat → Option Addr) (X : Cx) (W : WX) (s : Stmt) (t : EndsD → StD → HD → Prop) : Prop := ∃ te, PS X s te ∧ RefS X.K fnm clm W te t
def JSs (fnm clm : Nat → Option Addr) (X : Cx) (W : WX) (s : List Stmt) (t : EndsD → StD → HD → Prop) : Prop := ∃ te, PSs X s te ∧ RefS X.K fnm clm W te t

section
variable {C : Cfg} {fnm clm : Nat → Option Addr} {Γ : Gam} {N : List Str} {sc : Scope} {X : Cx} {W : WX}

/-! ## 6. Expressions -/
theorem vis_of (k : COk C fnm clm Γ N sc X W) {x : Str} (h : (match sc.names.lookup x with | some .local => true | some .cell => true | some .free => true | _ => false) = true) : Vis X.env.scope x := by
  rw [k.hsc]
  unfold Vis
  split at h <;> simp_all
theorem name_debug {x : Str} (h : nameOk x = true) : (x == ("__debug__" : Str)) = false ∧ (x == ("__classdict__" : Str)) = false ∧ x ≠ "__name__" := by
  unfold nameOk at h
  simp only [Bool.and_eq_true, Bool.not_eq_true', beq_eq_false_iff_ne] at h
  exact ⟨by simpa using h.1.1.2, by simpa using h.1.2, h.2⟩
theorem name_dot {x : Str} (h : nameOk x = true) : dotted x = false := by
  unfold nameOk at h
  simp only [Bool.and_eq_true, Bool.not_eq_true'] at h
  exact h.1.1.1
theorem je_var (k : COk C fnm clm Γ N sc X W) {i : Nat} {x : Str} {pos : Pos} (hi : N[i]? = some x) (hv : Vis X.env.scope x) (hx : nameOk x = true) : JE fnm clm X W (.Name x pos) (wE Γ (.var i)) := by
  obtain ⟨h1, h2, h3⟩ := name_debug hx
  refine ⟨rfl, _, pe_var (by rw [k.hN]; exact hi) hv h1 h2, fun S σ σD H G Q QD XD R sl h hQ hX => ?_⟩
  have h : ok (σD.getD i none) fun d => QD d G := h
  cases e : σD.getD i none with
  | none => rw [e] at h; exact h.elim
  | some d =>
    rw [e] at h
    have e2 : σD[i]? = some (some d) := by
      rw [List.getD_eq_getElem?_getD] at e
      cases q : σD[i]? with
      | none => rw [q] at e; cases e
      | some z => rw [q] at e; simp at e; rw [e]
    obtain ⟨v, h1, h2⟩ := sl.2 i d e2
    exact ⟨v, h1, hQ v S H d G .refl R h2 h⟩
theorem je_con {c : Const} {d : D} {j : Nat} {pos : Pos} (h : match c, d with | .none, .non => True | .bool a, .bl b => a = b | .int i, .int j => i = j | .str s, .str l => s = mkStr l ∧ PyData.strOk s = true ∧ l.length ≤ sizeLine | _, _ => False) :
    JE fnm clm X W (.Constant c j pos) (wE Γ (.con d)) := by
  refine ⟨rfl, ?_⟩
  cases c <;> cases d <;> simp only at h
  · exact ⟨_, pe_non, fun S σ σD H G Q QD XD R sl h hQ hX => hQ _ S H _ G .refl R .non h⟩
  · subst h; exact ⟨_, pe_bl, fun S σ σD H G Q QD XD R sl h hQ hX => hQ _ S H _ G .refl R (.bl _) h⟩
  · subst h; exact ⟨_, pe_int, fun S σ σD H G Q QD XD R sl h hQ hX => hQ _ S H _ G .refl R (.int _) h⟩
  · obtain ⟨rfl, h2, h3⟩ := h; exact ⟨_, pe_str, fun S σ σD H G Q QD XD R sl h hQ hX => hQ _ S H _ G .refl R (.str _ h2 h3) h⟩
theorem gl_of (k : COk C fnm clm Γ N sc X W) {x : Str} (h : (match sc.names.lookup x with | some .globalImplicit => true | _ => false) = true) : Gl X x := by
  show X.env.scope.names.lookup x = _
  rw [k.hsc]
  split at h <;> simp_all
theorem je_glb (k : COk C fnm clm Γ N sc X W) {i : Nat} {x : Str} {pos : Pos} (hi : C.gls[i]? = some x) (hg : Gl X x) (hx : nameOk x = true) : JE fnm clm X W (.Name x pos) (wE Γ (.glb i)) := by
  obtain ⟨h1, h2, h3⟩ := name_debug hx
  obtain ⟨u, v, hm, r, hd⟩ := k.gls i x hi
  exact ⟨rfl, _, pe_glob hg hm r h1, fun S σ σD H G Q QD XD R sl h hQ hX => hQ _ S H _ G .refl R (hd S H G) h⟩
/-- two in a row -/
theorem ref2 {ta tb : TE} {t u : StD → HD → KD → KX → Prop} (ha : RefE X.K fnm clm W ta t) (hb : RefE X.K fnm clm W tb u) {S : Addr → Option Bool} {σ : St'} {σD : StD} {H : Hp} {G : HD} {XD : KX} {RD : D → D → HD → Prop} {R2 : V → V → Hp → Prop}
    (R : Hel X.K fnm clm S H G) (sl : SlotOk X.K fnm S H G σ σD) (h : t σD G (fun x G1 => u σD G1 (fun y G2 => RD x y G2) XD) XD)
    (hQ : ∀ v v' S' H' d d' G', Step S H G S' H' G' → Hel X.K fnm clm S' H' G' → Dat X.K fnm S' H' G' v d → Dat X.K fnm S' H' G' v' d' → RD d d' G' → R2 v v' H') (hX : PostX X.K fnm clm W σ S H G XD) :
    ta σ H fun x H1 => tb σ H1 fun y H2 => R2 x y H2 := by
  refine ha S σ σD H G _ _ XD R sl h (fun v S1 H1 d G1 st1 R1 r1 h1 => ?_) hX
  refine hb S1 σ σD H1 G1 _ _ XD R1 (sl.step R st1) h1 (fun v' S2 H2 d' G2 st2 R2' r2 h2 => ?_) (hX.step st1)
  exact hQ v v' S2 H2 d d' G2 (st1.trans st2) R2' (r1.step R1 st2) r2 h2
/-- an operator by values -/
theorem je_op2 {op : Operator} {r : R2} {a b : Expr} {pos : Pos} {t u : StD → HD → KD → KX → Prop} {rd : D → D → HD → KD → Prop} (ho : OpR X (binaryOp op) r) (ha : JE fnm clm X W a t) (hb : JE fnm clm X W b u)
    (hr : ∀ v v' d d' S H G Q QD, Hel X.K fnm clm S H G → Dat X.K fnm S H G v d → Dat X.K fnm S H G v' d' → rd d d' G QD → PostE X.K fnm clm S H G QD Q → r v v' H Q) :
    JE fnm clm X W (.BinOp a op b pos) (fun σ H Q X => t σ H (fun x H1 => u σ H1 (fun y H2 => rd x y H2 Q) X) X) := by
  obtain ⟨_, ta, pa, ra⟩ := ha
  obtain ⟨_, tb, pb, rb⟩ := hb
  refine ⟨rfl, _, pe_op ho pa pb, fun S σ σD H G Q QD XD R sl h hQ hX => ?_⟩
  exact ref2 ra rb R sl h (fun v v' S' H' d d' G' st R' r1 r2 h' => hr v v' d d' S' H' G' Q QD R' r1 r2 h' (hQ.step st)) hX
end
end DL

namespace DL
open PySem PySem.Spec PyProof.Rows L2
/-! ## 7. Values -/
section
variable {K : PySem.W.Frag} {fnm clm : Nat → Option Addr} {S : Addr → Option Bool} {H : Hp} {G : HD} {v v' : V} {d d' : D} {Q : VK} {QD : KD}
theorem lim_eq : sizeLine = lim := sizeLine_eq
theorem dat_int {i : Int} (r : Dat K fnm S H G v (.int i)) : v = .int i := by cases r; rfl
theorem dat_bl {i : Bool} (r : Dat K fnm S H G v (.bl i)) : v = .bl i := by cases r; rfl
theorem dat_non (r : Dat K fnm S H G v .non) : v = .non := by cases r; rfl
theorem dat_str {s : List Nat} (r : Dat K fnm S H G v (.str s)) : v = .str (mkStr s) ∧ PyData.strOk (mkStr s) = true ∧ s.length ≤ sizeLine := by cases r; exact ⟨rfl, by assumption, by assumption⟩
theorem dat_ref {a : Addr} (r : Dat K fnm S H G v (.ref a)) : v = .ref a := by cases r; rfl
theorem dat_tupP {ds : List D} (r : Dat K fnm S H G v (.tup ds)) : ∃ a vs, v = .ref a ∧ SqP K H a vs ∧ vs.length ≤ sizeLine ∧ DatAll K fnm S H G vs ds := by
  cases r; exact ⟨_, _, rfl, by assumption, by assumption, by assumption⟩
theorem dat_tup {ds : List D} (r : Dat K fnm S H G v (.tup ds)) : ∃ a vs, v = .ref a ∧ SqT K H a vs ∧ vs.length ≤ sizeLine ∧ DatAll K fnm S H G vs ds := by
  obtain ⟨a, vs, h1, h2, h3⟩ := dat_tupP r
  exact ⟨a, vs, h1, h2.sq, h3⟩
theorem dat_tpl {ds : List D} (r : Dat K fnm S H G v (.tpl ds)) : ∃ a vs, v = .ref a ∧ SqT K H a vs ∧ vs.length ≤ sizeLine ∧ DatAll K fnm S H G vs ds := by
  cases r; exact ⟨_, _, rfl, by assumption, by assumption, by assumption⟩
theorem dat_lst {ds : List D} (r : Dat K fnm S H G v (.lst ds)) : ∃ a vs, v = .ref a ∧ LAt K S H G a vs ∧ vs.length ≤ sizeLine ∧ DatAll K fnm S H G vs ds := by
  cases r; exact ⟨_, _, rfl, .inl ⟨by assumption, by assumption, by assumption⟩, by assumption, by assumption⟩
theorem dat_scr {ds : List D} (r : Dat K fnm S H G v (.scr ds)) : ∃ a vs, v = .ref a ∧ LAt K S H G a vs ∧ vs.length ≤ sizeLine ∧ DatAll K fnm S H G vs ds := by
  cases r; exact ⟨_, _, rfl, .inr (by assumption), by assumption, by assumption⟩
theorem strOk_iff {s : List Nat} : PyData.strOk (mkStr s) = true ↔ ∀ c ∈ s, c < 0x110000 := by
  simp [PyData.strOk, mkStr, Array.all_toList.symm]
theorem seq_ok (R : Hel K fnm clm S H G) (r : Dat K fnm S H G v d) {ds : List D} (e : seqOf d G = some ds) : ∃ a vs, v = .ref a ∧ SqL K H a vs ∧ vs.length ≤ sizeLine ∧ DatAll K fnm S H G vs ds := by
  cases d with
  | lst xs =>
    obtain ⟨a, vs, h1, h2, h5, h6⟩ := dat_lst r
    cases e
    exact ⟨a, vs, h1, h2.sq, h5, h6⟩
  | scr xs =>
    obtain ⟨a, vs, h1, h2, h5, h6⟩ := dat_scr r
    cases e
    exact ⟨a, vs, h1, h2.sq, h5, h6⟩
  | ref a =>
    have h := dat_ref r
    cases q : G a with
    | none => simp [seqOf, q] at e
    | some c =>
      simp only [seqOf, q] at e
      cases c with
      | lst xs =>
        cases e
        obtain ⟨vs, h1, h2, h3⟩ := R.cell a _ q
        exact ⟨a, vs, h, SqL.of h1, h2, h3⟩
      | dct _ => cases e
      | ins _ _ => cases e
  | _ => cases e
theorem seqH_ok (R : Hel K fnm clm S H G) (r : Dat K fnm S H G v d) {ds : List D} (e : seqH d G = some ds) : ∃ a vs, v = .ref a ∧ H a = some (.lst vs) ∧ vs.length ≤ sizeLine ∧ DatAll K fnm S H G vs ds := by
  cases d with
  | lst xs =>
    cases e
    cases r; exact ⟨_, _, rfl, by assumption, by assumption, by assumption⟩
  | ref a =>
    have h := dat_ref r
    cases q : G a with
    | none => simp [seqH, q] at e
    | some c =>
      simp only [seqH, q] at e
      cases c with
      | lst xs =>
        cases e
        obtain ⟨vs, h1, h2, h3⟩ := R.cell a _ q
        exact ⟨a, vs, h, h1, h2, h3⟩
      | dct _ => cases e
      | ins _ _ => cases e
  | _ => cases e
theorem itm_ok (R : Hel K fnm clm S H G) (r : Dat K fnm S H G v d) {ds : List D} (e : itms d G = some ds) : ∃ a vs, v = .ref a ∧ (SqL K H a vs ∨ SqT K H a vs) ∧ vs.length ≤ sizeLine ∧ DatAll K fnm S H G vs ds := by
  cases d with
  | tup xs =>
    cases e
    obtain ⟨a, vs, h1, h2, h3, h4⟩ := dat_tup r
    exact ⟨a, vs, h1, .inr h2, h3, h4⟩
  | tpl xs =>
    cases e
    obtain ⟨a, vs, h1, h2, h3, h4⟩ := dat_tpl r
    exact ⟨a, vs, h1, .inr h2, h3, h4⟩
  | lst xs => obtain ⟨a, vs, h1, h2, h3, h4⟩ := seq_ok R r e; exact ⟨a, vs, h1, .inl h2, h3, h4⟩
  | scr xs => obtain ⟨a, vs, h1, h2, h3, h4⟩ := seq_ok R r e; exact ⟨a, vs, h1, .inl h2, h3, h4⟩
  | ref a => obtain ⟨a, vs, h1, h2, h3, h4⟩ := seq_ok R r e; exact ⟨a, vs, h1, .inl h2, h3, h4⟩
  | _ => cases e
theorem ok_of {α : Type} {o : Option α} {k : α → Prop} (h : ok o k) : ∃ a, o = some a ∧ k a := by
  cases o with
  | none => exact h.elim
  | some a => exact ⟨a, rfl, h⟩
theorem new_list (R : Hel K fnm clm S H G) {z : Bool} {vs : List V} {ds : List D} (hz : vs.length ≤ sizeLine) (r : DatAll K fnm S H G vs ds) (h : newL z ds G QD) (hQ : PostE K fnm clm S H G QD Q) :
    ∀ p, H p = none → Q (.ref p) (upd H p (.lst vs)) := fun p hp => by
  cases z with
  | true => exact hQ _ S _ _ G (.newU hp) (R.newU hp) (.lst upd_same (R.free hp).1 (R.free hp).2 hz (r.step R (.newU hp))) h
  | false => exact hQ _ S _ _ _ (.new hp) (R.newL hp hz r) (.ref p) (h p (R.free hp).1)
theorem new_tup (R : Hel K fnm clm S H G) {vs : List V} {ds : List D} (hz : vs.length ≤ sizeLine) (r : DatAll K fnm S H G vs ds) (h : QD (.tup ds) G) (hQ : PostE K fnm clm S H G QD Q) :
    NewP H vs Q := fun p ob hp hd =>
  hQ _ S _ _ G (.newU hp) (R.newU hp) (.tup (.inl ⟨ob, upd_same, hd⟩) hz (r.step R (.newU hp))) h
theorem PostE.here (R : Hel K fnm clm S H G) (hQ : PostE K fnm clm S H G QD Q) (r : Dat K fnm S H G v d) (h : QD d G) : Q v H := hQ v S H d G .refl R r h
theorem PostT.here {b : Bool} {Q : Bool → Hp → Prop} {QD : Bool → HD → Prop} (R : Hel K fnm clm S H G) (hQ : PostT K fnm clm S H G QD Q) (h : QD b G) : Q b H := hQ b S H G .refl R h
end
section
variable {fnm clm : Nat → Option Addr} {X : Cx}
/-! ### operators -/
theorem fold_rep (x : List Nat) : ∀ (n : Nat) (acc : Array Nat), ((List.replicate n x.toArray).foldl (· ++ ·) acc) = acc ++ ((List.replicate n x).flatten).toArray
  | 0, acc => by simp
  | n + 1, acc => by
    rw [List.replicate_succ, List.foldl_cons, fold_rep x n, List.replicate_succ, List.flatten_cons]
    simp [Array.append_assoc]
theorem rep_len (s : List Nat) (n : Nat) : ((List.replicate n s).flatten).length = s.length * n := by
  rw [List.length_flatten]; simp; rw [Nat.mul_comm]
theorem op_mulS {X : Cx} : OpR X (binaryOp .Mult) (fun x y H Q => ∃ (s : List Nat) (n : Int), x = .str (mkStr s) ∧ y = .int n ∧ (0 ≤ n ∧ n ≤ lim) ∧ s.length * n.toNat ≤ lim ∧ Q (.str (mkStr (List.replicate n.toNat s).flatten)) H) := by
  intro pins st σ H x y v u Q I rx ry h
  obtain ⟨s, n, rfl, rfl, ⟨h0, h1⟩, h2, q⟩ := h
  obtain ⟨t, rfl⟩ := rx
  obtain ⟨t', rfl⟩ := ry
  have hlim : lim = 16777216 := rfl
  have hl := mkStr_length s
  refine PySem.P.mul_str ?_ (fun a b => ?_) (fun a b => ?_) ?_
  · rw [decide_eq_false (by omega), decide_eq_false (by omega)]; rfl
  · rw [hl]
    intro z
    have : (s.length : Int) * n ≤ 16777216 := by
      have := Int.ofNat_le.mpr h2
      rw [Int.natCast_mul, Int.toNat_of_nonneg h0] at this
      exact this
    have e : (2 : Int) ^ 63 - 1 = 9223372036854775807 := by decide
    rw [e] at z
    have := (Int.ediv_lt_iff_lt_mul (by omega)).mp z
    omega
  · rw [hl]
    unfold Builtin.Str.tooLong
    rw [lim_eq]
    exact decide_eq_false (by omega)
  · by_cases c1 : n < 1
    · have : n = 0 := by omega
      subst this
      rw [if_pos (by decide)]
      exact ⟨by decide, .str (mkStr []), H, I.tok _, ⟨_, rfl⟩, q⟩
    · rw [if_neg c1]
      by_cases c2 : (n == 1 || (mkStr s).length == 0) = true
      · rw [if_pos c2]
        have e : (List.replicate n.toNat s).flatten = s := by
          rw [hl, Bool.or_eq_true] at c2
          rcases c2 with c2 | c2
          · have : n = 1 := by simpa using c2
            subst this; simp
          · have : s = [] := by simpa using c2
            subst this; simp
        rw [e] at q
        exact ⟨.str (mkStr s), H, I, ⟨_, rfl⟩, q⟩
      · rw [if_neg c2]
        have e : (⟨(List.replicate n.toNat (mkStr s).cps).foldl (· ++ ·) #[]⟩ : Str) = mkStr (List.replicate n.toNat s).flatten := by
          unfold mkStr
          rw [fold_rep]; simp
        rw [e]
        exact ⟨by rw [mkStr_length, rep_len, lim_eq]; exact h2, .str _, H, I.tok _, ⟨_, rfl⟩, q⟩
def bopB : BOp → Operator → Bool
  | .add, .Add => true | .sub, .Sub => true | .mul, .Mult => true | .fdiv, .FloorDiv => true | .mod, .Mod => true | .pow, .Pow => true
  | .xor, .BitXor => true | .bor, .BitOr => true | .band, .BitAnd => true | .shl, .LShift => true | .shr, .RShift => true
  | _, _ => false
theorem wide_ok {j : Int} (h : 0 < j ∧ j < 2 ^ 200) : CDivW 0 j := by
  refine wide_div (b := 200) h.1 ?_ (by decide) (by decide)
  have : (j.natAbs : Int) < ((2 ^ 200 : Nat) : Int) := by
    rw [Int.natAbs_of_nonneg (Int.le_of_lt h.1)]
    exact_mod_cast h.2
  exact_mod_cast this
theorem bin_ok {z : Bool} {o : BOp} {op : Operator} (ho : bopB o op = true) : ∃ r, OpR X (binaryOp op) r ∧
    ∀ v v' d d' S H G Q QD, Hel X.K fnm clm S H G → Dat X.K fnm S H G v d → Dat X.K fnm S H G v' d' → binD z o d d' G QD → PostE X.K fnm clm S H G QD Q → r v v' H Q := by
  cases o <;> cases op <;> first | cases ho | skip
  -- add
  · refine ⟨_, op_add.or (op_add_str.or (op_catP.or op_cat)), fun v v' d d' S H G Q QD R r r' h hQ => ?_⟩
    have seqs : ∀ {x y : D}, Dat X.K fnm S H G v x → Dat X.K fnm S H G v' y → (ok (seqH x G) fun a => ok (seqH y G) fun b => a.length + b.length ≤ lim ∧ newL z (a ++ b) G QD) → rCat v v' H Q := by
      intro x y rx ry h
      obtain ⟨a, e1, h⟩ := ok_of h
      obtain ⟨b, e2, h1, h2⟩ := ok_of h
      obtain ⟨p, vs, rfl, hp, zp, rp⟩ := seqH_ok R rx e1
      obtain ⟨q, ws, rfl, hq, zq, rq⟩ := seqH_ok R ry e2
      refine ⟨p, q, vs, ws, rfl, rfl, hp, hq, ?_, ?_⟩
      · rw [rp.length, rq.length, lim_eq]; exact h1
      · exact new_list R (by rw [List.length_append, rp.length, rq.length, lim_eq]; exact h1) (rp.append rq) h2 hQ
    cases d with
    | int i =>
      cases d' with
      | int j =>
        cases dat_int r; cases dat_int r'
        exact .inl ⟨i, j, rfl, rfl, hQ.here R (.int _) h⟩
      | _ => exact .inr (.inr (.inr (seqs r r' h)))
    | str s =>
      cases d' with
      | str t =>
        obtain ⟨rfl, k1, _⟩ := dat_str r
        obtain ⟨rfl, k2, _⟩ := dat_str r'
        refine .inr (.inl ⟨_, _, rfl, rfl, by rw [mkStr_length, mkStr_length, lim_eq]; exact h.1, ?_⟩)
        rw [mkStr_append]
        refine hQ.here R (.str _ ?_ (by rw [List.length_append, lim_eq]; exact h.1)) h.2
        rw [strOk_iff] at k1 k2 ⊢
        intro c hc
        rcases List.mem_append.mp hc with q | q
        · exact k1 c q
        · exact k2 c q
      | _ => exact .inr (.inr (.inr (seqs r r' h)))
    | tup s =>
      cases d' with
      | tup t =>
        obtain ⟨a, vs, rfl, h1, z1, r1⟩ := dat_tupP r
        obtain ⟨b, ws, rfl, h2, z2, r2⟩ := dat_tupP r'
        refine .inr (.inr (.inl ⟨a, b, vs, ws, rfl, rfl, h1.sq, h2.sq, by rw [r1.length, r2.length, lim_eq]; exact h.1, fun e => ?_, fun _ e => ?_, fun _ _ => ?_⟩))
        · subst e; cases r1
          exact hQ.here R (.tup h2 z2 r2) h.2
        · subst e; cases r2
          exact hQ.here R (.tup h1 z1 r1) (by have := h.2; rw [List.append_nil] at this; exact this)
        · exact new_tup R (by rw [List.length_append, r1.length, r2.length, lim_eq]; exact h.1) (r1.append r2) h.2 hQ
      | _ => exact .inr (.inr (.inr (seqs r r' h)))
    | _ => exact .inr (.inr (.inr (seqs r r' h)))
  -- sub
  · refine ⟨_, op_sub, fun v v' d d' S H G Q QD R r r' h hQ => ?_⟩
    cases d <;> try exact h.elim
    cases d' <;> try exact h.elim
    cases dat_int r; cases dat_int r'
    exact ⟨_, _, rfl, rfl, hQ.here R (.int _) h⟩
  -- mul
  · refine ⟨_, op_mul.or (op_mulS.or op_rep), fun v v' d d' S H G Q QD R r r' h hQ => ?_⟩
    have seqs : ∀ {x : D} {n : Int}, Dat X.K fnm S H G v x → Dat X.K fnm S H G v' (.int n) → (ok (seqH x G) fun a => (0 ≤ n ∧ n ≤ lim) ∧ a.length * n.toNat ≤ lim ∧ newL z (List.replicate n.toNat a).flatten G QD) → rRep v v' H Q := by
      intro x n rx ry h
      obtain ⟨a, e1, h0, h1, h2⟩ := ok_of h
      obtain ⟨p, vs, rfl, hp, zp, rp⟩ := seqH_ok R rx e1
      cases dat_int ry
      refine ⟨p, n, vs, rfl, rfl, hp, by omega, by have := h0.2; unfold lim at this; omega, by rw [rp.length, lim_eq]; exact h1, ?_⟩
      have hl : ((List.replicate n.toNat vs).flatten).length ≤ sizeLine := by rw [(rp.rep n.toNat).length, List.length_flatten]; simp; rw [Nat.mul_comm, lim_eq]; exact h1
      exact new_list R hl (rp.rep _) h2 hQ
    cases d with
    | int i =>
      cases d' with
      | int j =>
        cases dat_int r; cases dat_int r'
        refine .inl ⟨i, j, rfl, rfl, ?_, hQ.here R (.int _) h.2⟩
        have e : (2 : Int) ^ 64 = 18446744073709551616 := by decide
        unfold CMul
        rw [e]
        exact h.1
      | _ => exact h.elim
    | str s =>
      cases d' with
      | int j =>
        obtain ⟨rfl, k, _⟩ := dat_str r
        cases dat_int r'
        have h : (0 ≤ j ∧ j ≤ lim) ∧ s.length * j.toNat ≤ lim ∧ QD (.str (List.replicate j.toNat s).flatten) G := h
        refine .inr (.inl ⟨s, j, rfl, rfl, h.1, h.2.1, hQ.here R (.str _ ?_ (by rw [rep_len, lim_eq]; exact h.2.1)) h.2.2⟩)
        rw [strOk_iff] at k ⊢
        intro c hc
        obtain ⟨l, h1, h2⟩ := List.mem_flatten.mp hc
        rw [List.mem_replicate] at h1
        exact k c (by rw [← h1.2]; exact h2)
      | _ => exact h.elim
    | _ =>
      cases d' with
      | int j => exact .inr (.inr (seqs r r' h))
      | _ => exact h.elim
  -- fdiv
  · refine ⟨_, op_fdivW, fun v v' d d' S H G Q QD R r r' h hQ => ?_⟩
    cases d <;> try exact h.elim
    cases d' <;> try exact h.elim
    cases dat_int r; cases dat_int r'
    exact ⟨_, _, rfl, rfl, wide_ok h.1, hQ.here R (.int _) h.2⟩
  -- mod
  · refine ⟨_, op_mod, fun v v' d d' S H G Q QD R r r' h hQ => ?_⟩
    cases d <;> try exact h.elim
    cases d' <;> try exact h.elim
    cases dat_int r; cases dat_int r'
    exact ⟨_, _, rfl, rfl, h.1, hQ.here R (.int _) h.2⟩
  -- pow
  · refine ⟨_, op_pow, fun v v' d d' S H G Q QD R r r' h hQ => ?_⟩
    cases d <;> try exact h.elim
    cases d' <;> try exact h.elim
    cases dat_int r; cases dat_int r'
    exact ⟨_, _, rfl, rfl, h.1, hQ.here R (.int _) h.2⟩
  · refine ⟨_, op_xor, fun v v' d d' S H G Q QD R r r' h hQ => ?_⟩
    cases d <;> try exact h.elim
    cases d' <;> try exact h.elim
    cases dat_int r; cases dat_int r'
    exact ⟨_, _, rfl, rfl, hQ.here R (.int _) h⟩
  · refine ⟨_, op_or, fun v v' d d' S H G Q QD R r r' h hQ => ?_⟩
    cases d <;> try exact h.elim
    cases d' <;> try exact h.elim
    cases dat_int r; cases dat_int r'
    exact ⟨_, _, rfl, rfl, hQ.here R (.int _) h⟩
  · refine ⟨_, op_and, fun v v' d d' S H G Q QD R r r' h hQ => ?_⟩
    cases d <;> try exact h.elim
    cases d' <;> try exact h.elim
    cases dat_int r; cases dat_int r'
    exact ⟨_, _, rfl, rfl, hQ.here R (.int _) h⟩
  · refine ⟨_, op_shl, fun v v' d d' S H G Q QD R r r' h hQ => ?_⟩
    cases d <;> try exact h.elim
    cases d' <;> try exact h.elim
    cases dat_int r; cases dat_int r'
    exact ⟨_, _, rfl, rfl, h.1, hQ.here R (.int _) h.2⟩
  · refine ⟨_, op_shr, fun v v' d d' S H G Q QD R r r' h hQ => ?_⟩
    cases d <;> try exact h.elim
    cases d' <;> try exact h.elim
    cases dat_int r; cases dat_int r'
    exact ⟨_, _, rfl, rfl, h.1, hQ.here R (.int _) h.2⟩
end
end DL

namespace DL
open PySem PySem.Spec PyProof.Rows L2
/-! ### == -/
section
variable {K : PySem.W.Frag} {fnm clm : Nat → Option Addr} {S : Addr → Option Bool} {H : Hp} {G : HD}
mutual
theorem dp_of : ∀ (d : D) {v : V} {x : PyData}, Dat K fnm S H G v d → py d = some x → Dp K H v x ∧ x.canLay0 = true
  | .non, v, x, r, e => by cases dat_non r; cases e; exact ⟨.non, rfl⟩
  | .bl b, v, x, r, e => by cases dat_bl r; cases e; exact ⟨.bl b, rfl⟩
  | .int b, v, x, r, e => by cases dat_int r; cases e; exact ⟨.int b, rfl⟩
  | .str s, v, x, r, e => by obtain ⟨rfl, k, _⟩ := dat_str r; cases e; exact ⟨.str _, by simpa [PyData.canLay0] using k⟩
  | .tup ds, v, x, r, e => by
    obtain ⟨a, vs, rfl, h1, h2, h3⟩ := dat_tup r
    cases q : pys ds with
    | none => simp [py, q] at e
    | some xs =>
      simp [py, q] at e; subst e
      obtain ⟨k1, k2⟩ := dps_of ds h3 q
      exact ⟨.tup h1 k1, by simpa [PyData.canLay0] using k2⟩
  | .tpl ds, v, x, r, e => by
    obtain ⟨a, vs, rfl, h1, h2, h3⟩ := dat_tpl r
    cases q : pys ds with
    | none => simp [py, q] at e
    | some xs =>
      simp [py, q] at e; subst e
      obtain ⟨k1, k2⟩ := dps_of ds h3 q
      exact ⟨.tup h1 k1, by simpa [PyData.canLay0] using k2⟩
  | .lst ds, v, x, r, e => by
    obtain ⟨a, vs, rfl, h1, h2, h3⟩ := dat_lst r
    cases q : pys ds with
    | none => simp [py, q] at e
    | some xs =>
      simp [py, q] at e; subst e
      obtain ⟨k1, k2⟩ := dps_of ds h3 q
      exact ⟨.lst (h1.sq) k1, by simpa [PyData.canLay0] using k2⟩
  | .scr ds, v, x, r, e => by
    obtain ⟨a, vs, rfl, h1, h2, h3⟩ := dat_scr r
    cases q : pys ds with
    | none => simp [py, q] at e
    | some xs =>
      simp [py, q] at e; subst e
      obtain ⟨k1, k2⟩ := dps_of ds h3 q
      exact ⟨.lst (h1.sq) k1, by simpa [PyData.canLay0] using k2⟩
  | .ref _, _, _, _, e => by simp [py] at e
  | .rnd, _, _, _, e => by simp [py] at e
  | .ty _, _, _, _, e => by simp [py] at e
  | .fn _, _, _, _, e => by simp [py] at e
theorem dps_of : ∀ (ds : List D) {vs : List V} {xs : List PyData}, DatAll K fnm S H G vs ds → pys ds = some xs → DpAll K H vs xs ∧ PyData.canLayAll0 xs = true
  | [], _, _, .nil, e => by simp [pys] at e; subst e; exact ⟨.nil, rfl⟩
  | d :: ds, _, xs, .cons r t, e => by
    cases q1 : py d with
    | none => simp [pys, q1] at e
    | some x =>
      cases q2 : pys ds with
      | none => simp [pys, q1, q2] at e
      | some ys =>
        simp [pys, q1, q2] at e; subst e
        obtain ⟨k1, k2⟩ := dp_of d r q1
        obtain ⟨k3, k4⟩ := dps_of ds t q2
        exact ⟨.cons k1 k3, by simp [PyData.canLayAll0, k2, k4]⟩
end
theorem dpT_of (R : Hel K fnm clm S H G) {d : D} {v : V} {x : PyData} (r : Dat K fnm S H G v d) (e : pyT d G = some x) : Dp K H v x ∧ x.canLay0 = true := by
  cases d with
  | ref a =>
    have h := dat_ref r
    subst h
    cases q : G a with
    | none => simp [pyT, q] at e
    | some c =>
      cases c with
      | lst ds =>
        obtain ⟨vs, h1, h2, h3⟩ := R.cell a _ q
        cases q2 : pys ds with
        | none => simp [pyT, q, q2] at e
        | some xs =>
          simp [pyT, q, q2] at e; subst e
          obtain ⟨k1, k2⟩ := dps_of ds h3 q2
          exact ⟨.lst (SqL.of h1) k1, by simpa [PyData.canLay0] using k2⟩
      | _ => simp [pyT, q] at e
  | _ => exact dp_of _ r e
theorem str_beq (a b : List Nat) : (mkStr a == mkStr b) = (a == b) := by
  by_cases h : a = b
  · subst h; rw [beq_self_eq_true, beq_self_eq_true]
  · have : mkStr a ≠ mkStr b := fun z => h (mkStr_inj z)
    rw [beq_eq_false_iff_ne.mpr this, beq_eq_false_iff_ne.mpr h]
theorem flat_of {d : D} {v : V} (r : Dat K fnm S H G v d) (f : flatD d = true) : flatV v = true := by
  cases r <;> first | rfl | cases f
theorem eqF_of {d d' : D} {v v' : V} (r : Dat K fnm S H G v d) (r' : Dat K fnm S H G v' d') (f : flatD d = true) (f' : flatD d' = true) : eqV v v' = eqF d d' := by
  cases d <;> cases f
  all_goals (cases d' <;> cases f')
  all_goals (first | cases dat_non r | cases dat_bl r | cases dat_int r | obtain ⟨rfl, _⟩ := dat_str r)
  all_goals (first | cases dat_non r' | cases dat_bl r' | cases dat_int r' | obtain ⟨rfl, _⟩ := dat_str r')
  all_goals first | rfl | exact str_beq _ _
theorem flats_of : ∀ {ds : List D} {vs : List V}, DatAll K fnm S H G vs ds → ds.all flatD = true → vs.all flatV = true
  | [], _, .nil, _ => rfl
  | d :: ds, v :: vs, .cons r t, f => by
    have f2 : flatD d = true ∧ ds.all flatD = true := by simpa only [List.all_cons, Bool.and_eq_true] using f
    show (flatV v && vs.all flatV) = true
    rw [flat_of r f2.1, flats_of t f2.2] <;> rfl
theorem in_of {d : D} {v : V} (r : Dat K fnm S H G v d) (f : flatD d = true) : ∀ {ds : List D} {vs : List V}, DatAll K fnm S H G vs ds → ds.all flatD = true → inV v vs = ds.any fun z => eqF z d
  | [], _, .nil, _ => rfl
  | d' :: ds, v' :: vs, .cons r' t, f' => by
    have f2 : flatD d' = true ∧ ds.all flatD = true := by simpa only [List.all_cons, Bool.and_eq_true] using f'
    have ih := in_of r f t f2.2
    show (eqV v' v || inV v vs) = (eqF d' d || ds.any fun z => eqF z d)
    rw [ih, eqF_of r' r f2.1 f]
theorem in_str {d : D} {t : List Nat} {c : Bool} (e : inD d (.str t) G = some c) : ∃ x, d = .str [x] ∧ c = decide (x ∈ t) := by
  cases d with
  | str s =>
    match s, e with
    | [x], e => exact ⟨x, rfl, (Option.some.inj e).symm⟩
  | _ => exact nomatch (show (none : Option Bool) = some c from e)
theorem in_seq {d y : D} {c : Bool} (h : ∀ t, y ≠ .str t) (e : inD d y G = some c) : ∃ ds, itms y G = some ds ∧ flatD d = true ∧ ds.all flatD = true ∧ c = ds.any fun z => eqF z d := by
  have e2 : (match itms y G with | some ds => if (flatD d && ds.all flatD) = true then some (ds.any fun z => eqF z d) else none | none => none) = some c := by
    cases y <;> first | exact e | exact absurd rfl (h _)
  split at e2
  · rename_i ds q
    split at e2
    · rename_i f
      rw [Bool.and_eq_true] at f
      exact ⟨ds, q, f.1, f.2, (Option.some.inj e2).symm⟩
    · cases e2
  · cases e2
end
section
variable {fnm clm : Nat → Option Addr} {X : Cx}
def copB : COp → CmpOp → Bool
  | .eq, .Eq => true | .ne, .NotEq => true | .lt, .Lt => true | .le, .LtE => true | .gt, .Gt => true | .ge, .GtE => true | .isn, .Is => true | .nisn, .IsNot => true
  | .inn, .In => true | .nin, .NotIn => true | _, _ => false
theorem op_eqM (hu : X.A.units + 64 < cLine) : OpR X (compareOp .Eq) (fun x y H Q => ∃ d e, Dp X.K H x d ∧ Dp X.K H y e ∧ d.canLay0 = true ∧ e.canLay0 = true ∧ min d.depth e.depth ≤ 64 ∧ Q (.bl (PyData.eqv d e)) H) := by
  intro pins s σ H x y v u Q I rx ry h
  obtain ⟨d, e, hd, he, sd, se, hm, q⟩ := h
  obtain ⟨as, r1⟩ := Dp.reads I d x v hd rx
  obtain ⟨bs, r2⟩ := Dp.reads I e y u he ry
  exact SeqAt.compareEq_reads r1 r2 sd se (by omega) ⟨.bl _, H, I, rfl, q⟩
theorem op_neM (hu : X.A.units + 64 < cLine) : OpR X (compareOp .NotEq) (fun x y H Q => ∃ d e, Dp X.K H x d ∧ Dp X.K H y e ∧ d.canLay0 = true ∧ e.canLay0 = true ∧ min d.depth e.depth ≤ 64 ∧ Q (.bl (!PyData.eqv d e)) H) := by
  intro pins s σ H x y v u Q I rx ry h
  obtain ⟨d, e, hd, he, sd, se, hm, q⟩ := h
  obtain ⟨as, r1⟩ := Dp.reads I d x v hd rx
  obtain ⟨bs, r2⟩ := Dp.reads I e y u he ry
  exact SeqAt.compareNe_reads r1 r2 sd se (by omega) ⟨.bl _, H, I, rfl, q⟩
theorem eqD_of {d d' : D} {G : HD} {b : Bool} (e : eqD d d' G = some b) : ∃ x y, pyT d G = some x ∧ pyT d' G = some y ∧ min x.depth y.depth ≤ 64 ∧ b = PyData.eqv x y := by
  unfold eqD at e
  split at e
  · rename_i x y h1 h2
    by_cases h : min x.depth y.depth ≤ 64
    · rw [if_pos h] at e; exact ⟨x, y, h1, h2, h, (Option.some.inj e).symm⟩
    · rw [if_neg h] at e; cases e
  · cases e
theorem isStr_or (y : D) : (∃ t, y = .str t) ∨ ∀ t, y ≠ .str t := by
  cases y <;> first | exact .inl ⟨_, rfl⟩ | exact .inr fun _ z => nomatch z
theorem in_ok {v v' : V} {d d' : D} {S : Addr → Option Bool} {H : Hp} {G : HD} {c : Bool} {Q : VK} {z : Bool} (R : Hel X.K fnm clm S H G) (r : Dat X.K fnm S H G v d) (r' : Dat X.K fnm S H G v' d') (e : inD d d' G = some c)
    (h : Q (.bl (if z then !c else c)) H) : (∃ (c : Nat) (s : Str), v = .str ⟨#[c]⟩ ∧ v' = .str s ∧ Q (.bl (if z then !decide (c ∈ s.cps.toList) else decide (c ∈ s.cps.toList))) H) ∨ rIn X.K z v v' H Q := by
  rcases isStr_or d' with ⟨t, rfl⟩ | hn
  · obtain ⟨x, rfl, rfl⟩ := in_str e
    obtain ⟨rfl, _⟩ := dat_str r
    obtain ⟨rfl, _⟩ := dat_str r'
    exact .inl ⟨x, mkStr t, rfl, rfl, h⟩
  · obtain ⟨ds, q, f1, f2, rfl⟩ := in_seq hn e
    obtain ⟨a, vs, rfl, h1, h2, h3⟩ := itm_ok R r' q
    refine .inr ⟨a, vs, rfl, h1, flat_of r f1, flats_of h3 f2, ?_⟩
    rw [in_of r f1 h3 f2]
    exact h
theorem cmp_eq (hu : X.A.units + 64 < cLine) {v v' : V} {d d' : D} {S : Addr → Option Bool} {H : Hp} {G : HD} {c : Bool} {Q : Bool → Prop} (R : Hel X.K fnm clm S H G) (r : Dat X.K fnm S H G v d) (r' : Dat X.K fnm S H G v' d') (e : eqD d d' G = some c) (h : Q c) :
    ∃ d e, Dp X.K H v d ∧ Dp X.K H v' e ∧ d.canLay0 = true ∧ e.canLay0 = true ∧ min d.depth e.depth ≤ 64 ∧ Q (PyData.eqv d e) := by
  obtain ⟨x, y, e1, e2, hm, rfl⟩ := eqD_of e
  obtain ⟨k1, k2⟩ := dpT_of R r e1
  obtain ⟨k3, k4⟩ := dpT_of R r' e2
  exact ⟨x, y, k1, k3, k2, k4, hm, h⟩
theorem cmp_int {f : Int → Int → Bool} {v v' : V} {d d' : D} {S : Addr → Option Bool} {H : Hp} {G : HD} {QD : KD} {Q : VK} (R : Hel X.K fnm clm S H G) (r : Dat X.K fnm S H G v d) (r' : Dat X.K fnm S H G v' d')
    (h : ok (match d, d' with | .int i, .int j => some (f i j) | _, _ => none) fun c => QD (.bl c) G) (hQ : PostE X.K fnm clm S H G QD Q) : ∃ i j, v = .int i ∧ v' = .int j ∧ Q (.bl (f i j)) H := by
  cases d <;> try exact h.elim
  cases d' <;> try exact h.elim
  cases dat_int r; cases dat_int r'
  exact ⟨_, _, rfl, rfl, hQ.here R (.bl _) h⟩
theorem cmp_ok (hu : X.A.units + 64 < cLine) : ∀ {o : COp} {op : CmpOp}, copB o op = true → ∃ r, OpR X (compareOp op) r ∧
    ∀ v v' d d' S H G Q QD, Hel X.K fnm clm S H G → Dat X.K fnm S H G v d → Dat X.K fnm S H G v' d' → (ok (cmpD o d d' G) fun c => QD (.bl c) G) → PostE X.K fnm clm S H G QD Q → r v v' H Q
  | .eq, .Eq, _ => ⟨_, op_eqM hu, fun v v' d d' S H G Q QD R r r' h hQ => by
    obtain ⟨c, e, h⟩ := ok_of h
    exact cmp_eq (Q := fun c => Q (.bl c) H) hu R r r' e (hQ.here R (.bl _) h)⟩
  | .ne, .NotEq, _ => ⟨_, op_neM hu, fun v v' d d' S H G Q QD R r r' h hQ => by
    obtain ⟨c, e, h⟩ := ok_of h
    have e : (eqD d d' G).map (!·) = some c := e
    rw [Option.map_eq_some_iff] at e
    obtain ⟨b, e0, rfl⟩ := e
    exact cmp_eq (Q := fun c => Q (.bl (!c)) H) hu R r r' e0 (hQ.here R (.bl _) h)⟩
  | .lt, .Lt, _ => ⟨_, op_lt, fun v v' d d' S H G Q QD R r r' h hQ => cmp_int (f := fun i j => decide (i < j)) R r r' h hQ⟩
  | .le, .LtE, _ => ⟨_, op_le, fun v v' d d' S H G Q QD R r r' h hQ => cmp_int (f := fun i j => decide (i ≤ j)) R r r' h hQ⟩
  | .gt, .Gt, _ => ⟨_, op_gt, fun v v' d d' S H G Q QD R r r' h hQ => cmp_int (f := fun i j => decide (j < i)) R r r' h hQ⟩
  | .ge, .GtE, _ => ⟨_, op_ge, fun v v' d d' S H G Q QD R r r' h hQ => cmp_int (f := fun i j => decide (j ≤ i)) R r r' h hQ⟩
  | .isn, .Is, _ => ⟨_, op_isN.or op_isBl, fun v v' d d' S H G Q QD R r r' h hQ => by
    cases d' <;> try exact h.elim
    · cases dat_non r'
      refine .inl ⟨rfl, hQ.here (d := .bl _) R (.bl _) ?_⟩
      cases r <;> exact h
    · cases dat_bl r'
      cases d <;> try exact h.elim
      cases dat_bl r
      exact .inr ⟨_, _, rfl, rfl, hQ.here (d := .bl _) R (.bl _) h⟩⟩
  | .nisn, .IsNot, _ => ⟨_, op_notN.or op_notBl, fun v v' d d' S H G Q QD R r r' h hQ => by
    cases d' <;> try exact h.elim
    · cases dat_non r'
      refine .inl ⟨rfl, hQ.here (d := .bl _) R (.bl _) ?_⟩
      cases r <;> exact h
    · cases dat_bl r'
      cases d <;> try exact h.elim
      cases dat_bl r
      exact .inr ⟨_, _, rfl, rfl, hQ.here (d := .bl _) R (.bl _) h⟩⟩
  | .inn, .In, _ => ⟨_, op_in_sign.or op_in_seq, fun v v' d d' S H G Q QD R r r' h hQ => by
    obtain ⟨c, e, h⟩ := ok_of h
    exact in_ok (z := false) R r r' e (hQ.here R (.bl _) h)⟩
  | .nin, .NotIn, _ => ⟨_, op_notIn_sign.or op_notIn_seq, fun v v' d d' S H G Q QD R r r' h hQ => by
    obtain ⟨c, e, h⟩ := ok_of h
    have e : (inD d d' G).map (!·) = some c := e
    rw [Option.map_eq_some_iff] at e
    obtain ⟨b, e0, rfl⟩ := e
    exact in_ok (z := true) R r r' e0 (hQ.here R (.bl _) h)⟩
end
end DL

namespace DL
open PySem PySem.Spec PyProof.Rows L2
/-! ### truth, len, items, slices -/
section
variable {K : PySem.W.Frag} {fnm clm : Nat → Option Addr} {S : Addr → Option Bool} {H : Hp} {G : HD} {v v' : V} {d d' : D} {Q : VK} {QD : KD}
theorem seqOf_some {a : Addr} {ds : List D} (h : G a = some (.lst ds)) : seqOf (.ref a) G = some ds := by simp [seqOf, h]
/-- the three kinds that have a length -/
theorem len_of (R : Hel K fnm clm S H G) (r : Dat K fnm S H G v d) {n : Nat} (e : lenD d G = some n) :
    (∃ s, d = .str s ∧ v = .str (mkStr s) ∧ s.length ≤ sizeLine ∧ n = s.length) ∨ (∃ a vs, v = .ref a ∧ (SqL K H a vs ∨ SqT K H a vs) ∧ n = vs.length) ∨ ∃ a kvs, v = .ref a ∧ H a = some (.dK kvs) ∧ n = kvs.length := by
  have seqs : ∀ ds, seqOf d G = some ds → ds.length = n → ∃ a vs, v = .ref a ∧ (SqL K H a vs ∨ SqT K H a vs) ∧ n = vs.length := fun ds h h2 => by
    obtain ⟨a, vs, h1, h3, h4, h5⟩ := seq_ok R r h
    exact ⟨a, vs, h1, .inl (h3), by rw [← h2, h5.length]⟩
  cases d with
  | str s =>
    obtain ⟨h1, h2, h3⟩ := dat_str r
    exact .inl ⟨s, rfl, h1, h3, (Option.some.inj e).symm⟩
  | tup ds =>
    obtain ⟨a, vs, h1, h2, h3, h4⟩ := dat_tup r
    exact .inr (.inl ⟨a, vs, h1, .inr h2, by rw [← Option.some.inj e, h4.length]⟩)
  | tpl ds =>
    obtain ⟨a, vs, h1, h2, h3, h4⟩ := dat_tpl r
    exact .inr (.inl ⟨a, vs, h1, .inr h2, by rw [← Option.some.inj e, h4.length]⟩)
  | lst ds => exact .inr (.inl (seqs ds rfl (Option.some.inj e)))
  | scr ds => exact .inr (.inl (seqs ds rfl (Option.some.inj e)))
  | ref a =>
    cases q : G a with
    | none => simp [lenD, seqOf, q] at e
    | some c =>
      cases c with
      | lst ds => exact .inr (.inl (seqs ds (seqOf_some q) (by simpa [lenD, seqOf, q] using e)))
      | dct kvs =>
        obtain ⟨vs, h1, h2⟩ := R.cell a _ q
        refine .inr (.inr ⟨a, vs, dat_ref r, h1, ?_⟩)
        have e : kvs.length = n := by simpa [lenD, seqOf, q] using e
        rw [← e]
        clear e h1 q r
        induction h2 with
        | nil => rfl
        | cons _ _ _ _ ih => simp [ih]
      | ins _ _ => simp [lenD, seqOf, q] at e
  | _ => exact nomatch (show (none : Option Nat) = some n from e)
theorem ne0 (n : Nat) : (n != 0) = ((n : Int) != 0) := by
  cases n with
  | zero => rfl
  | succ n =>
    have h1 : (n + 1 != 0) = true := by simp
    have h2 : (((n + 1 : Nat) : Int) != 0) = true := by simp; omega
    rw [h1, h2]
theorem ne0e {α : Type} (xs : List α) : (xs.length != 0) = !xs.isEmpty := by cases xs <;> simp
theorem tru_of (R : Hel K fnm clm S H G) (r : Dat K fnm S H G v d) {b : Bool} (e : truth d G = some b) : TruV K v H b := by
  have lens : (match lenD d G with | some n => some (n != 0) | none => none) = some b → TruV K v H b := fun e0 => by
    split at e0
    · rename_i n q
      rcases len_of R r q with ⟨s, rfl, rfl, h1, h2⟩ | ⟨a, vs, rfl, h1, h2⟩ | ⟨a, vs, rfl, h1, h2⟩
      · refine ⟨by rw [mkStr_length]; exact h1, ?_⟩
        rw [mkStr_length, ← h2, ← Option.some.inj e0, ne0]
      · rw [← Option.some.inj e0, h2, ne0e]
        rcases h1 with h1 | h1
        · exact .inl ⟨vs, h1, rfl⟩
        · exact .inr (.inl ⟨vs, h1, rfl⟩)
      · rw [← Option.some.inj e0, h2, ne0e]
        exact .inr (.inr ⟨vs, h1, rfl⟩)
    · cases e0
  cases d with
  | non => cases dat_non r; exact (Option.some.inj e).symm
  | bl b' => cases dat_bl r; exact (Option.some.inj e).symm
  | int i => cases dat_int r; exact (Option.some.inj e).symm
  | _ => exact lens e
theorem at_of {ds : List D} {vs : List V} (r : DatAll K fnm S H G vs ds) {i : Int} (e : atI ds i = some d) : ∃ v, atI vs i = some v ∧ Dat K fnm S H G v d := by
  unfold atI at e ⊢
  rw [r.length]
  cases q : ixN ds.length i with
  | none => rw [q] at e; cases e
  | some j =>
    rw [q] at e
    exact r.get e
theorem cut_of {ds : List D} {vs : List V} (r : DatAll K fnm S H G vs ds) (lo hi : Option Int) : DatAll K fnm S H G (cutV vs lo hi) (cutL ds lo hi) := by
  unfold cutV cutL
  rw [r.length]
  exact (r.drop _).take _
theorem cutL_length {α : Type} (xs : List α) (lo hi : Option Int) : (cutL xs lo hi).length ≤ xs.length := by
  unfold cutL
  rw [List.length_take, List.length_drop]; omega
theorem cutL_mem {α : Type} {xs : List α} {lo hi : Option Int} {x : α} (h : x ∈ cutL xs lo hi) : x ∈ xs := List.mem_of_mem_drop (List.mem_of_mem_take h)
theorem idx_ok (R : Hel K fnm clm S H G) (r : Dat K fnm S H G v d) (r' : Dat K fnm S H G v' d') (h0 : ok (idxD d d' G) fun x => QD x G) (hQ : PostE K fnm clm S H G QD Q) : rIx K v v' H Q := by
  obtain ⟨x, e0, h⟩ := ok_of h0
  clear h0
  cases d' with
  | int i =>
    cases dat_int r'
    have itms_ : (match itms d G with | some ds => atI ds i | none => none) = some x → rIx K v (.int i) H Q := fun e => by
      split at e
      · rename_i ds q
        obtain ⟨a, vs, rfl, h1, h2, h3⟩ := itm_ok R r q
        obtain ⟨u, h4, h5⟩ := at_of h3 e
        rcases h1 with h1 | h1
        · exact .inl ⟨a, vs, i, u, rfl, rfl, h1, h4, hQ.here R h5 h⟩
        · exact .inr (.inl ⟨a, vs, i, u, rfl, rfl, h1, h4, hQ.here R h5 h⟩)
      · cases e
    cases d with
    | str s =>
      obtain ⟨rfl, k, hl⟩ := dat_str r
      have e1 : (atI s i).map (fun c => D.str [c]) = some x := e0
      clear e0
      rw [Option.map_eq_some_iff] at e1
      obtain ⟨c, e, rfl⟩ := e1
      refine .inr (.inr ⟨mkStr s, i, c, rfl, rfl, by rw [mkStr_length]; exact hl, by simpa [mkStr] using e, hQ.here R (.str [c] ?_ (by rw [lim_eq]; show 1 ≤ lim; decide)) h⟩)
      rw [strOk_iff] at k ⊢
      intro z hz
      rw [List.mem_singleton] at hz
      subst hz
      obtain ⟨j, _, q, _⟩ := atI_get e
      exact k z (List.mem_of_getElem? q)
    | _ => exact itms_ e0
  | _ => exact nomatch (show (none : Option D) = some x from e0)
theorem sl_okD (R : Hel K fnm clm S H G) (r : Dat K fnm S H G v d) {z : Bool} {lo hi : Option Int} (h : slD z d lo hi G QD) (hQ : PostE K fnm clm S H G QD Q) :
    rSlS v lo hi H Q ∨ rSlP K v lo hi H Q ∨ rSlL K v lo hi H Q := by
  have seqs : (ok (seqOf d G) fun ds => newL z (cutL ds lo hi) G QD) → rSlL K v lo hi H Q := fun h => by
    obtain ⟨ds, e, h⟩ := ok_of h
    obtain ⟨a, vs, rfl, h1, h2, h3⟩ := seq_ok R r e
    exact ⟨a, vs, rfl, h1, new_list R (Nat.le_trans (cutV_length _ _ _) h2) (cut_of h3 lo hi) h hQ⟩
  cases d with
  | str s =>
    obtain ⟨rfl, k, hl⟩ := dat_str r
    refine .inl ⟨mkStr s, rfl, by rw [mkStr_length]; exact hl, ?_⟩
    have e : cutS (mkStr s) lo hi = mkStr (cutL s lo hi) := by simp [cutS, mkStr, cutL, Str.length]
    rw [e]
    refine hQ.here R (.str _ ?_ (Nat.le_trans (cutL_length _ _ _) hl)) h
    rw [strOk_iff] at k ⊢
    exact fun c hc => k c (cutL_mem hc)
  | tup ds =>
    obtain ⟨a, vs, rfl, h1, h2, h3⟩ := dat_tupP r
    have h : QD (.tup (cutL ds lo hi)) G := h
    have c := cut_of h3 lo hi
    refine .inr (.inl ⟨a, vs, rfl, h1.sq, fun w => ?_, fun _ => new_tup R (Nat.le_trans (cutV_length _ _ _) h2) c h hQ⟩)
    have e : cutL ds lo hi = ds := by
      unfold cutL
      rw [← h3.length, w.1, w.2, List.drop_zero, Nat.sub_zero, h3.length, List.take_length]
    rw [e] at h
    exact hQ.here R (.tup h1 h2 h3) h
  | _ => exact .inr (.inr (seqs h))
theorem frz_ok (R : Hel K fnm clm S H G) (r : Dat K fnm S H G v d) (h : frzD d G QD) (hQ : PostE K fnm clm S H G QD Q) : Q v H := by
  cases d with
  | ref a =>
    cases dat_ref r
    cases q : G a with
    | none => simp [frzD, q] at h
    | some c =>
      cases c with
      | lst ds =>
        simp only [frzD, q] at h
        obtain ⟨vs, h1, h2, h3⟩ := R.cell a _ q
        have st : Step S H G S H (delD G a) := .less sub_del
        have ns : S a = none := R.live (by rw [q]; simp)
        exact hQ _ S H _ _ st (R.less sub_del) (.lst h1 delD_same ns h2 (h3.step R st)) h
      | dct _ => simp [frzD, q] at h
      | ins _ _ => simp [frzD, q] at h
  | _ => exact hQ.here R r h
end
end DL

namespace DL
open PySem PySem.Spec PyProof.Rows L2
/-! ### built-ins -/
section
variable {K : PySem.W.Frag} {fnm clm : Nat → Option Addr} {S : Addr → Option Bool} {H : Hp} {G : HD} {v v' : V} {d d' : D} {Q : VK} {QD : KD}
theorem bls_of : ∀ {ds : List D} {vs : List V} {bs : List Bool}, DatAll K fnm S H G vs ds → blsOf ds = some bs → vs = bs.map V.bl
  | [], _, _, .nil, e => by cases e; rfl
  | d :: ds, v :: vs, bs, .cons r t, e => by
    cases d with
    | bl b =>
      have e : (blsOf ds).map (b :: ·) = some bs := e
      rw [Option.map_eq_some_iff] at e
      obtain ⟨cs, e1, rfl⟩ := e
      cases dat_bl r
      rw [bls_of t e1]; rfl
    | _ => exact nomatch (show (none : Option (List Bool)) = some bs from e)
theorem ints_of : ∀ {ds : List D} {vs : List V} {bs : List Int}, DatAll K fnm S H G vs ds → intsOf ds = some bs → vs = bs.map V.int
  | [], _, _, .nil, e => by cases e; rfl
  | d :: ds, v :: vs, bs, .cons r t, e => by
    cases d with
    | int b =>
      have e : (intsOf ds).map (b :: ·) = some bs := e
      rw [Option.map_eq_some_iff] at e
      obtain ⟨cs, e1, rfl⟩ := e
      cases dat_int r
      rw [ints_of t e1]; rfl
    | _ => exact nomatch (show (none : Option (List Int)) = some bs from e)
theorem strs_of : ∀ {ds : List D} {vs : List V} {bs : List (List Nat)}, DatAll K fnm S H G vs ds → strsOf ds = some bs → vs = (bs.map mkStr).map V.str ∧ ∀ b ∈ bs, PyData.strOk (mkStr b) = true
  | [], _, _, .nil, e => by cases e; exact ⟨rfl, fun _ z => nomatch z⟩
  | d :: ds, v :: vs, bs, .cons r t, e => by
    cases d with
    | str b =>
      have e : (strsOf ds).map (b :: ·) = some bs := e
      rw [Option.map_eq_some_iff] at e
      obtain ⟨cs, e1, rfl⟩ := e
      obtain ⟨rfl, k, _⟩ := dat_str r
      obtain ⟨h1, h2⟩ := strs_of t e1
      rw [h1]
      refine ⟨rfl, fun x hx => ?_⟩
      rcases List.mem_cons.mp hx with rfl | hx
      · exact k
      · exact h2 x hx
    | _ => exact nomatch (show (none : Option (List (List Nat))) = some bs from e)
theorem glue_of' (s : List Nat) : ∀ ss : List (List Nat), Str.join (mkStr s) (ss.map mkStr) = mkStr (joinL s ss)
  | [] => rfl
  | [x] => rfl
  | x :: y :: r => by
    have ih := glue_of' s (y :: r)
    show mkStr x ++ mkStr s ++ Str.join (mkStr s) ((y :: r).map mkStr) = _
    rw [ih, mkStr_append, mkStr_append]; rfl
theorem glue_of (s : List Nat) (ss : List (List Nat)) : Txt.join (mkStr s) (ss.map mkStr) = mkStr (joinL s ss) := by
  unfold Txt.join
  rw [StrLaws.glued_eq_join]
  exact glue_of' s ss
theorem joinL_len (s : List Nat) : ∀ ss : List (List Nat), (joinL s ss).length ≤ (ss.map List.length).sum + ss.length * s.length
  | [] => Nat.zero_le _
  | [x] => by simp [joinL]
  | x :: y :: r => by
    have ih := joinL_len s (y :: r)
    simp only [joinL, List.length_append, List.map_cons, List.sum_cons, List.length_cons, Nat.add_mul, Nat.one_mul] at ih ⊢
    omega
theorem joinL_mem (s : List Nat) : ∀ {ss : List (List Nat)} {c : Nat}, c ∈ joinL s ss → c ∈ s ∨ ∃ x ∈ ss, c ∈ x
  | [], _, h => nomatch h
  | [x], _, h => .inr ⟨x, List.mem_singleton.mpr rfl, h⟩
  | x :: y :: r, c, h => by
    simp only [joinL, List.mem_append] at h
    rcases h with (h | h) | h
    · exact .inr ⟨x, List.mem_cons_self, h⟩
    · exact .inl h
    · rcases joinL_mem s h with h | ⟨z, hz, h⟩
      · exact .inl h
      · exact .inr ⟨z, List.mem_cons_of_mem _ hz, h⟩
end
section
variable {fnm clm : Nat → Option Addr} {X : Cx}
/-- a built-in's name and kind: true for a built-in type -/
def bfName : Bf → Str
  | .len => "len" | .abs => "abs" | .int => "int" | .bool => "bool" | .tuple => "tuple" | .list => "list" | .all => "all" | .any => "any" | .min => "min" | .max => "max" | .sum => "sum" | .ord => "ord" | .str => "str"
def bfVal : Bf → Value
  | .len => .builtin "len" | .abs => .builtin "abs" | .int => .type "int" | .bool => .type "bool" | .tuple => .type "tuple" | .list => .type "list" | .all => .builtin "all" | .any => .builtin "any" | .min => .builtin "min" | .max => .builtin "max"
  | .sum => .builtin "sum" | .ord => .builtin "ord" | .str => .type "str"
theorem one_of {K : PySem.W.Frag} {S : Addr → Option Bool} {H : Hp} {G : HD} {vs : List V} {d : D} (r : DatAll K fnm S H G vs [d]) : ∃ v, vs = [v] ∧ Dat K fnm S H G v d := by
  cases r with
  | cons a b => cases b; exact ⟨_, rfl, a⟩
theorem two_of {K : PySem.W.Frag} {S : Addr → Option Bool} {H : Hp} {G : HD} {vs : List V} {d e : D} (r : DatAll K fnm S H G vs [d, e]) : ∃ v w, vs = [v, w] ∧ Dat K fnm S H G v d ∧ Dat K fnm S H G w e := by
  cases r with
  | cons a b =>
    cases b with
    | cons b c => cases c; exact ⟨_, _, rfl, a, b⟩
abbrev BfOk (fnm clm : Nat → Option Addr) (X : Cx) (f : Bf) (r : List V → Hp → VK → Prop) : Prop :=
  ∀ z vs ds S H G Q QD, Hel X.K fnm clm S H G → DatAll X.K fnm S H G vs ds → bfD z f ds G QD → PostE X.K fnm clm S H G QD Q → r vs H Q
theorem bf_len : ∃ r, CallR X (.builtin "len") r ∧ BfOk fnm clm X .len r := by
  refine ⟨_, call_len.or call_lenD, fun z vs ds S H G Q QD R r h hQ => ?_⟩
  match ds, r, h with
  | [x], r, h =>
    obtain ⟨v, rfl, q⟩ := one_of r
    obtain ⟨n, e, g⟩ := ok_of (show ok (lenD x G) fun n => QD (.int n) G from h)
    rcases len_of R q e with ⟨s, rfl, rfl, h1, h2⟩ | ⟨a, vs, rfl, h1, h2⟩ | ⟨a, vs, rfl, h1, h2⟩
    · exact .inl ⟨_, n, rfl, ⟨by rw [mkStr_length]; exact h1, by rw [mkStr_length]; exact h2⟩, hQ.here R (.int _) g⟩
    · refine .inl ⟨_, n, rfl, ?_, hQ.here R (.int _) g⟩
      rcases h1 with h1 | h1
      · exact .inl ⟨vs, h1, h2⟩
      · exact .inr ⟨vs, h1, h2⟩
    · exact .inr ⟨a, vs, rfl, h1, by rw [← h2]; exact hQ.here R (.int _) g⟩
  | [], _, h => exact h.elim
  | _ :: _ :: _, _, h => exact h.elim
theorem bf_abs : ∃ r, CallR X (.builtin "abs") r ∧ BfOk fnm clm X .abs r := by
  refine ⟨_, call_abs, fun z vs ds S H G Q QD R r h hQ => ?_⟩
  match ds, r, h with
  | [.int i], r, h =>
    obtain ⟨v, rfl, q⟩ := one_of r
    cases dat_int q
    refine ⟨i, rfl, ?_⟩
    have e : (if i < 0 then -i else i) = (i.natAbs : Int) := by split <;> omega
    rw [e]
    exact hQ.here R (.int _) h
theorem bf_int : ∃ r, CallR X (.type "int") r ∧ BfOk fnm clm X .int r := by
  refine ⟨_, call_int1, fun z vs ds S H G Q QD R r h hQ => ?_⟩
  match ds, r, h with
  | [.int i], r, h =>
    obtain ⟨v, rfl, q⟩ := one_of r
    cases dat_int q
    exact .inl ⟨i, rfl, hQ.here R (.int _) h⟩
  | [.bl i], r, h =>
    obtain ⟨v, rfl, q⟩ := one_of r
    cases dat_bl q
    exact .inr ⟨i, rfl, hQ.here R (.int _) h⟩
theorem bf_bool : ∃ r, CallR X (.type "bool") r ∧ BfOk fnm clm X .bool r := by
  refine ⟨_, call_bool1, fun z vs ds S H G Q QD R r h hQ => ?_⟩
  match ds, r, h with
  | [.int i], r, h =>
    obtain ⟨v, rfl, q⟩ := one_of r
    cases dat_int q
    exact .inl ⟨i, rfl, hQ.here R (.bl _) h⟩
  | [.bl i], r, h =>
    obtain ⟨v, rfl, q⟩ := one_of r
    cases dat_bl q
    exact .inr ⟨i, rfl, hQ.here R (.bl _) h⟩
theorem bf_tuple : ∃ r, CallR X (.type "tuple") r ∧ BfOk fnm clm X .tuple r := by
  refine ⟨_, call_tupP, fun z vs ds S H G Q QD R r h hQ => ?_⟩
  match ds, r, h with
  | [x], r, h =>
    obtain ⟨v, rfl, q⟩ := one_of r
    obtain ⟨es, e, g⟩ := ok_of (show ok (itmT x G) fun ds => QD (.tup ds) G from h)
    have lst : seqOf x G = some es → ∃ p ys, [v] = [V.ref p] ∧ ((SqL X.K H p ys ∧ NewP H ys Q) ∨ (SqT X.K H p ys ∧ Q (.ref p) H)) := fun e => by
      obtain ⟨a, ws, rfl, h1, h2, h3⟩ := seq_ok R q e
      exact ⟨a, ws, rfl, .inl ⟨h1, new_tup R h2 h3 g hQ⟩⟩
    cases x with
    | tup xs =>
      cases e
      obtain ⟨a, ws, rfl, h1, h2, h3⟩ := dat_tupP q
      exact ⟨a, ws, rfl, .inr ⟨h1.sq, hQ.here R (.tup h1 h2 h3) g⟩⟩
    | _ => exact lst e
  | [], _, h => exact h.elim
  | _ :: _ :: _, _, h => exact h.elim
theorem bf_list : ∃ r, CallR X (.type "list") r ∧ BfOk fnm clm X .list r := by
  refine ⟨_, call_list_of, fun z vs ds S H G Q QD R r h hQ => ?_⟩
  match ds, r, h with
  | [x], r, h =>
    obtain ⟨v, rfl, q⟩ := one_of r
    obtain ⟨es, e, g⟩ := ok_of (show ok (itms x G) fun ds => newL z ds G QD from h)
    obtain ⟨a, ws, rfl, h1, h2, h3⟩ := itm_ok R q e
    exact ⟨a, ws, rfl, h1, new_list R h2 h3 g hQ⟩
  | [], _, h => exact h.elim
  | _ :: _ :: _, _, h => exact h.elim
theorem bf_all (hc : X.calm = true) : ∃ r, CallR X (.builtin "all") r ∧ BfOk fnm clm X .all r := by
  refine ⟨_, cr_all hc, fun z vs ds S H G Q QD R r h hQ => ?_⟩
  match ds, r, h with
  | [x], r, h =>
    obtain ⟨v, rfl, q⟩ := one_of r
    obtain ⟨es, e, g⟩ := ok_of (show ok (seqOf x G) fun ds => ok (blsOf ds) fun bs => QD (.bl (bs.all id)) G from h)
    obtain ⟨bs, e2, g2⟩ := ok_of g
    obtain ⟨a, ws, rfl, h1, h2, h3⟩ := seq_ok R q e
    have e3 := bls_of h3 e2
    subst e3
    exact ⟨a, bs, rfl, h1, hQ.here R (.bl _) g2⟩
  | [], _, h => exact h.elim
  | _ :: _ :: _, _, h => exact h.elim
theorem bf_any (hc : X.calm = true) : ∃ r, CallR X (.builtin "any") r ∧ BfOk fnm clm X .any r := by
  refine ⟨_, cr_any hc, fun z vs ds S H G Q QD R r h hQ => ?_⟩
  match ds, r, h with
  | [x], r, h =>
    obtain ⟨v, rfl, q⟩ := one_of r
    obtain ⟨es, e, g⟩ := ok_of (show ok (seqOf x G) fun ds => ok (blsOf ds) fun bs => QD (.bl (bs.any id)) G from h)
    obtain ⟨bs, e2, g2⟩ := ok_of g
    obtain ⟨a, ws, rfl, h1, h2, h3⟩ := seq_ok R q e
    have e3 := bls_of h3 e2
    subst e3
    exact ⟨a, bs, rfl, h1, hQ.here R (.bl _) g2⟩
  | [], _, h => exact h.elim
  | _ :: _ :: _, _, h => exact h.elim
theorem bf_sum (hc : X.calm = true) : ∃ r, CallR X (.builtin "sum") r ∧ BfOk fnm clm X .sum r := by
  refine ⟨_, cr_sum hc, fun z vs ds S H G Q QD R r h hQ => ?_⟩
  match ds, r, h with
  | [x], r, h =>
    obtain ⟨v, rfl, q⟩ := one_of r
    obtain ⟨es, e, g⟩ := ok_of (show ok (seqOf x G) fun ds => ok (intsOf ds) fun bs => QD (.int bs.sum) G from h)
    obtain ⟨bs, e2, g2⟩ := ok_of g
    obtain ⟨a, ws, rfl, h1, h2, h3⟩ := seq_ok R q e
    have e3 := ints_of h3 e2
    subst e3
    exact ⟨a, bs, rfl, h1, hQ.here R (.int _) g2⟩
  | [], _, h => exact h.elim
  | _ :: _ :: _, _, h => exact h.elim
theorem mm_of {f : Bf} {vs : List V} {x : D} {S : Addr → Option Bool} {H : Hp} {G : HD} {P : List Int → Prop} (R : Hel X.K fnm clm S H G) (r : DatAll X.K fnm S H G vs [x]) (h : ok (seqOf x G) fun ds => ok (intsOf ds) fun ns => P ns) :
    ∃ (a : Addr) (ns : List Int), vs = [V.ref a] ∧ SqL X.K H a (ns.map V.int) ∧ P ns := by
  obtain ⟨v, rfl, q⟩ := one_of r
  obtain ⟨es, e, g⟩ := ok_of h
  obtain ⟨bs, e2, g2⟩ := ok_of g
  obtain ⟨a, ws, rfl, h1, h2, h3⟩ := seq_ok R q e
  have e3 := ints_of h3 e2
  subst e3
  exact ⟨a, bs, rfl, h1, g2⟩
theorem bf_min (hc : X.calm = true) : ∃ r, CallR X (.builtin "min") r ∧ BfOk fnm clm X .min r := by
  refine ⟨_, (call_min2 hc).or (cr_min hc), fun z vs ds S H G Q QD R r h hQ => ?_⟩
  match ds, r, h with
  | [x], r, h =>
    have h : ok (seqOf x G) fun ds => ok (intsOf ds) fun ns => 0 < ns.length ∧ ∀ m, m ∈ ns → (∀ y, y ∈ ns → m ≤ y) → QD (.int m) G := by
      cases x <;> exact h
    obtain ⟨a, ns, rfl, h1, h2, h3⟩ := mm_of (f := .min) R r h
    exact .inr ⟨a, ns, rfl, h1, h2, fun m h4 h5 => hQ.here R (.int _) (h3 m h4 h5)⟩
  | [x, y], r, h =>
    obtain ⟨v, w, rfl, r1, r2⟩ := two_of r
    cases x <;> try exact h.elim
    cases y <;> try exact h.elim
    cases dat_int r1; cases dat_int r2
    exact .inl ⟨_, _, rfl, hQ.here R (.int _) h⟩
  | [], _, h => exact h.elim
  | _ :: _ :: _ :: _, _, h => exact absurd h (by simp [bfD])
theorem bf_max (hc : X.calm = true) : ∃ r, CallR X (.builtin "max") r ∧ BfOk fnm clm X .max r := by
  refine ⟨_, (call_max2 hc).or (cr_max hc), fun z vs ds S H G Q QD R r h hQ => ?_⟩
  match ds, r, h with
  | [x], r, h =>
    have h : ok (seqOf x G) fun ds => ok (intsOf ds) fun ns => 0 < ns.length ∧ ∀ m, m ∈ ns → (∀ y, y ∈ ns → y ≤ m) → QD (.int m) G := by
      cases x <;> exact h
    obtain ⟨a, ns, rfl, h1, h2, h3⟩ := mm_of (f := .max) R r h
    exact .inr ⟨a, ns, rfl, h1, h2, fun m h4 h5 => hQ.here R (.int _) (h3 m h4 h5)⟩
  | [x, y], r, h =>
    obtain ⟨v, w, rfl, r1, r2⟩ := two_of r
    cases x <;> try exact h.elim
    cases y <;> try exact h.elim
    cases dat_int r1; cases dat_int r2
    exact .inl ⟨_, _, rfl, hQ.here R (.int _) h⟩
  | [], _, h => exact h.elim
  | _ :: _ :: _ :: _, _, h => exact absurd h (by simp [bfD])
theorem bf_ord : ∃ r, CallR X (.builtin "ord") r ∧ BfOk fnm clm X .ord r := by
  refine ⟨_, call_ord, fun z vs ds S H G Q QD R r h hQ => ?_⟩
  match ds, r, h with
  | [.str [c]], r, h =>
    obtain ⟨v, rfl, q⟩ := one_of r
    obtain ⟨rfl, _⟩ := dat_str q
    exact ⟨_, rfl, rfl, hQ.here R (.int _) h⟩
theorem ofString_ok (t : String) : PyData.strOk (Str.ofString t) = true := by
  unfold PyData.strOk
  rw [← Array.all_toList, List.all_eq_true]
  intro c hc
  rw [Str.ofString_eq_toList] at hc
  simp only [List.mem_map] at hc
  obtain ⟨ch, _, rfl⟩ := hc
  have h := ch.valid
  have e : ch.toNat = ch.val.toNat := rfl
  rw [decide_eq_true_eq, e]
  rcases h with h | ⟨_, h⟩ <;> omega
theorem call_strI : CallR X (.type "str") (fun xs H Q => ∃ i, xs = [.int i] ∧ i.natAbs.log2 < 1920 ∧ Q (.str (toString i)) H) := by
  intro pins s σ H xs us Q I r h
  obtain ⟨i, rfl, hz, q⟩ := h
  obtain ⟨u, rfl, t, rfl⟩ := vals1 r
  refine PySem.P.str_of_int hz ?_
  exact ⟨.str _, H, I.tok _, ⟨_, rfl⟩, q⟩
theorem bf_str : ∃ r, CallR X (.type "str") r ∧ BfOk fnm clm X .str r := by
  refine ⟨_, call_strI, fun z vs ds S H G Q QD R r h hQ => ?_⟩
  match ds, r, h with
  | [.int i], r, h =>
    obtain ⟨v, rfl, q⟩ := one_of r
    cases dat_int q
    have h : i.natAbs.log2 < 1920 ∧ ∀ s : List Nat, mkStr s = Str.ofString (toString i) → QD (.str s) G := h
    have e := mkStr_of (Str.ofString (toString i))
    have q2 := h.2 _ e
    have r2 : Dat X.K fnm S H G (.str (mkStr (Str.ofString (toString i)).cps.toList)) (.str (Str.ofString (toString i)).cps.toList) :=
      .str _ (by rw [e]; exact ofString_ok _) (int_text_fits h.1)
    rw [e] at r2
    exact ⟨_, rfl, h.1, hQ.here R r2 q2⟩
theorem bf_ok (hc : X.calm = true) (f : Bf) : ∃ r, CallR X (bfVal f) r ∧ BfOk fnm clm X f r := by
  cases f
  · exact bf_len
  · exact bf_abs
  · exact bf_int
  · exact bf_bool
  · exact bf_tuple
  · exact bf_list
  · exact bf_all hc
  · exact bf_any hc
  · exact bf_min hc
  · exact bf_max hc
  · exact bf_sum hc
  · exact bf_ord
  · exact bf_str
end
end DL

namespace DL
open PySem PySem.Spec PyProof.Rows L2
/-! ### methods of built-in types -/
section
variable {K : PySem.W.Frag} {fnm clm : Nat → Option Addr} {S : Addr → Option Bool} {H : Hp} {G : HD} {v v' : V} {d d' : D} {Q : VK} {QD : KD}
theorem write_l (R : Hel K fnm clm S H G) {a : Addr} {ds0 ds : List D} {vs : List V} (hg : G a = some (.lst ds0)) (hz : vs.length ≤ sizeLine) (r : DatAll K fnm S H G vs ds) (rv : Dat K fnm S H G v d)
    (h : QD d (updD G a (.lst ds))) (hQ : PostE K fnm clm S H G QD Q) : Q v (upd H a (.lst vs)) := by
  have ne : G a ≠ none := by rw [hg]; simp
  exact hQ v S _ d _ (.write ne) (R.writeL ne hz r) (rv.step R (.write ne)) h
theorem cell_l (R : Hel K fnm clm S H G) {a : Addr} {ds : List D} (hg : G a = some (.lst ds)) : ∃ vs, H a = some (.lst vs) ∧ vs.length ≤ sizeLine ∧ DatAll K fnm S H G vs ds := R.cell a _ hg
theorem rcv_seq (R : Hel K fnm clm S H G) (r : Dat K fnm S H G v d) (h : (seqOf d G).isSome = true) : tyV K "list" v H := by
  cases e : seqOf d G with
  | none => rw [e] at h; cases h
  | some ds =>
    obtain ⟨a, vs, rfl, h1, h2, h3⟩ := seq_ok R r e
    exact .inl ⟨rfl, vs, h1⟩
theorem rcv_str {m : Mt} (hm : m = .join ∨ m = .sindex ∨ m = .scount ∨ m = .sfind) (r : Dat K fnm S H G v d) (h : rcv m d G = true) : tyV K "str" v H := by
  cases d with
  | str s => obtain ⟨rfl, _⟩ := dat_str r; exact rfl
  | _ => rcases hm with rfl | rfl | rfl | rfl <;> (simp [rcv] at h)
theorem live_of {a : Addr} {P : List D → Prop} (h : match G a with | some (.lst ds) => P ds | _ => False) : ∃ ds, G a = some (.lst ds) ∧ P ds := by
  cases e : G a with
  | none => rw [e] at h; exact h.elim
  | some c =>
    rw [e] at h
    cases c with
    | lst ds => exact ⟨ds, rfl, h⟩
    | _ => exact h.elim
end
section
variable {fnm clm : Nat → Option Addr} {X : Cx}
def mtName : Mt → Str
  | .append => "append" | .extend => "extend" | .pop => "pop" | .index => "index" | .join => "join" | .count => "count" | .sindex => "index" | .scount => "count" | .sfind => "find"
def mtYes : Mt → Bool
  | .append | .extend | .pop | .index | .join | .sindex | .scount | .sfind => true
  | _ => false
structure MtOk (fnm clm : Nat → Option Addr) (X : Cx) (m : Mt) (T id : String) (r : V → List V → Hp → VK → Prop) : Prop where
  pa : PlainAttrs T
  slot : Slot T (mtName m) id
  ty : typeOf (.builtin id) = pure (.type "method_descriptor")
  mt : MtR X id r
  rc : ∀ v x S H G, Hel X.K fnm clm S H G → Dat X.K fnm S H G v x → rcv m x G = true → tyV X.K T v H
  to : ∀ v vs x ds S H G Q QD, Hel X.K fnm clm S H G → Dat X.K fnm S H G v x → DatAll X.K fnm S H G vs ds → mtD m x ds G QD → PostE X.K fnm clm S H G QD Q → r v vs H Q
theorem mt_appendD : ∃ T id r, MtOk fnm clm X .append T id r := by
  refine ⟨_, _, _, PySem.F.plainAttrs_list, PySem.F.slot_list_append, PySem.F.type_list_append, mt_append, fun v x S H G R r h => rcv_seq R r h, fun v vs x ds S H G Q QD R r rs h hQ => ?_⟩
  match x, ds, r, rs, h with
  | .ref a, [d], r, rs, h =>
    obtain ⟨u, rfl, ru⟩ := one_of rs
    cases dat_ref r
    obtain ⟨es, hg, h1, h2⟩ := live_of (P := fun es => es.length < lim ∧ QD .non (updD G a (.lst (es ++ [d])))) h
    obtain ⟨ws, k1, k2, k3⟩ := cell_l R hg
    exact ⟨a, ws, u, rfl, rfl, k1, by rw [k3.length, lim_eq]; exact h1, write_l R hg (by rw [List.length_append, k3.length, lim_eq]; exact h1) (k3.append (.cons ru .nil)) .non h2 hQ⟩
theorem mt_extendD : ∃ T id r, MtOk fnm clm X .extend T id r := by
  refine ⟨_, _, _, PySem.F.plainAttrs_list, PySem.F.slot_list_extend, PySem.F.type_list_extend, mt_extend, fun v x S H G R r h => rcv_seq R r h, fun v vs x ds S H G Q QD R r rs h hQ => ?_⟩
  match x, ds, r, rs, h with
  | .ref a, [d], r, rs, h =>
    obtain ⟨u, rfl, ru⟩ := one_of rs
    cases dat_ref r
    obtain ⟨es, hg, h1⟩ := live_of (P := fun es => ok (seqH d G) fun fs => es.length + fs.length ≤ lim ∧ QD .non (updD G a (.lst (es ++ fs)))) h
    obtain ⟨fs, e2, h2, h3⟩ := ok_of h1
    obtain ⟨ws, k1, k2, k3⟩ := cell_l R hg
    obtain ⟨b, zs, rfl, j1, j2, j3⟩ := seqH_ok R ru e2
    exact ⟨a, b, ws, zs, rfl, rfl, k1, j1, by rw [k3.length, j3.length, lim_eq]; exact h2, write_l R hg (by rw [List.length_append, k3.length, j3.length, lim_eq]; exact h2) (k3.append j3) .non h3 hQ⟩
theorem mt_popD : ∃ T id r, MtOk fnm clm X .pop T id r := by
  refine ⟨_, _, _, PySem.F.plainAttrs_list, PySem.F.slot_list_pop, PySem.F.type_list_pop, MtR.or mt_pop mt_popAt, fun v x S H G R r h => rcv_seq R r h, fun v vs x ds S H G Q QD R r rs h hQ => ?_⟩
  match x, ds, r, rs, h with
  | .ref a, [], r, rs, h =>
    cases rs
    cases dat_ref r
    obtain ⟨es, hg, h1⟩ := live_of (P := fun es => ok es.getLast? fun d => QD d (updD G a (.lst es.dropLast))) h
    obtain ⟨d, e2, h2⟩ := ok_of h1
    obtain ⟨ws, k1, k2, k3⟩ := cell_l R hg
    rw [List.getLast?_eq_getElem?] at e2
    obtain ⟨u, j1, j2⟩ := k3.get e2
    exact .inl ⟨a, ws, u, rfl, rfl, k1, by rw [k3.length]; exact j1, write_l R hg (by rw [List.length_dropLast]; omega) k3.dropLast j2 h2 hQ⟩
  | .ref a, [.int i], r, rs, h =>
    obtain ⟨u, rfl, ru⟩ := one_of rs
    cases dat_ref r
    cases dat_int ru
    obtain ⟨es, hg, h1, h2⟩ := live_of (P := fun es => (0 ≤ i ∧ i < es.length) ∧ ok (es[i.toNat]?) fun d => QD d (updD G a (.lst (es.eraseIdx i.toNat)))) h
    obtain ⟨d, e2, h3⟩ := ok_of h2
    obtain ⟨ws, k1, k2, k3⟩ := cell_l R hg
    obtain ⟨u, j1, j2⟩ := k3.get e2
    have hl : es.length ≤ lim := by rw [← k3.length, ← lim_eq]; exact k2
    unfold lim at hl
    refine .inr ⟨a, ws, i, i.toNat, u, rfl, rfl, k1, by omega, by omega, ?_, j1, write_l R hg (Nat.le_trans (len_erase _ _) k2) (k3.eraseIdx _) j2 h3 hQ⟩
    have q : ixN ws.length i = some i.toNat := by
      unfold ixN
      rw [if_pos h1.1, if_pos (by rw [k3.length]; exact h1.2)]
    exact (ixN_seq q).1
theorem mt_indexD' : ∃ T id r, MtOk fnm clm X .index T id r := by
  refine ⟨_, _, _, PySem.F.plainAttrs_list, PySem.F.slot_list_index, PySem.F.type_list_index, mt_index, fun v x S H G R r h => rcv_seq R r h, fun v vs x ds S H G Q QD R r rs h hQ => ?_⟩
  match ds, rs, h with
  | [d], rs, h =>
    obtain ⟨u, rfl, ru⟩ := one_of rs
    obtain ⟨es, e1, f, h2⟩ := ok_of (show ok (seqOf x G) fun es => (flatD d && es.all flatD) = true ∧ ok (es.findIdx? fun z => eqF z d) fun i => QD (.int (i : Nat)) G by cases x <;> exact h)
    obtain ⟨i, e2, h3⟩ := ok_of h2
    rw [Bool.and_eq_true] at f
    obtain ⟨a, ws, rfl, k1, k2, k3⟩ := seq_ok R r e1
    rw [List.findIdx?_eq_some_iff_getElem] at e2
    obtain ⟨hl, q1, q2⟩ := e2
    have hw : i < ws.length := by rw [k3.length]; exact hl
    obtain ⟨z, j1, j2⟩ := k3.get' (List.getElem?_eq_getElem hw)
    have ez : es[i] = z := by rw [List.getElem?_eq_getElem hl] at j1; exact Option.some.inj j1
    have fz : ∀ z ∈ es, flatD z = true := fun z hz => List.all_eq_true.mp f.2 z hz
    refine ⟨a, ws, u, i, ws[i], rfl, rfl, k1, flat_of ru f.1, flats_of k3 f.2, List.getElem?_eq_getElem hw, ?_, fun m z' hm hz' => ?_, hQ.here R (.int _) h3⟩
    · rw [eqF_of j2 ru (by rw [← ez]; exact fz _ (List.getElem_mem hl)) f.1, ← ez]; exact q1
    · obtain ⟨y, j3, j4⟩ := k3.get' hz'
      have hm2 : m < es.length := by omega
      have ey : es[m] = y := by rw [List.getElem?_eq_getElem hm2] at j3; exact Option.some.inj j3
      rw [eqF_of j4 ru (by rw [← ey]; exact fz _ (List.getElem_mem hm2)) f.1, ← ey]
      have := q2 m hm
      simpa using this
  | [], _, h => exact absurd h (by cases x <;> exact id)
  | _ :: _ :: _, _, h => exact absurd h (by cases x <;> exact id)
theorem mt_joinD : ∃ T id r, MtOk fnm clm X .join T id r := by
  refine ⟨_, _, _, PySem.F.plainAttrs_str, PySem.F.slot_str_join, PySem.F.type_str_join, mt_join, fun v x S H G R r h => rcv_str (.inl rfl) r h, fun v vs x ds S H G Q QD R r rs h hQ => ?_⟩
  match x, ds, r, rs, h with
  | .str s, [d], r, rs, h =>
    obtain ⟨u, rfl, ru⟩ := one_of rs
    obtain ⟨rfl, k, _⟩ := dat_str r
    obtain ⟨es, e1, h1⟩ := ok_of (show ok (itms d G) fun ds => ok (strsOf ds) fun ss => (ss.map List.length).sum + ss.length * s.length ≤ lim ∧ QD (.str (joinL s ss)) G from h)
    obtain ⟨ss, e2, h2, h3⟩ := ok_of h1
    obtain ⟨a, ws, rfl, k1, k2, k3⟩ := itm_ok R ru e1
    obtain ⟨e3, k4⟩ := strs_of k3 e2
    subst e3
    refine ⟨_, a, ss.map mkStr, rfl, rfl, k1, ?_, ?_⟩
    · rw [mkStr_length, List.length_map, List.map_map]
      have : ((fun (x : Str) => x.length) ∘ mkStr) = List.length := by funext x; exact mkStr_length x
      rw [this]; exact h2
    · rw [glue_of]
      refine hQ.here R (.str _ ?_ (by rw [lim_eq]; exact Nat.le_trans (joinL_len _ _) h2)) h3
      rw [strOk_iff] at k ⊢
      intro c hc
      rcases joinL_mem s hc with h | ⟨x, hx, h⟩
      · exact k c h
      · exact strOk_iff.mp (k4 x hx) c h
theorem mt_sidx : MtR X "str.index" (fun x xs H Q => ∃ (a b : Str) (k : Nat), x = .str a ∧ xs = [.str b] ∧ Txt.index0 a b = some k ∧ Q (.int (k : Int)) H) := by
  intro pins s σ H x xs v us Q I rx rs h
  obtain ⟨a, b, k, rfl, rfl, hy, w⟩ := h
  obtain ⟨t, rfl⟩ := rx
  cases rs with
  | cons r1 rs =>
    cases rs
    obtain ⟨u, rfl⟩ := r1
    cases q : Builtin.Str.occurrences a b 0 a.length 1 with
    | nil => unfold Txt.index0 at hy; rw [q] at hy; cases hy
    | cons k' rest =>
      have e : k' = k := by unfold Txt.index0 at hy; rw [q] at hy; exact Option.some.inj hy
      subst e
      exact PySem.SC.index q ⟨.int (k' : Nat), H, I.tok _, ⟨_, rfl⟩, w⟩
theorem mt_sindexD : ∃ T id r, MtOk fnm clm X .sindex T id r := by
  refine ⟨_, _, _, PySem.F.plainAttrs_str, PySem.F.slot_str_index, PySem.F.type_str_index, mt_sidx, fun v x S H G R r h => rcv_str (.inr (.inl rfl)) r h, fun v vs x ds S H G Q QD R r rs h hQ => ?_⟩
  match x, ds, r, rs, h with
  | .str s, [.str t], r, rs, h =>
    obtain ⟨u, rfl, ru⟩ := one_of rs
    obtain ⟨rfl, _⟩ := dat_str r
    obtain ⟨rfl, _⟩ := dat_str ru
    obtain ⟨i, e, h1⟩ := ok_of (show ok (Txt.index0 (mkStr s) (mkStr t)) fun i => QD (.int (i : Nat)) G from h)
    exact ⟨_, _, i, rfl, rfl, e, hQ.here R (.int _) h1⟩
theorem mt_scountD : ∃ T id r, MtOk fnm clm X .scount T id r := by
  refine ⟨_, _, _, PySem.F.plainAttrs_str, PySem.F.slot_str_count, PySem.F.type_str_count, mt_count, fun v x S H G R r h => rcv_str (.inr (.inr (.inl rfl))) r h, fun v vs x ds S H G Q QD R r rs h hQ => ?_⟩
  match x, ds, r, rs, h with
  | .str s, [.str t], r, rs, h =>
    obtain ⟨u, rfl, ru⟩ := one_of rs
    obtain ⟨rfl, _⟩ := dat_str r
    obtain ⟨rfl, _⟩ := dat_str ru
    exact ⟨_, _, rfl, rfl, hQ.here R (.int _) h⟩
theorem mt_sfindD : ∃ T id r, MtOk fnm clm X .sfind T id r := by
  refine ⟨_, _, _, PySem.F.plainAttrs_str, PySem.F.slot_str_find, PySem.F.type_str_find, mt_find, fun v x S H G R r h => rcv_str (.inr (.inr (.inr rfl))) r h, fun v vs x ds S H G Q QD R r rs h hQ => ?_⟩
  match x, ds, r, rs, h with
  | .str s, [.str t], r, rs, h =>
    obtain ⟨u, rfl, ru⟩ := one_of rs
    obtain ⟨rfl, _⟩ := dat_str r
    obtain ⟨rfl, _⟩ := dat_str ru
    exact ⟨_, _, rfl, rfl, hQ.here R (.int _) h⟩
theorem mt_okD {m : Mt} (h : mtYes m = true) : ∃ T id r, MtOk fnm clm X m T id r := by
  cases m <;> first | cases h | skip
  · exact mt_appendD
  · exact mt_extendD
  · exact mt_popD
  · exact mt_indexD'
  · exact mt_joinD
  · exact mt_sindexD
  · exact mt_scountD
  · exact mt_sfindD
end
end DL

namespace DL
open PySem PySem.Spec PyProof.Rows L2
section
variable {C : Cfg} {fnm clm : Nat → Option Addr} {Γ : Gam} {N : List Str} {sc : Scope} {X : Cx} {W : WX}
/-! ## 8. The rules of expressions -/
theorem COk.hu (k : COk C fnm clm Γ N sc X W) : X.A.units + 64 < cLine := by
  obtain ⟨n, hr, _⟩ := k.fnk; exact hr.r.units
theorem je_bin (k : COk C fnm clm Γ N sc X W) {z : Bool} {o : BOp} {op : Operator} {a b : Expr} {pos : Pos} {ea eb : E} (ho : bopB o op = true) (ha : JE fnm clm X W a (wE Γ ea)) (hb : JE fnm clm X W b (wE Γ eb)) :
    JE fnm clm X W (.BinOp a op b pos) (wE Γ (.bin z o ea eb)) := by
  obtain ⟨r, h1, h2⟩ := bin_ok (z := z) (fnm := fnm) (clm := clm) (X := X) ho
  exact je_op2 h1 ha hb h2
theorem je_neg {a : Expr} {pos : Pos} {ea : E} (ha : JE fnm clm X W a (wE Γ ea)) : JE fnm clm X W (.UnaryOp .USub a pos) (wE Γ (.neg ea)) := by
  obtain ⟨_, ta, pa, ra⟩ := ha
  refine ⟨rfl, _, pe_un un_neg pa, fun S σ σD H G Q QD XD R sl h hQ hX => ?_⟩
  refine ra S σ σD H G _ _ XD R sl h (fun v S1 H1 d G1 st1 R1 r1 h1 => ?_) hX
  cases d <;> try exact h1.elim
  cases dat_int r1
  exact ⟨_, rfl, (hQ.step st1).here R1 (.int _) h1⟩
theorem je_nt {a : Expr} {pos : Pos} {ea : E} (ha : JE fnm clm X W a (wE Γ ea)) : JE fnm clm X W (.UnaryOp .Not a pos) (wE Γ (.nt ea)) := by
  obtain ⟨_, ta, pa, ra⟩ := ha
  refine ⟨rfl, _, pe_notT pa, fun S σ σD H G Q QD XD R sl h hQ hX => ?_⟩
  refine ra S σ σD H G _ _ XD R sl h (fun v S1 H1 d G1 st1 R1 r1 h1 => ?_) hX
  obtain ⟨b, e, h2⟩ := ok_of h1
  exact ⟨b, tru_of R1 r1 e, (hQ.step st1).here R1 (.bl _) h2⟩
/-- and, or as values -/
def bopE : Bool → BoolOp
  | true => .And
  | false => .Or
theorem jb_one {b : Bool} {e : Expr} {pos : Pos} {ee : E} (he : JE fnm clm X W e (wE Γ ee)) : JE fnm clm X W (.BoolOp (bopE b) [e] pos) (wBo Γ b (.c ee .n)) := by
  obtain ⟨_, ta, pa, ra⟩ := he
  exact ⟨rfl, _, pe_one pa, ra⟩
theorem jb_cons {b : Bool} {e e' : Expr} {es : List Expr} {pos : Pos} {ee ee' : E} {ees : Es} (he : JE fnm clm X W e (wE Γ ee)) (hr : JE fnm clm X W (.BoolOp (bopE b) (e' :: es) pos) (wBo Γ b (.c ee' ees))) :
    JE fnm clm X W (.BoolOp (bopE b) (e :: e' :: es) pos) (wBo Γ b (.c ee (.c ee' ees))) := by
  obtain ⟨_, ta, pa, ra⟩ := he
  obtain ⟨_, tb, pb, rb⟩ := hr
  have main : ∀ (k0 : Bool) {S : Addr → Option Bool} {σ : St'} {σD : StD} {H : Hp} {G : HD} {Q : VK} {QD : KD} {XD : KX}, Hel X.K fnm clm S H G → SlotOk X.K fnm S H G σ σD → wBo Γ b (.c ee (.c ee' ees)) σD G QD XD → PostE X.K fnm clm S H G QD Q → PostX X.K fnm clm W σ S H G XD →
      ta σ H fun x H1 => ∃ k, TruV X.K x H1 k ∧ (k = b → tb σ H1 Q) ∧ (k ≠ b → Q x H1) := by
    intro k0 S σ σD H G Q QD XD R sl h hQ hX
    have h : wE Γ ee σD G (fun d H1 => ok (truth d H1) fun k => if k = b then wBo Γ b (.c ee' ees) σD H1 QD XD else QD d H1) XD := h
    refine ra S σ σD H G _ _ XD R sl h (fun v S1 H1 d G1 st1 R1 r1 h1 => ?_) hX
    obtain ⟨k, e, h2⟩ := ok_of h1
    refine ⟨k, tru_of R1 r1 e, fun q => ?_, fun q => ?_⟩
    · rw [if_pos q] at h2
      exact rb S1 σ σD H1 G1 _ _ XD R1 (sl.step R st1) h2 (hQ.step st1) (hX.step st1)
    · rw [if_neg q] at h2
      exact (hQ.step st1).here R1 r1 h2
  cases b with
  | true =>
    refine ⟨rfl, _, pe_andT pa pb, fun S σ σD H G Q QD XD R sl h hQ hX => ?_⟩
    refine ra S σ σD H G _ _ XD R sl h (fun v S1 H1 d G1 st1 R1 r1 h1 => ?_) hX
    obtain ⟨k, e, h2⟩ := ok_of h1
    refine ⟨k, tru_of R1 r1 e, ?_⟩
    cases k with
    | true => exact rb S1 σ σD H1 G1 _ _ XD R1 (sl.step R st1) h2 (hQ.step st1) (hX.step st1)
    | false => exact (hQ.step st1).here R1 r1 h2
  | false =>
    refine ⟨rfl, _, pe_orT pa pb, fun S σ σD H G Q QD XD R sl h hQ hX => ?_⟩
    refine ra S σ σD H G _ _ XD R sl h (fun v S1 H1 d G1 st1 R1 r1 h1 => ?_) hX
    obtain ⟨k, e, h2⟩ := ok_of h1
    refine ⟨k, tru_of R1 r1 e, ?_⟩
    cases k with
    | false => exact rb S1 σ σD H1 G1 _ _ XD R1 (sl.step R st1) h2 (hQ.step st1) (hX.step st1)
    | true => exact (hQ.step st1).here R1 r1 h2
theorem je_cmp (k : COk C fnm clm Γ N sc X W) {o : COp} {op : CmpOp} {a b : Expr} {pos : Pos} {ea eb : E} (ho : copB o op = true) (hm : behindInMarks op b = false) (ha : JE fnm clm X W a (wE Γ ea)) (hb : JE fnm clm X W b (wE Γ eb)) :
    JE fnm clm X W (.Compare a [op] [b] pos) (wE Γ (.cmp o ea eb)) := by
  obtain ⟨r, h1, h2⟩ := cmp_ok (fnm := fnm) (clm := clm) (X := X) k.hu ho
  obtain ⟨_, ta, pa, ra⟩ := ha
  obtain ⟨_, tb, pb, rb⟩ := hb
  refine ⟨rfl, _, pe_cmpR h1 pa pb hm, fun S σ σD H G Q QD XD R sl h hQ hX => ?_⟩
  exact ref2 ra rb R sl h (fun v v' S' H' d d' G' st R' r1 r2 h' => h2 v v' d d' S' H' G' Q QD R' r1 r2 h' (hQ.step st)) hX
theorem jt_cmp (k : COk C fnm clm Γ N sc X W) {o : COp} {op : CmpOp} {a b : Expr} {pos : Pos} {ea eb : E} (ho : copB o op = true) (hm : behindInMarks op b = false) (ha : JE fnm clm X W a (wE Γ ea)) (hb : JE fnm clm X W b (wE Γ eb)) :
    JT fnm clm X W (.Compare a [op] [b] pos) (wT Γ (.cmp o ea eb)) := by
  obtain ⟨r, h1, h2⟩ := cmp_ok (fnm := fnm) (clm := clm) (X := X) k.hu ho
  obtain ⟨_, ta, pa, ra⟩ := ha
  obtain ⟨_, tb, pb, rb⟩ := hb
  refine ⟨_, pt_cmpR h1 pa pb hm, fun S σ σD H G Q QD XD R sl h hQ hX => ?_⟩
  have h : wE Γ ea σD G (fun x H1 => wE Γ eb σD H1 (fun y H2 => ok (cmpD o x y H2) fun c => QD c H2) XD) XD := h
  refine ref2 ra rb R sl h (fun v v' S' H' d d' G' st R' r1 r2 h' => ?_) hX
  refine h2 v v' d d' S' H' G' _ (fun d G => ∃ c, d = .bl c ∧ QD c G) R' r1 r2 ?_ (fun u S2 H2 d2 G2 st2 R2 r3 h3 => ?_)
  · obtain ⟨c, e, h4⟩ := ok_of h'
    rw [e]
    exact ⟨c, rfl, h4⟩
  · obtain ⟨c, rfl, h4⟩ := h3
    cases dat_bl r3
    exact ⟨c, rfl, hQ c S2 H2 G2 (st.trans st2) R2 h4⟩
/-- the inner part of a chain -/
theorem chn_in {o p : COp} {op op' : CmpOp} {r r' : R2} {ta tb tc : TE} {ea eb ec : E} {Q : VK} {QD : KD} {σ : St'} {σD : StD} {S : Addr → Option Bool} {H : Hp} {G : HD} {XD : KX}
    (ra : RefE X.K fnm clm W ta (wE Γ ea)) (rb : RefE X.K fnm clm W tb (wE Γ eb)) (rc : RefE X.K fnm clm W tc (wE Γ ec))
    (h2 : ∀ v v' d d' S H G Q QD, Hel X.K fnm clm S H G → Dat X.K fnm S H G v d → Dat X.K fnm S H G v' d' → (ok (cmpD o d d' G) fun c => QD (.bl c) G) → PostE X.K fnm clm S H G QD Q → r v v' H Q)
    (h3 : ∀ v v' d d' S H G Q QD, Hel X.K fnm clm S H G → Dat X.K fnm S H G v d → Dat X.K fnm S H G v' d' → (ok (cmpD p d d' G) fun c => QD (.bl c) G) → PostE X.K fnm clm S H G QD Q → r' v v' H Q)
    (R : Hel X.K fnm clm S H G) (sl : SlotOk X.K fnm S H G σ σD) (h : wE Γ (.chn o p ea eb ec) σD G QD XD) (hQ : PostE X.K fnm clm S H G QD Q) (hX : PostX X.K fnm clm W σ S H G XD) : tChain r r' ta tb tc σ H Q := by
  refine ref2 ra rb R sl h (fun v v' S' H' d d' G' st R' r1 r2 h' => ?_) hX
  refine h2 v v' d d' S' H' G' _ (fun z G0 => G0 = G' ∧ ∃ k, z = .bl k ∧ match k with
      | true => wE Γ ec σD G' (fun z H3 => ok (cmpD p d' z H3) fun k' => QD (.bl k') H3) XD
      | false => QD (.bl false) G') R' r1 r2 ?_ (fun u S2 H2 d2 G2 st2 R2 r3 h4 => ?_)
  · obtain ⟨c, e, h4⟩ := ok_of h'
    rw [e]
    exact ⟨rfl, c, rfl, h4⟩
  · obtain ⟨rfl, c, rfl, h5⟩ := h4
    cases dat_bl r3
    refine ⟨c, rfl, ?_⟩
    cases c with
    | false => exact (hQ.step (st.trans st2)).here R2 (.bl _) h5
    | true =>
      refine rc S2 σ σD H2 G2 _ _ XD R2 (sl.step R (st.trans st2)) h5 (fun w S3 H3 d3 G3 st3 R3 r4 h6 => ?_) (hX.step (st.trans st2))
      exact h3 v' w d' d3 S3 H3 G3 Q QD R3 ((r2.step R' st2).step R2 st3) r4 h6 (hQ.step ((st.trans st2).trans st3))
theorem je_chn (k : COk C fnm clm Γ N sc X W) {o p : COp} {op op' : CmpOp} {a b c : Expr} {pos : Pos} {ea eb ec : E} (ho : copB o op = true) (hp : copB p op' = true) (hm : lastMarks [op, op'] [b, c] = false) (ha : JE fnm clm X W a (wE Γ ea)) (hb : JE fnm clm X W b (wE Γ eb)) (hc : JE fnm clm X W c (wE Γ ec)) :
    JE fnm clm X W (.Compare a [op, op'] [b, c] pos) (wE Γ (.chn o p ea eb ec)) := by
  obtain ⟨r, h1, h2⟩ := cmp_ok (fnm := fnm) (clm := clm) (X := X) k.hu ho
  obtain ⟨r', h1', h3⟩ := cmp_ok (fnm := fnm) (clm := clm) (X := X) k.hu hp
  obtain ⟨_, ta, pa, ra⟩ := ha
  obtain ⟨_, tb, pb, rb⟩ := hb
  obtain ⟨_, tc, pc, rc⟩ := hc
  refine ⟨rfl, _, pe_chain h1 h1' pa pb pc hm, fun S σ σD H G Q QD XD R sl h hQ hX => ?_⟩
  exact chn_in (op := op) (op' := op') ra rb rc h2 h3 R sl h hQ hX
theorem jt_chn (k : COk C fnm clm Γ N sc X W) {o p : COp} {op op' : CmpOp} {a b c : Expr} {pos : Pos} {ea eb ec : E} (ho : copB o op = true) (hp : copB p op' = true) (hm : lastMarks [op, op'] [b, c] = false) (ha : JE fnm clm X W a (wE Γ ea)) (hb : JE fnm clm X W b (wE Γ eb)) (hc : JE fnm clm X W c (wE Γ ec)) :
    JT fnm clm X W (.Compare a [op, op'] [b, c] pos) (wT Γ (.chn o p ea eb ec)) := by
  obtain ⟨r, h1, h2⟩ := cmp_ok (fnm := fnm) (clm := clm) (X := X) k.hu ho
  obtain ⟨r', h1', h3⟩ := cmp_ok (fnm := fnm) (clm := clm) (X := X) k.hu hp
  obtain ⟨_, ta, pa, ra⟩ := ha
  obtain ⟨_, tb, pb, rb⟩ := hb
  obtain ⟨_, tc, pc, rc⟩ := hc
  refine ⟨_, pt_chain h1 h1' pa pb pc hm, fun S σ σD H G Q QD XD R sl h hQ hX => ?_⟩
  refine chn_in (op := op) (op' := op') (QD := fun d G => match d with | .bl c => QD c G | _ => False) ra rb rc h2 h3 R sl h (fun u S2 H2 d2 G2 st2 R2 r3 h4 => ?_) hX
  cases d2 <;> try exact h4.elim
  cases dat_bl r3
  exact ⟨_, rfl, hQ _ S2 H2 G2 st2 R2 h4⟩
theorem je_ife {t a b : Expr} {pos : Pos} {et : T} {ea eb : E} (ht : JT fnm clm X W t (wT Γ et)) (ha : JE fnm clm X W a (wE Γ ea)) (hb : JE fnm clm X W b (wE Γ eb)) : JE fnm clm X W (.IfExp t a b pos) (wE Γ (.ife et ea eb)) := by
  obtain ⟨tt, pt, rt⟩ := ht
  obtain ⟨_, ta, pa, ra⟩ := ha
  obtain ⟨_, tb, pb, rb⟩ := hb
  refine ⟨rfl, _, pe_ifExp pt pa pb, fun S σ σD H G Q QD XD R sl h hQ hX => ?_⟩
  refine rt S σ σD H G _ _ XD R sl h (fun c S1 H1 G1 st1 R1 h1 => ?_) hX
  cases c with
  | true => exact ra S1 σ σD H1 G1 _ _ XD R1 (sl.step R st1) h1 (hQ.step st1) (hX.step st1)
  | false => exact rb S1 σ σD H1 G1 _ _ XD R1 (sl.step R st1) h1 (hQ.step st1) (hX.step st1)
theorem ja_nil : JA fnm clm X W [] (wEs Γ .n) := ⟨fun _ z => (nomatch z), _, pa_nil, fun S σ σD H G Q QD XD R sl h hQ hX => hQ [] S H [] G rfl .refl R .nil h⟩
theorem ja_cons {e : Expr} {es : List Expr} {ee : E} {ees : Es} (he : JE fnm clm X W e (wE Γ ee)) (hr : JA fnm clm X W es (wEs Γ ees)) : JA fnm clm X W (e :: es) (wEs Γ (.c ee ees)) := by
  obtain ⟨s, ta, pa, ra⟩ := he
  obtain ⟨ss, tb, pb, rb⟩ := hr
  refine ⟨fun x hx => ?_, _, pa_cons pa pb (star_no s _ _), fun S σ σD H G Q QD XD R sl h hQ hX => ?_⟩
  · rcases List.mem_cons.mp hx with rfl | hx
    · exact s
    · exact ss x hx
  · refine ra S σ σD H G _ _ XD R sl h (fun v S1 H1 d G1 st1 R1 r1 h1 => ?_) hX
    refine rb S1 σ σD H1 G1 _ _ XD R1 (sl.step R st1) h1 (fun vs S2 H2 ds G2 hl st2 R2 r2 h2 => ?_) (hX.step st1)
    exact hQ (v :: vs) S2 H2 (d :: ds) G2 (by rw [List.length_cons, hl, List.length_cons]) (st1.trans st2) R2 (.cons (r1.step R1 st2) r2) h2
theorem star_all {es : List Expr} (h : ∀ e ∈ es, isStar e = false) (pos : Pos) (env : Env) : (backTo pos (starEach es env)).any (·.1) = false := by
  induction es with
  | nil => rfl
  | cons e es ih =>
    rw [star_no (h e List.mem_cons_self)]
    have := ih fun x hx => h x (List.mem_cons_of_mem _ hx)
    simp only [backTo, List.map_cons, List.any_cons, Bool.false_or] at this ⊢
    exact this
theorem je_tup {es : List Expr} {k : Nat} {pos : Pos} {ees : Es} (hl : es.length ≤ 1000) (h : JA fnm clm X W es (wEs Γ ees)) : JE fnm clm X W (.Tuple es k pos) (wE Γ (.tup ees)) := by
  obtain ⟨_, ta, pa, ra⟩ := h
  refine ⟨rfl, _, pe_tupP pa, fun S σ σD H G Q QD XD R sl h hQ hX => ?_⟩
  refine ra S σ σD H G _ _ XD R sl h (fun vs S1 H1 ds G1 hn st1 R1 r1 h1 => ?_) hX
  have hz : vs.length ≤ sizeLine := by rw [hn, lim_eq]; unfold lim; omega
  exact ⟨hz, new_tup R1 hz r1 h1 (hQ.step st1)⟩
theorem je_lst {z : Bool} {es : List Expr} {pos : Pos} {ees : Es} (hl : es.length ≤ 1000) (h : JA fnm clm X W es (wEs Γ ees)) : JE fnm clm X W (.List es pos) (wE Γ (.lst z ees)) := by
  obtain ⟨_, ta, pa, ra⟩ := h
  refine ⟨rfl, _, pe_lst pa, fun S σ σD H G Q QD XD R sl h hQ hX => ?_⟩
  refine ra S σ σD H G _ _ XD R sl h (fun vs S1 H1 ds G1 hn st1 R1 r1 h1 => ?_) hX
  have hz : vs.length ≤ sizeLine := by rw [hn, lim_eq]; unfold lim; omega
  exact ⟨hz, new_list R1 hz r1 h1 (hQ.step st1)⟩
def isSlice : Expr → Bool
  | .Slice .. => true
  | _ => false
theorem plain_ix {b : Expr} (h : isSlice b = false) : PlainIx b := by
  intro o i
  cases b <;> first | rfl | cases h
theorem je_idx {a b : Expr} {pos : Pos} {ea eb : E} (hs : isSlice b = false) (ha : JE fnm clm X W a (wE Γ ea)) (hb : JE fnm clm X W b (wE Γ eb)) : JE fnm clm X W (.Subscript a b pos) (wE Γ (.idx ea eb)) := by
  obtain ⟨_, ta, pa, ra⟩ := ha
  obtain ⟨_, tb, pb, rb⟩ := hb
  refine ⟨rfl, _, pe_ix ix_seq pa pb (plain_ix hs), fun S σ σD H G Q QD XD R sl h hQ hX => ?_⟩
  exact ref2 ra rb R sl h (fun v v' S' H' d d' G' st R' r1 r2 h' => idx_ok R' r1 r2 h' (hQ.step st)) hX
/-- a part of a slice -/
theorem jo_none {w : StD → HD → KD → KX → Prop} : ∃ te, PO X none te ∧ RefO X.K fnm clm W te (wPart true w) :=
  ⟨_, po_none, fun S σ σD H G Q QD XD R sl h hQ hX => hQ none S H G .refl R h⟩
theorem jo_some {e : Expr} {ee : E} (he : JE fnm clm X W e (wE Γ ee)) : ∃ te, PO X (some e) te ∧ RefO X.K fnm clm W te (wPart false (wE Γ ee)) := by
  obtain ⟨_, ta, pa, ra⟩ := he
  refine ⟨_, po_some pa, fun S σ σD H G Q QD XD R sl h hQ hX => ?_⟩
  refine ra S σ σD H G _ _ XD R sl h (fun v S1 H1 d G1 st1 R1 r1 h1 => ?_) hX
  cases d <;> try exact h1.elim
  cases dat_int r1
  exact ⟨_, rfl, hQ _ S1 H1 G1 st1 R1 h1⟩
theorem je_sl {z : Bool} {a : Expr} {lo hi : Option Expr} {pos p2 : Pos} {ea el eh : E} (ha : JE fnm clm X W a (wE Γ ea)) (hl : ∃ te, PO X lo te ∧ RefO X.K fnm clm W te (wPart (isNo el) (wE Γ el))) (hh : ∃ te, PO X hi te ∧ RefO X.K fnm clm W te (wPart (isNo eh) (wE Γ eh))) :
    JE fnm clm X W (.Subscript a (.Slice lo hi none p2) pos) (wE Γ (.sl z ea el eh)) := by
  obtain ⟨_, ta, pa, ra⟩ := ha
  obtain ⟨tl, pl, rl⟩ := hl
  obtain ⟨th, ph, rh⟩ := hh
  refine ⟨rfl, _, pe_slice (sl_str.or (sl_tupP.or sl_list)) pa pl ph, fun S σ σD H G Q QD XD R sl h hQ hX => ?_⟩
  refine ra S σ σD H G _ _ XD R sl h (fun v S1 H1 d G1 st1 R1 r1 h1 => ?_) hX
  refine rl S1 σ σD H1 G1 _ _ XD R1 (sl.step R st1) h1 (fun o1 S2 H2 G2 st2 R2 h2 => ?_) (hX.step st1)
  refine rh S2 σ σD H2 G2 _ _ XD R2 (sl.step R (st1.trans st2)) h2 (fun o2 S3 H3 G3 st3 R3 h3 => ?_) (hX.step (st1.trans st2))
  exact sl_okD R3 ((r1.step R1 st2).step R2 st3) h3 (hQ.step ((st1.trans st2).trans st3))
theorem je_call (k : COk C fnm clm Γ N sc X W) {f n : Nat} {x : Str} {e : Expr} {es : List Expr} {p pos : Pos} {ees : Es} (hf : C.fns[f]? = some (x, n)) (hn : (e :: es).length = n) (hx : nameOk x = true) (hg : Gl X x) (h : JA fnm clm X W (e :: es) (wEs Γ ees)) :
    JE fnm clm X W (.Call (.Name x p) (e :: es) [] pos) (wE Γ (.call f ees)) := by
  obtain ⟨m, hr, hk⟩ := k.fnk
  obtain ⟨ss, ta, pa, ra⟩ := h
  have n1 := (name_debug hx).1
  obtain ⟨a, fd, ps, h0, h1, h2, h3, h4, h5⟩ := (hk f (x, n) hf).ex
  refine ⟨rfl, _, pe_callS h5 hr.r hg (h2 (name_dot hx)) h3 h4 (fun σ => passAt k.tk σ) pa n1 (star_no (ss e List.mem_cons_self) _ _) (star_all (fun y hy => ss y (List.mem_cons_of_mem _ hy)) _ _), fun S σ σD H G Q QD XD R sl h hQ hX => ?_⟩
  refine ra S σ σD H G _ _ XD R sl h (fun vs S1 H1 ds G1 hl st1 R1 r1 h1 => ?_) hX
  exact ⟨hl.trans hn, S1, G1, ds, QD, XD, R1, r1, h1, hQ.step st1, hX.step st1⟩
theorem je_frz {e : Expr} {ee : E} (he : JE fnm clm X W e (wE Γ ee)) : JE fnm clm X W e (wE Γ (.frz ee)) := by
  obtain ⟨s, ta, pa, ra⟩ := he
  refine ⟨s, ta, pa, fun S σ σD H G Q QD XD R sl h hQ hX => ?_⟩
  refine ra S σ σD H G Q (fun d H1 => frzD d H1 QD) XD R sl h (fun v S1 H1 d G1 st1 R1 r1 h1 => ?_) hX
  exact frz_ok R1 r1 h1 (hQ.step st1)
theorem blt_of (k : COk C fnm clm Γ N sc X W) {x : Str} (h : bltNames.contains x = true) : X.mg x = none := k.blt x (by simpa using h)
theorem bf_names (f : Bf) : bltNames.contains (bfName f) = true ∧ nameOk (bfName f) = true ∧ bootBuiltins (bfName f) = some (bfVal f) := by
  cases f <;> exact ⟨by decide +kernel, by decide +kernel, by decide +kernel⟩
theorem je_bf (k : COk C fnm clm Γ N sc X W) {z : Bool} {f : Bf} {x : Str} {e : Expr} {es : List Expr} {p pos : Pos} {ees : Es} (hf : bfName f = x) (hg : Gl X x) (h : JA fnm clm X W (e :: es) (wEs Γ ees)) :
    JE fnm clm X W (.Call (.Name x p) (e :: es) [] pos) (wE Γ (.bf z f ees)) := by
  subst hf
  obtain ⟨ss, ta, pa, ra⟩ := h
  obtain ⟨r, h1, h2⟩ := bf_ok (fnm := fnm) (clm := clm) k.calm f
  obtain ⟨b1, b2, b3⟩ := bf_names f
  obtain ⟨n1, n2, n3⟩ := name_debug b2
  have ref : RefE X.K fnm clm W (tCB r ta) (wE Γ (.bf z f ees)) := fun S σ σD H G Q QD XD R sl h hQ hX =>
    ra S σ σD H G _ _ XD R sl h (fun vs S1 H1 ds G1 hl st1 R1 r1 h1 => h2 z vs ds S1 H1 G1 Q QD R1 r1 h1 (hQ.step st1)) hX
  refine ⟨rfl, _, ?_, ref⟩
  have s1 := star_no (ss e List.mem_cons_self) es X.env
  have s2 := star_all (fun y hy => ss y (List.mem_cons_of_mem _ hy)) pos X.env
  cases f <;> first
    | exact pe_callB h1 hg (blt_of k b1) b3 pa n3 n1 s1 s2
    | exact pe_callTy h1 hg (blt_of k b1) b3 pa n3 n1 s1 s2
def tyName : Ty → String
  | .non => "NoneType" | .bool => "bool" | .int => "int" | .str => "str" | .tuple => "tuple" | .list => "list" | .dict => "dict"
def tyStr : Ty → Str
  | .non => "NoneType" | .bool => "bool" | .int => "int" | .str => "str" | .tuple => "tuple" | .list => "list" | .dict => "dict"
theorem kit_is (a b : Ty) (h : b ≠ .non) : PySem.W.kitOne X.K (.type (tyName a)) (.type (tyName b)) = some (isTy a b) := by
  refine kit_ty ?_
  cases b <;> first | exact absurd rfl h | skip
  all_goals (cases a <;> decide +kernel)
theorem ty_of {K : PySem.W.Frag} {S : Addr → Option Bool} {H : Hp} {G : HD} {v : V} {d : D} (R : Hel K fnm clm S H G) (r : Dat K fnm S H G v d) {t : Ty} (e : tyD d G = some t) : TyX K H v (.type (tyName t)) := by
  cases d with
  | non => cases dat_non r; cases e; exact .base .non
  | bl _ => cases dat_bl r; cases e; exact .base (.bl _)
  | int _ => cases dat_int r; cases e; exact .base (.int _)
  | str _ => obtain ⟨rfl, _⟩ := dat_str r; cases e; exact .base (.str _)
  | tup ds =>
    obtain ⟨a, vs, rfl, h1, h2, h3⟩ := dat_tup r
    cases e
    rcases h1 with (h1 | ⟨o, h1⟩) | ⟨o, its, n, h1, h2, _⟩
    · exact .base (.tup h1)
    · exact .fTuple h1
    · exact .kTuple h1 h2
  | tpl ds =>
    obtain ⟨a, vs, rfl, h1, h2, h3⟩ := dat_tpl r
    cases e
    rcases h1 with (h1 | ⟨o, h1⟩) | ⟨o, its, n, h1, h2, _⟩
    · exact .base (.tup h1)
    · exact .fTuple h1
    · exact .kTuple h1 h2
  | lst ds =>
    obtain ⟨a, vs, rfl, h1, _⟩ := dat_lst r
    cases e
    rcases h1 with ⟨h1, _, _⟩ | ⟨o, h1⟩ | ⟨o, its, n, h1, h2, _⟩
    · exact .base (.lst h1)
    · exact .base (.frz h1)
    · exact .kList h1 h2
  | scr ds =>
    obtain ⟨a, vs, rfl, h1, _⟩ := dat_scr r
    cases e
    rcases h1 with ⟨h1, _, _⟩ | ⟨o, h1⟩ | ⟨o, its, n, h1, h2, _⟩
    · exact .base (.lst h1)
    · exact .base (.frz h1)
    · exact .kList h1 h2
  | ref a =>
    cases dat_ref r
    cases q : G a with
    | none => simp [tyD, q] at e
    | some c =>
      cases c with
      | lst ds => simp [tyD, q] at e; subst e; obtain ⟨vs, h1, _⟩ := R.cell a _ q; exact .base (.lst h1)
      | dct ds => simp [tyD, q] at e; subst e; obtain ⟨vs, h1, _⟩ := R.cell a _ q; exact .base (.dK h1)
      | ins _ _ => simp [tyD, q] at e
  | _ => exact nomatch (show (none : Option Ty) = some t from e)
theorem ty_names (t : Ty) (h : t ≠ .non) : bltNames.contains (tyStr t) = true ∧ nameOk (tyStr t) = true ∧ bootBuiltins (tyStr t) = some (.type (tyName t)) := by
  cases t <;> first | exact absurd rfl h | exact ⟨by decide +kernel, by decide +kernel, by decide +kernel⟩
theorem je_isi (k : COk C fnm clm Γ N sc X W) {t : Ty} {a : Expr} {x : Str} {p p2 pos : Pos} {ea : E} (ht : t ≠ .non) (hx : tyStr t = x) (hg : Gl X "isinstance") (hg2 : Gl X x) (ha : JE fnm clm X W a (wE Γ ea)) :
    JE fnm clm X W (.Call (.Name "isinstance" p) [a, .Name x p2] [] pos) (wE Γ (.isi ea [t])) := by
  subst hx
  obtain ⟨s, ta, pa, ra⟩ := ha
  obtain ⟨b1, b2, b3⟩ := ty_names t ht
  obtain ⟨n1, n2, n3⟩ := name_debug b2
  have pt : PE X (.Name (tyStr t) p2) (tC (.ty (tyName t))) := pe_bltn hg2 (blt_of k b1) b3 rfl n3 n1
  refine ⟨rfl, _, pe_callB call_isi hg (blt_of k (by decide +kernel)) (by decide +kernel) (pa_cons pa (pa_cons pt pa_nil) (star_no s _ _)) (by decide) (by decide) (star_no s _ _) rfl, fun S σ σD H G Q QD XD R sl h hQ hX => ?_⟩
  refine ra S σ σD H G _ _ XD R sl h (fun v S1 H1 d G1 st1 R1 r1 h1 => ?_) hX
  obtain ⟨u, e, h2⟩ := ok_of h1
  refine ⟨v, .ty (tyName t), _, _, isTy u t, rfl, .ty _, ty_of R1 r1 e, kit_is u t ht, (hQ.step st1).here R1 (.bl _) ?_⟩
  simpa using h2
def okBase : Expr → Bool
  | .Call (.Name _ _) [] [] _ => false
  | _ => true
theorem base_of {o : Expr} (h : okBase o = true) (m : Str) (env : Env) : attributeBase o m env (eval o env) = eval o env := by
  unfold attributeBase
  split
  · rename_i id p pos
    cases h
  · rfl
end
end DL

namespace DL
open PySem PySem.Spec PyProof.Rows L2
section
variable {C : Cfg} {fnm clm : Nat → Option Addr} {Γ : Gam} {N : List Str} {sc : Scope} {X : Cx} {W : WX}
/-! ## 9. Methods, targets, what is walked, comprehensions -/
theorem je_mt {m : Mt} (hm : mtYes m = true) {o e : Expr} {x : Str} {apos cpos : Pos} {eo : E} {ees : Es} (hx : mtName m = x) (hb : okBase o = true) (hl : (apos.endLine == cpos.line) = true)
    (ho : JE fnm clm X W o (wE Γ eo)) (h : JA fnm clm X W [e] (wEs Γ ees)) : JE fnm clm X W (.Call (.Attribute o x apos) [e] [] cpos) (wE Γ (.mt m eo ees)) := by
  subst hx
  obtain ⟨T, id, r, M⟩ := mt_okD (fnm := fnm) (clm := clm) (X := X) hm
  obtain ⟨s, to, po, ro⟩ := ho
  obtain ⟨ss, ta, pa, ra⟩ := h
  have s1 := star_no (ss e List.mem_cons_self) [] X.env
  refine ⟨rfl, _, pe_bm M.pa M.slot M.ty M.mt po pa (base_of hb _ _) (by rw [s1] <;> rfl) hl s1 rfl, fun S σ σD H G Q QD XD R sl h hQ hX => ?_⟩
  refine ro S σ σD H G _ _ XD R sl h (fun v S1 H1 d G1 st1 R1 r1 h1 => ?_) hX
  obtain ⟨h1, h2⟩ := h1
  refine ⟨M.rc v d S1 H1 G1 R1 r1 h1, ?_⟩
  refine ra S1 σ σD H1 G1 _ _ XD R1 (sl.step R st1) h2 (fun vs S2 H2 ds G2 hl st2 R2 r2 h3 => ?_) (hX.step st1)
  exact M.to v vs d ds S2 H2 G2 Q QD R2 (r1.step R1 st2) r2 h3 (hQ.step (st1.trans st2))
theorem je_mt0 {m : Mt} (hm : mtYes m = true) {o : Expr} {x : Str} {apos cpos : Pos} {eo : E} (hx : mtName m = x) (hb : okBase o = true) (hl : (apos.endLine == cpos.line) = true)
    (ho : JE fnm clm X W o (wE Γ eo)) : JE fnm clm X W (.Call (.Attribute o x apos) [] [] cpos) (wE Γ (.mt m eo .n)) := by
  subst hx
  obtain ⟨T, id, r, M⟩ := mt_okD (fnm := fnm) (clm := clm) (X := X) hm
  obtain ⟨s, to, po, ro⟩ := ho
  refine ⟨rfl, _, pe_bm0 M.pa M.slot M.ty M.mt po (base_of hb _ _) hl, fun S σ σD H G Q QD XD R sl h hQ hX => ?_⟩
  refine ro S σ σD H G _ _ XD R sl h (fun v S1 H1 d G1 st1 R1 r1 h1 => ?_) hX
  exact ⟨M.rc v d S1 H1 G1 R1 r1 h1.1, M.to v [] d [] S1 H1 G1 Q QD R1 r1 .nil h1.2 (hQ.step st1)⟩
/-! ### tests -/
def plainT : Expr → Bool
  | .UnaryOp .Not _ _ => false
  | .BoolOp .. => false
  | .IfExp .. => false
  | .Compare .. => false
  | _ => true
theorem true_of {e : Expr} (h : plainT e = true) (env : Env) (whole : Sem Value) : isTrue e env whole = (do let v ← whole; standAt e.pos; holding [v] (truthy v)) := by
  cases e <;> first | rfl | cases h | skip
  rename_i op x pos
  cases op <;> first | rfl | cases h
theorem jt_of {e : Expr} {ee : E} (hp : plainT e = true) (he : JE fnm clm X W e (wE Γ ee)) : JT fnm clm X W e (wT Γ (.of ee)) := by
  obtain ⟨s, ta, pa, ra⟩ := he
  refine ⟨_, pt_truth pa (true_of hp X.env), fun S σ σD H G Q QD XD R sl h hQ hX => ?_⟩
  refine ra S σ σD H G _ _ XD R sl h (fun v S1 H1 d G1 st1 R1 r1 h1 => ?_) hX
  obtain ⟨b, e, h2⟩ := ok_of h1
  exact ⟨b, tru_of R1 r1 e, hQ b S1 H1 G1 st1 R1 h2⟩
theorem jt_nt {e : Expr} {pos : Pos} {et : T} (he : JT fnm clm X W e (wT Γ et)) : JT fnm clm X W (.UnaryOp .Not e pos) (wT Γ (.nt et)) := by
  obtain ⟨ta, pa, ra⟩ := he
  refine ⟨_, pt_not pa, fun S σ σD H G Q QD XD R sl h hQ hX => ?_⟩
  exact ra S σ σD H G _ _ XD R sl h (fun b S1 H1 G1 st1 R1 h1 => hQ (!b) S1 H1 G1 st1 R1 h1) hX
/-- and, or of tests -/
def JTs (fnm clm : Nat → Option Addr) (X : Cx) (W : WX) (b : Bool) (es : List Expr) (t : StD → HD → (Bool → HD → Prop) → KX → Prop) : Prop := ∀ pos, ∃ te, PW X (.BoolOp (bopE b) es pos) te ∧ RefT X.K fnm clm W te t
theorem jts_one {b : Bool} {e : Expr} {et : T} (he : JT fnm clm X W e (wT Γ et)) : JTs fnm clm X W b [e] (wTs Γ b (.c et .n)) := fun pos => by
  obtain ⟨ta, pa, ra⟩ := he
  cases b with
  | true => exact ⟨_, pw_and1 pa, ra⟩
  | false => exact ⟨_, pw_or1 pa, ra⟩
theorem jts_cons {b : Bool} {e e' : Expr} {es : List Expr} {et et' : T} {ets : Ts} (he : JT fnm clm X W e (wT Γ et)) (hr : JTs fnm clm X W b (e' :: es) (wTs Γ b (.c et' ets))) : JTs fnm clm X W b (e :: e' :: es) (wTs Γ b (.c et (.c et' ets))) := fun pos => by
  obtain ⟨ta, pa, ra⟩ := he
  obtain ⟨tb, pb, rb⟩ := hr pos
  cases b with
  | true =>
    refine ⟨_, pw_and pa pb, fun S σ σD H G Q QD XD R sl h hQ hX => ?_⟩
    refine ra S σ σD H G _ _ XD R sl h (fun c S1 H1 G1 st1 R1 h1 => ?_) hX
    cases c with
    | true => exact rb S1 σ σD H1 G1 _ _ XD R1 (sl.step R st1) h1 (hQ.step st1) (hX.step st1)
    | false => exact hQ false S1 H1 G1 st1 R1 h1
  | false =>
    refine ⟨_, pw_or pa pb, fun S σ σD H G Q QD XD R sl h hQ hX => ?_⟩
    refine ra S σ σD H G _ _ XD R sl h (fun c S1 H1 G1 st1 R1 h1 => ?_) hX
    cases c with
    | false => exact rb S1 σ σD H1 G1 _ _ XD R1 (sl.step R st1) h1 (hQ.step st1) (hX.step st1)
    | true => exact hQ true S1 H1 G1 st1 R1 h1
theorem jt_bo {b : Bool} {es : List Expr} {pos : Pos} {ets : Ts} (h : JTs fnm clm X W b es (wTs Γ b ets)) : JT fnm clm X W (.BoolOp (bopE b) es pos) (wT Γ (.bo b ets)) := by
  obtain ⟨te, p, r⟩ := h pos
  exact ⟨te, p.pt, r⟩
/-! ### targets -/
mutual
def tIn : Tgt → List Nat → Bool
  | .n i, vs => vs.contains i
  | .t ts, vs => tIns ts vs
def tIns : List Tgt → List Nat → Bool
  | [], _ => true
  | t :: ts, vs => tIn t vs && tIns ts vs
end
theorem wipe_set {i : Nat} {o : Option V} : ∀ {vs : List Nat} {σ : St'}, vs.contains i = true → wipe (σ.set i o) vs = wipe σ vs
  | [], _, h => by cases h
  | v :: vs, σ, h => by
    by_cases e : vs.contains i = true
    · show (wipe (σ.set i o) vs).set v none = (wipe σ vs).set v none
      rw [wipe_set e]
    · have q : v = i := by
        simp only [List.contains_cons, Bool.or_eq_true, beq_iff_eq] at h
        rcases h with h | h
        · exact h.symm
        · exact absurd h e
      subst q
      have out : ∀ {ws : List Nat} {τ : St'}, ¬ ws.contains v = true → wipe (τ.set v o) ws = (wipe τ ws).set v o := by
        intro ws
        induction ws with
        | nil => intro τ _; rfl
        | cons w ws ih =>
          intro τ hw
          simp only [List.contains_cons, Bool.or_eq_true, beq_iff_eq, not_or] at hw
          show (wipe (τ.set v o) ws).set w none = ((wipe τ ws).set w none).set v o
          rw [ih hw.2, List.set_comm _ _ hw.1]
      show (wipe (σ.set v o) vs).set v none = (wipe σ vs).set v none
      rw [out e, List.set_set]
def RefG (K : PySem.W.Frag) (fnm clm : Nat → Option Addr) (g : TG) (t : Tgt) : Prop := ∀ S (σ : St') σD H G v d (Q : St' → Hp → Prop) σD', Hel K fnm clm S H G → SlotOk K fnm S H G σ σD → Dat K fnm S H G v d → asg t d σD = some σD' →
  (∀ σ', SlotOk K fnm S H G σ' σD' → (∀ vs, tIn t vs = true → wipe σ' vs = wipe σ vs) → Q σ' H) → g v σ H Q
def RefGs (K : PySem.W.Frag) (fnm clm : Nat → Option Addr) (g : TGs) (t : List Tgt) : Prop := ∀ S (σ : St') σD H G vs ds (Q : St' → Hp → Prop) σD', Hel K fnm clm S H G → SlotOk K fnm S H G σ σD → DatAll K fnm S H G vs ds → asgs t ds σD = some σD' →
  (∀ σ', SlotOk K fnm S H G σ' σD' → (∀ ws, tIns t ws = true → wipe σ' ws = wipe σ ws) → Q σ' H) → g vs σ H Q
def JG (fnm clm : Nat → Option Addr) (X : Cx) (tg : Expr) (t : Tgt) : Prop := ∃ g, PG X tg g ∧ RefG X.K fnm clm g t
structure JGs (fnm clm : Nat → Option Addr) (X : Cx) (tgs : List Expr) (t : List Tgt) : Prop where
  star : ∀ e ∈ tgs, isStar e = false
  len : tgs.length = t.length
  ex : ∃ g, PGs X tgs g ∧ RefGs X.K fnm clm g t
theorem jg_name {i : Nat} {x : Str} {pos : Pos} (nd : X.N.Nodup) (hi : X.N[i]? = some x) (hx : L2.Loc X.env.scope x) (hf : X.fn x = true ∨ X.env.scope.names.lookup x = some .local) : JG fnm clm X (.Name x pos) (.n i) := by
  refine ⟨_, pg_name nd hi hx hf, fun S σ σD H G v d Q σD' R sl r e h => ?_⟩
  cases e
  exact h _ (sl.set r i) fun vs hv => wipe_set hv
theorem asg_star {e : Expr} (h : isStar e = false) (es : List Expr) (env : Env) : assignEach (e :: es) env = (false, assign e env) :: assignEach es env := by
  cases e <;> first | rfl | cases h
theorem jgs_nil : JGs fnm clm X [] [] := ⟨fun _ z => (nomatch z), rfl, _, pgs_nil, fun S σ σD H G vs ds Q σD' R sl r e h => by
  cases r with
  | nil => cases e; exact ⟨rfl, h σ sl fun _ _ => rfl⟩
  | cons _ _ => cases e⟩
theorem jgs_cons {e : Expr} {es : List Expr} {t : Tgt} {ts : List Tgt} (hs : isStar e = false) (he : JG fnm clm X e t) (hr : JGs fnm clm X es ts) : JGs fnm clm X (e :: es) (t :: ts) := by
  obtain ⟨g, pg, rg⟩ := he
  obtain ⟨ss, hl, gs, pgs, rgs⟩ := hr
  refine ⟨fun x hx => ?_, by rw [List.length_cons, hl, List.length_cons], _, pgs_cons pg pgs (by rw [asg_star hs] <;> rfl), fun S σ σD H G vs ds Q σD' R sl r e h => ?_⟩
  · rcases List.mem_cons.mp hx with rfl | hx
    · exact hs
    · exact ss x hx
  · cases r with
    | nil => cases e
    | cons r rr =>
      rename_i v d vs ds
      have e' : (match asg t d σD with | some σ' => asgs ts ds σ' | none => none) = some σD' := e
      cases q : asg t d σD with
      | none => rw [q] at e'; cases e'
      | some σ1 =>
        rw [q] at e'
        refine ⟨v, vs, rfl, rg S σ σD H G v d _ σ1 R sl r q fun σ' sl' w => ?_⟩
        refine rgs S σ' σ1 H G vs ds _ σD' R sl' rr e' fun σ'' sl'' w' => h σ'' sl'' fun ws hw => ?_
        have hw2 : tIn t ws = true ∧ tIns ts ws = true := by simpa only [tIns, Bool.and_eq_true] using hw
        rw [w' ws hw2.2, w ws hw2.1]
theorem jg_tup {es : List Expr} {k : Nat} {pos : Pos} {ts : List Tgt} (hc : X.calm = true) (h : JGs fnm clm X es ts) : JG fnm clm X (.Tuple es k pos) (.t ts) := by
  obtain ⟨ss, hl, g, pg, rg⟩ := h
  have len : ∀ {es : List Expr}, (∀ e ∈ es, isStar e = false) → (assignEach es X.env).length = es.length ∧ (assignEach es X.env).findIdx? (·.1) = none := by
    intro es
    induction es with
    | nil => intro _; exact ⟨rfl, rfl⟩
    | cons e es ih =>
      intro hs
      obtain ⟨h1, h2⟩ := ih fun x hx => hs x (List.mem_cons_of_mem _ hx)
      rw [asg_star (hs e List.mem_cons_self)]
      refine ⟨by rw [List.length_cons, h1, List.length_cons], ?_⟩
      rw [List.findIdx?_cons, h2]; rfl
  obtain ⟨l1, l2⟩ := len ss
  refine ⟨_, pg_tup (n := es.length) hc pg l1 l2, fun S σ σD H G v d Q σD' R sl r e h => ?_⟩
  obtain ⟨ds, a, vs, rfl, h1, h2, h3, e⟩ : ∃ ds a vs, v = .ref a ∧ SqT X.K H a vs ∧ vs.length ≤ sizeLine ∧ DatAll X.K fnm S H G vs ds ∧ asgs ts ds σD = some σD' := by
    cases d <;> try exact nomatch (show (none : Option StD) = some σD' from e)
    · obtain ⟨a, vs, h0, h1, h2, h3⟩ := dat_tup r
      exact ⟨_, a, vs, h0, h1, h2, h3, e⟩
    · obtain ⟨a, vs, h0, h1, h2, h3⟩ := dat_tpl r
      exact ⟨_, a, vs, h0, h1, h2, h3, e⟩
  have tl : ∀ {ts : List Tgt} {ds : List D} {σ σ' : StD}, asgs ts ds σ = some σ' → ts.length = ds.length := by
    intro ts
    induction ts with
    | nil => intro ds σ σ' e; cases ds with
      | nil => rfl
      | cons _ _ => cases e
    | cons t ts ih =>
      intro ds σ σ' e
      cases ds with
      | nil => cases e
      | cons d ds =>
        have e' : (match asg t d σ with | some σ' => asgs ts ds σ' | none => none) = some σ' := e
        split at e'
        · rw [List.length_cons, List.length_cons, ih e']
        · cases e'
  refine ⟨a, vs, rfl, h1, by rw [h3.length, hl, tl e], ?_⟩
  exact rg S σ σD H G vs ds Q σD' R sl h3 e fun σ' sl' w => h σ' sl' w
end
end DL

/-! ### enumerate over a tuple -/
namespace DL.En
open PySem PySem.Spec PyProof.Rows L2
open Sem (wp)
open AutoSeq1 (wpAny_loadPart')
abbrev tIt (t : Addr) : Obj := { cls := .type "tuple_iterator", data := .fields #[.ref t, .int 0 0] }
abbrev eOb (i : Addr) : Obj := { cls := .type "enumerate", data := .fields #[.none, .bool false, .ref i, rawInt 0, .none, .none] }
theorem new_tup (t : Addr) (items : Array Value) (n : Nat) (dct : Option Addr) (sl : Array (Option Value)) :
    Meets (Builtin.«enumerate.__new__» ⟨[.type "enumerate", .ref t], []⟩) (fun _ R s => s.heap.get? t = some { cls := .type "tuple", dict := dct, data := .seq items n, slots := sl } ∧
      R (.ok (.ret (.ref (s.heap.push (tIt t)).objs.size))) { s with heap := (s.heap.push (tIt t)).push (eOb s.heap.objs.size) }) :=
  .of_wp fun prog w A R s h => by
    obtain ⟨hp, g, d, tk, os⟩ := s; obtain ⟨ht, h⟩ := h
    have sub := sub_enumerate; have T : Heap.IsTuple (Shared.heap ⟨hp, g, d, tk, os⟩) t items := ⟨_, ht, rfl, n, rfl⟩
    wp_walk using wpAny_loadPart' ht
    refine wpAny_stack_any fun _ => wpAny_pure ?_; split
    · rename_i c _ _ _ _ _; cases (c == Value.type "enumerate")
      · wp_walk using wpAny_loadPart' ht, wpAny_pyIter_tuple T; exact ⟨_, rfl, h⟩
      · wp_walk using wpAny_loadPart' ht, wpAny_pyIter_tuple T; exact ⟨_, rfl, h⟩
    · wp_walk using wpAny_loadPart' ht, wpAny_pyIter_tuple T; exact ⟨_, rfl, h⟩
theorem call_tup {prog : Program} {w : World} {A : Around} {E : Value → Shared → Prop} {s : Shared} {t : Addr} {items : Array Value} {Q : Value → Shared → Prop} (hT : s.heap.IsTuple t items)
    (k : ∀ h', IsEnum h' (s.heap.objs.size + 1) s.heap.objs.size 0 .none → h'.IsTupleIter s.heap.objs.size t 0 → h'.objs.size = s.heap.objs.size + 2 → (∀ b o, s.heap.get? b = some o → h'.get? b = some o) → Q (.ref (s.heap.objs.size + 1)) { s with heap := h' }) :
    wpAny (model prog w) A (call (.type "enumerate") [.ref t]) Q E s := by
  obtain ⟨⟨c, dct, dt, sl⟩, ht, hc, n, hd⟩ := hT
  cases (hc : c = .type "tuple"); cases (hd : dt = .seq items n)
  have sz : (s.heap.push (tIt t)).objs.size = s.heap.objs.size + 1 := Heap.size_push ..
  refine callType_new F.called_enumerate (by decide) (F.typeCall_enumerate_1 _) (F.newCall_enumerate_1 _) (fun o => F.args_object_init_2 o _) F.entry_enumerate_new (new_tup t items n dct sl) ⟨ht, ?_⟩
  have en : IsEnum ((s.heap.push (tIt t)).push (eOb s.heap.objs.size)) (s.heap.objs.size + 1) s.heap.objs.size 0 .none := by
    have q := Heap.get?_push_size (s.heap.push (tIt t)) (o := eOb s.heap.objs.size) rfl; rw [sz] at q; exact q
  show _ ∧ _; rw [sz]
  exact ⟨⟨_, en, rfl⟩, k _ en ⟨_, Heap.get?_push_of_some _ (Heap.get?_push_size _ rfl), rfl, rfl⟩ (by rw [Heap.size_push, sz]) fun b o y => Heap.get?_push_of_some _ (Heap.get?_push_of_some _ y)⟩
/-- the tuple at a, each item in a new pair -/
def ItE (K : PySem.W.Frag) (a : Addr) : It :=
  ⟨fun i H => ∃ (xs : List V) (x : V), SqT K H a xs ∧ xs[i]? = some x, fun i H v H' => ∃ T x, v = .ref T ∧ H T = none ∧ H' = upd H T (.tup [.int (i : Nat), x]) ∧ ∀ xs, SqT K H a xs → xs[i]? = some x, fun i H => ∃ xs : List V, SqT K H a xs ∧ xs.length ≤ i⟩
theorem turn {P : Program} {w : World} {K : PySem.W.Frag} {elts : List Expr} {kk : Nat} {tpos : Pos} (a e it : Addr) :
    Turn P w K (.Tuple elts kk tpos) (ItE K a) [e, it] e (fun i h => (∃ old, IsEnum h e it ((i : Nat) : Int) old) ∧ h.IsTupleIter it a i ∧ e ≠ it) where
  mem := by simp
  obj := fun i h st b hb => by
    obtain ⟨⟨old, he⟩, ⟨o, ho, hc, hd⟩, _⟩ := st
    rcases (show b = e ∨ b = it by simpa using hb) with z | z
    · rw [z]; exact ⟨_, he, fun v q => nomatch q⟩
    · rw [z]; exact ⟨o, ho, fun v q => by rw [hd] at q; cases q⟩
  keep := fun i h h' ⟨⟨old, he⟩, hi, hne⟩ k => ⟨⟨old, k e (by simp) _ he⟩, hi.at fun o q => k it (by simp) o q, hne⟩
  item := by
    intro X hP hw hK hc i pins s σ H E I hf st hg; subst hP hw hK
    obtain ⟨⟨⟨old, he⟩, hit, hne⟩, ⟨xs, x, hq, hx⟩⟩ := And.intro st hg
    obtain ⟨its, rv, p, _⟩ := I.tuple hq
    obtain ⟨u, hu, ru⟩ := rv.get hx
    have hel : e < s.heap.objs.size := Heap.lt_size he
    have hil : it < s.heap.objs.size := by obtain ⟨_, q, _⟩ := hit; exact Heap.lt_size q
    have pt : s.heap.IsTuple a its.toArray := p
    have hlt : i < its.toArray.size := by rw [List.size_toArray]; exact (List.getElem?_eq_some_iff.mp hu).1
    have dif : ∀ b : Addr, (∃ o, s.heap.get? b = some o ∧ o.cls ≠ .type "tuple") → a ≠ b := fun b ⟨o, h1, h2⟩ z => by
      obtain ⟨o', h3, h4, _⟩ := pt; rw [z, h1] at h3; cases h3; exact h2 h4
    have hae : a ≠ e := dif e ⟨_, he, by simp⟩
    have hai : a ≠ it := dif it (by obtain ⟨o, h1, h2, _⟩ := hit; exact ⟨o, h1, by rw [h2]; simp⟩)
    refine wpAny_pyNext_enum_itemD (Draws.tuple (show X.A.in1.handled = none from I.ok.hd hc) it a hai its.toArray) he ⟨hit, pt⟩ hlt hne (by simp [hne, Ne.symm hae]) fun y h' tk py ho ⟨hit', _⟩ hT hsz hk => ?_
    have ey : y = u := by
      have : its[i]? = some y := by simpa using py
      rw [hu] at this; exact (Option.some.inj this).symm
    subst ey
    refine ⟨_, rfl, wpAny_letOwnedTupleGo_enum (s := { s with heap := h', toks := tk + 1 }) ho fun h'' he' sb => ?_⟩
    have hT2 : h''.get? s.heap.objs.size = some { cls := .type "tuple", data := .seq #[.int i tk, y] } := (sb.2 _ (Nat.ne_of_gt hel)).trans hT
    have new : ObjOk X.prog X.w (upd H s.heap.objs.size (.tup [.int (i : Nat), x])) h'' s.heap.objs.size (.tup [.int (i : Nat), x]) := ⟨by show 2 ≤ sizeLine; decide, [.int i tk, y], .cons ⟨_, rfl⟩ (.cons ru .nil), ⟨_, hT2, rfl, _, rfl⟩⟩
    have I1 : Inv X pins σ (upd H s.heap.objs.size (.tup [.int (i : Nat), x])) { s with heap := h'', toks := tk + 1 } :=
      I.turnedNew (ch := [e, it]) (fun b ob hb q => (sb.2 b (fun z => hb (by simp [z]))).trans (hk b ob (fun z => hb (by simp [z])) (fun z => hb (by simp [z])) q)) hf (Nat.le_refl _) new
    refine ⟨.ref s.heap.objs.size, _, I1, rfl, ⟨_, x, rfl, I.hok.fresh (Nat.le_refl _), rfl, fun ys hy => by rw [I.tuple_inj hy hq]; exact hx⟩, ⟨⟨y, by rw [show ((i + 1 : Nat) : Int) = (i : Int) + 1 by omega]; exact he'⟩, hit'.at fun o q => (sb.2 it (Ne.symm hne)).trans q, hne⟩, fun b hb => ?_⟩
    have hb' : b < s.heap.objs.size := by
      rcases (show b = e ∨ b = it by simpa using hb) with z | z <;> (rw [z]; assumption)
    rw [upd_ne (Nat.ne_of_lt hb')]; exact (hf b hb).1
  done := by
    intro X hP hw hK hc i pins s σ H E I hf st hg; subst hP hw hK
    obtain ⟨⟨⟨old, he⟩, hit, hne⟩, ⟨xs, hq, hx⟩⟩ := And.intro st hg
    obtain ⟨its, rv, p, _⟩ := I.tuple hq
    obtain ⟨f0, f1, f2, f3, f4, f5⟩ := hf it (by simp)
    have pt : s.heap.IsTuple a its.toArray := p
    have hai : a ≠ it := fun z => by
      obtain ⟨o, h1, h2, _⟩ := hit; obtain ⟨o', h3, h4, _⟩ := pt
      rw [z, h1] at h3; cases h3; rw [h2] at h4; simp at h4
    have none' : its.toArray[i]? = none := Array.getElem?_eq_none (by rw [List.size_toArray, ← rv.length]; exact hx)
    have D : Draws X.prog X.w X.A.in1 it [it, a] i (fun _ _ => False) (fun k h => k = i ∧ h.IsTupleIter it a i ∧ h.IsTuple a its.toArray) := {
      live := fun _ _ st => let ⟨o, ho, _⟩ := st.2.1; ⟨o, ho⟩
      frame := fun _ _ _ st hk => ⟨st.1, st.2.1.at fun o q => hk it (by simp) o q, st.2.2.at fun o q => hk a (by simp) o q⟩
      item := fun k s Q E hk st _ => absurd st.1 (by omega)
      done := fun s Q E st hE => wpAny_nextOf_tuple_end (show X.A.in1.handled = none from I.ok.hd hc) st.2.1 st.2.2 none' hE }
    exact wpAny_pyNext_enum_endD D he ⟨rfl, hit, pt⟩ fun h' eb => ⟨rfl, I.turned (t' := s.toks) (fun b o hb q => eb b o hb q) f0 f1 f3 f4 f5⟩
  self := fun A i s Q E ⟨⟨_, he⟩, _⟩ h => wpAny_pyIter_enum he h
def iAny (K : PySem.W.Frag) (ta : TA) : TI := fun σ H R => ta σ H fun vs H1 => ∃ a xs, vs = [.ref a] ∧ ((SqL K H1 a xs ∧ R (Ite K a) H1) ∨ (SqT K H1 a xs ∧ R (ItE K a) H1))
theorem pi_any {X : Cx} {e : Expr} {ta : TA} {p pos tpos : Pos} {elts : List Expr} {kk : Nat} (hg : Gl X "enumerate") (hm : X.mg "enumerate" = none) (ha : PA X [e] ta) (hs : starEach [e] X.env = [(false, eval e X.env)]) :
    PI X (.Tuple elts kk tpos) (.Call (.Name "enumerate" p) [e] [] pos) (iAny X.K ta) := by
  refine ⟨fun pins s σ H R I h => ?_⟩
  refine Call_ (ld_blt I hg hm boot_enumerate (PyProof.Rows.callWith_type1 (thn (ha.run pos pins s σ H _ I h) fun us s1 ⟨vs, H1, I1, r1, ⟨a, xs, ex, q⟩⟩ => ?_) hs rfl))
  subst ex
  cases r1 with
  | cons r rr =>
    cases rr; cases r
    have fp : ∀ b, b ∈ [s1.heap.objs.size + 1, s1.heap.objs.size] → FpOk X pins H1 b := fun b hb => by
      have hle : s1.heap.objs.size ≤ b := by
        rcases (show b = s1.heap.objs.size + 1 ∨ b = s1.heap.objs.size by simpa using hb) with z | z <;> omega
      exact I1.fpOk hle (I1.hok.fresh hle)
    rcases q with ⟨hq, q⟩ | ⟨hq, q⟩
    · obtain ⟨its, rv, p', hz⟩ := I1.list hq
      refine call_enumerate_list p'.isList fun h' he hit hsz hk => wpAny_pyIter_enum he ?_
      exact ⟨s1.heap.objs.size + 1, [s1.heap.objs.size + 1, s1.heap.objs.size], _, _, H1, rfl, I1.kept (t' := s1.toks) hk, turn_enum a (s1.heap.objs.size + 1) s1.heap.objs.size, ⟨⟨.none, he⟩, hit, Nat.succ_ne_self _⟩, fp, q⟩
    · obtain ⟨its, rv, p', hz⟩ := I1.tuple hq
      refine call_tup (show s1.heap.IsTuple a its.toArray from p') fun h' he hit hsz hk => wpAny_pyIter_enum he ?_
      exact ⟨s1.heap.objs.size + 1, [s1.heap.objs.size + 1, s1.heap.objs.size], _, _, H1, rfl, I1.kept (t' := s1.toks) hk, turn a (s1.heap.objs.size + 1) s1.heap.objs.size, ⟨⟨.none, he⟩, hit, Nat.succ_ne_self _⟩, fp, q⟩
end DL.En

namespace DL
open PySem PySem.Spec PyProof.Rows L2
/-! ### what is walked -/
section
variable {K : PySem.W.Frag} {fnm clm : Nat → Option Addr} {S : Addr → Option Bool} {H : Hp} {G : HD}
theorem it_list {a : Addr} {vs : List V} {ds : List D} (R : Hel K fnm clm S H G) (h : LAt K S H G a vs) (z : vs.length ≤ sizeLine) (r : DatAll K fnm S H G vs ds) : ItOk K fnm clm (Itl K a) S H G ds := by
  refine ⟨by rw [← r.length]; exact z, fun S' H' G' st R' i d e => ?_, fun S' H' G' st R' => ?_⟩
  · have h' := (h.keep (Keep.of R st)).sq
    obtain ⟨v, e1, e2⟩ := (r.step R st).get e
    refine ⟨⟨vs, v, h', e1⟩, fun x H'' y => ?_⟩
    obtain ⟨rfl, y⟩ := y
    have := y vs h'
    rw [e1] at this; cases this
    exact ⟨.refl, R', e2⟩
  · have h' := (h.keep (Keep.of R st)).sq
    exact ⟨vs, h', by rw [r.length]; exact Nat.le_refl _⟩
theorem it_tup {a : Addr} {vs : List V} {ds : List D} (R : Hel K fnm clm S H G) (h : SqT K H a vs) (z : vs.length ≤ sizeLine) (r : DatAll K fnm S H G vs ds) : ItOk K fnm clm (Itt K a) S H G ds := by
  refine ⟨by rw [← r.length]; exact z, fun S' H' G' st R' i d e => ?_, fun S' H' G' st R' => ?_⟩
  · have h' := (Keep.of R st).sqT h
    obtain ⟨v, e1, e2⟩ := (r.step R st).get e
    refine ⟨⟨vs, v, h', e1⟩, fun x H'' y => ?_⟩
    obtain ⟨rfl, y⟩ := y
    have := y vs h'
    rw [e1] at this; cases this
    exact ⟨.refl, R', e2⟩
  · exact ⟨vs, (Keep.of R st).sqT h, by rw [r.length]; exact Nat.le_refl _⟩
theorem it_str {s : List Nat} (hs : PyData.strOk (mkStr s) = true) (z : s.length ≤ sizeLine) : ItOk K fnm clm (Its (mkStr s)) S H G (s.map fun c => .str [c]) := by
  refine ⟨by rw [List.length_map]; exact z, fun S' H' G' st R' i d e => ?_, fun S' H' G' st R' => ?_⟩
  · rw [List.getElem?_map] at e
    cases q : s[i]? with
    | none => rw [q] at e; cases e
    | some c =>
      rw [q] at e; cases e
      have hi : i < s.length := (List.getElem?_eq_some_iff.mp q).1
      refine ⟨by show i < (mkStr s).cps.size; simpa [mkStr] using hi, fun x H'' y => ?_⟩
      obtain ⟨rfl, c', e1, rfl⟩ := y
      have : c = c' := by simp [mkStr] at e1; rw [q] at e1; exact Option.some.inj e1
      subst this
      refine ⟨.refl, R', .str [c] ?_ (by rw [lim_eq]; show 1 ≤ lim; decide)⟩
      rw [strOk_iff] at hs ⊢
      intro w hw
      rw [List.mem_singleton] at hw
      subst hw
      exact hs w (List.mem_of_getElem? q)
  · show (mkStr s).cps.size ≤ _
    simp [mkStr]
theorem rngF_len (c : Int) : ∀ (n : Nat) (lo : Int), (rngF c n lo).length = n
  | 0, _ => rfl
  | n + 1, lo => by show (rngF c n (lo + c)).length + 1 = _; rw [rngF_len c n]
theorem rngF_get (c : Int) : ∀ {n : Nat} {lo : Int} {i : Nat} {d : D}, (rngF c n lo)[i]? = some d → i < n ∧ d = .int (lo + i * c)
  | 0, _, _, _, e => by cases e
  | n + 1, lo, 0, d, e => by
    have e : some (D.int lo) = some d := e
    cases e
    exact ⟨Nat.succ_pos _, by simp⟩
  | n + 1, lo, i + 1, d, e => by
    obtain ⟨h1, h2⟩ := rngF_get c (n := n) (lo := lo + c) (i := i) (d := d) (by simpa [rngF] using e)
    refine ⟨by omega, ?_⟩
    rw [h2]
    have : lo + c + (i : Int) * c = lo + ((i + 1 : Nat) : Int) * c := by rw [Int.natCast_add, Int.add_mul]; omega
    rw [this]
theorem it_rng {lo : Int} {n : Nat} (z : n ≤ lim) : ItOk K fnm clm (Itr lo n) S H G (rngL (lo, n, 1)) := by
  refine ⟨by unfold rngL; rw [rngF_len, lim_eq]; exact z, fun S' H' G' st R' i d e => ?_, fun S' H' G' st R' => ?_⟩
  · obtain ⟨h1, rfl⟩ := rngF_get _ e
    refine ⟨h1, fun x H'' y => ?_⟩
    obtain ⟨rfl, rfl⟩ := y
    refine ⟨.refl, R', ?_⟩
    show Dat K fnm S' _ G' _ (.int (lo + i * 1))
    rw [Int.mul_one]; exact .int _
  · show n ≤ _
    unfold rngL; rw [rngF_len]; exact Nat.le_refl _
theorem it_rngC {lo : Int} {n : Nat} (z : n ≤ lim) : ItOk K fnm clm (Itc lo (-1) n) S H G (rngL (lo, n, -1)) := by
  refine ⟨by unfold rngL; rw [rngF_len, lim_eq]; exact z, fun S' H' G' st R' i d e => ?_, fun S' H' G' st R' => ?_⟩
  · obtain ⟨h1, rfl⟩ := rngF_get _ e
    refine ⟨h1, fun x H'' y => ?_⟩
    obtain ⟨rfl, rfl⟩ := y
    exact ⟨.refl, R', .int _⟩
  · show n ≤ _
    unfold rngL; rw [rngF_len]; exact Nat.le_refl _
theorem pair_new {v w : V} {d e : D} {T : Addr} (R : Hel K fnm clm S H G) (h : H T = none) (r1 : Dat K fnm S H G v d) (r2 : Dat K fnm S H G w e) :
    Step S H G S (upd H T (.tup [v, w])) G ∧ Hel K fnm clm S (upd H T (.tup [v, w])) G ∧ Dat K fnm S (upd H T (.tup [v, w])) G (.ref T) (.tpl [d, e]) :=
  ⟨.newU h, R.newU h, .tpl (SqT.of upd_same) (by rw [lim_eq]; show 2 ≤ lim; decide) (.cons (r1.step R (.newU h)) (.cons (r2.step R (.newU h)) .nil))⟩
theorem enuF_len : ∀ (ds : List D) (k : Nat), (enuF k ds).length = ds.length
  | [], _ => rfl
  | d :: ds, k => by show (enuF (k + 1) ds).length + 1 = _; rw [enuF_len ds]; rfl
theorem enuF_get : ∀ {ds : List D} {k i : Nat} {d : D}, (enuF k ds)[i]? = some d → ∃ x, ds[i]? = some x ∧ d = .tpl [.int ((k + i : Nat) : Int), x]
  | [], _, _, _, e => by cases e
  | x :: ds, k, 0, d, e => by
    have e : some (D.tpl [.int (k : Nat), x]) = some d := e
    cases e
    exact ⟨x, rfl, rfl⟩
  | x :: ds, k, i + 1, d, e => by
    obtain ⟨y, h1, h2⟩ := enuF_get (ds := ds) (k := k + 1) (i := i) (d := d) (by simpa [enuF] using e)
    refine ⟨y, by simpa using h1, ?_⟩
    rw [h2, Nat.add_assoc, Nat.add_comm 1 i]
theorem zip2_len : ∀ (xs ys : List D), (zip2L xs ys).length = min xs.length ys.length
  | [], _ => by simp [zip2L]
  | _ :: _, [] => by simp [zip2L]
  | x :: xs, y :: ys => by
    show (zip2L xs ys).length + 1 = _
    rw [zip2_len xs ys, List.length_cons, List.length_cons]; omega
theorem zip2_get : ∀ {xs ys : List D} {i : Nat} {d : D}, (zip2L xs ys)[i]? = some d → ∃ x y, xs[i]? = some x ∧ ys[i]? = some y ∧ d = .tpl [x, y]
  | [], _, _, _, e => by simp [zip2L] at e
  | _ :: _, [], _, _, e => by simp [zip2L] at e
  | x :: xs, y :: ys, 0, d, e => by
    have e : some (D.tpl [x, y]) = some d := e
    cases e
    exact ⟨x, y, rfl, rfl, rfl⟩
  | x :: xs, y :: ys, i + 1, d, e => by
    obtain ⟨a, b, h1, h2, h3⟩ := zip2_get (xs := xs) (ys := ys) (i := i) (d := d) (by simpa [zip2L] using e)
    exact ⟨a, b, by simpa using h1, by simpa using h2, h3⟩
theorem it_enu {a : Addr} {vs : List V} {ds : List D} (R : Hel K fnm clm S H G) (h : LAt K S H G a vs) (z : vs.length ≤ sizeLine) (r : DatAll K fnm S H G vs ds) : ItOk K fnm clm (Ite K a) S H G (enuL ds) := by
  refine ⟨by unfold enuL; rw [enuF_len, ← r.length]; exact z, fun S' H' G' st R' i d e => ?_, fun S' H' G' st R' => ?_⟩
  · have h' := (h.keep (Keep.of R st)).sq
    obtain ⟨x, e0, rfl⟩ := enuF_get e
    obtain ⟨v, e1, e2⟩ := (r.step R st).get e0
    refine ⟨⟨vs, v, h', e1⟩, fun y H'' q => ?_⟩
    obtain ⟨T, w, rfl, hT, rfl, q⟩ := q
    have := q vs h'
    rw [e1] at this; cases this
    rw [Nat.zero_add]
    exact pair_new R' hT (.int _) e2
  · have h' := (h.keep (Keep.of R st)).sq
    exact ⟨vs, h', by unfold enuL; rw [enuF_len, r.length]; exact Nat.le_refl _⟩
theorem it_enuT {a : Addr} {vs : List V} {ds : List D} (R : Hel K fnm clm S H G) (h : SqT K H a vs) (z : vs.length ≤ sizeLine) (r : DatAll K fnm S H G vs ds) : ItOk K fnm clm (En.ItE K a) S H G (enuL ds) := by
  refine ⟨by unfold enuL; rw [enuF_len, ← r.length]; exact z, fun S' H' G' st R' i d e => ?_, fun S' H' G' st R' => ?_⟩
  · have h' := (Keep.of R st).sqT h
    obtain ⟨x, e0, rfl⟩ := enuF_get e
    obtain ⟨v, e1, e2⟩ := (r.step R st).get e0
    refine ⟨⟨vs, v, h', e1⟩, fun y H'' q => ?_⟩
    obtain ⟨T, w, rfl, hT, rfl, q⟩ := q
    have := q vs h'
    rw [e1] at this; cases this
    rw [Nat.zero_add]
    exact pair_new R' hT (.int _) e2
  · exact ⟨vs, (Keep.of R st).sqT h, by unfold enuL; rw [enuF_len, r.length]; exact Nat.le_refl _⟩
theorem it_zip {a b : Addr} {vs ws : List V} {ds es : List D} (R : Hel K fnm clm S H G) (h : LAt K S H G a vs) (z : vs.length ≤ sizeLine) (r : DatAll K fnm S H G vs ds)
    (h2 : LAt K S H G b ws) (r2 : DatAll K fnm S H G ws es) : ItOk K fnm clm (Itz K a b) S H G (zip2L ds es) := by
  refine ⟨by rw [zip2_len, ← r.length]; exact Nat.le_trans (Nat.min_le_left _ _) z, fun S' H' G' st R' i d e => ?_, fun S' H' G' st R' => ?_⟩
  · have h' := (h.keep (Keep.of R st)).sq
    have h2' := (h2.keep (Keep.of R st)).sq
    obtain ⟨x, y, e0, e0', rfl⟩ := zip2_get e
    obtain ⟨v, e1, e2⟩ := (r.step R st).get e0
    obtain ⟨w, e3, e4⟩ := (r2.step R st).get e0'
    refine ⟨⟨vs, ws, v, w, h', h2', e1, e3⟩, fun y H'' q => ?_⟩
    obtain ⟨T, v', w', rfl, hT, rfl, q, q'⟩ := q
    have := q vs h'
    rw [e1] at this; cases this
    have := q' ws h2'
    rw [e3] at this; cases this
    exact pair_new R' hT e2 e4
  · have h' := (h.keep (Keep.of R st)).sq
    have h2' := (h2.keep (Keep.of R st)).sq
    refine ⟨vs, ws, h', h2', ?_⟩
    rw [zip2_len, r.length, r2.length]; omega
theorem it_zipT {a b : Addr} {vs ws : List V} {ds es : List D} (R : Hel K fnm clm S H G) (h : SqT K H a vs) (z : vs.length ≤ sizeLine) (r : DatAll K fnm S H G vs ds) (h2 : SqT K H b ws) (r2 : DatAll K fnm S H G ws es) :
    ItOk K fnm clm (RZ.ItzT K a b) S H G (zip2L ds es) := by
  refine ⟨by rw [zip2_len, ← r.length]; exact Nat.le_trans (Nat.min_le_left _ _) z, fun S' H' G' st R' i d e => ?_, fun S' H' G' st R' => ?_⟩
  · have h' := (Keep.of R st).sqT h
    have h2' := (Keep.of R st).sqT h2
    obtain ⟨x, y, e0, e0', rfl⟩ := zip2_get e
    obtain ⟨v, e1, e2⟩ := (r.step R st).get e0
    obtain ⟨w, e3, e4⟩ := (r2.step R st).get e0'
    refine ⟨⟨vs, ws, v, w, h', h2', e1, e3⟩, fun y H'' q => ?_⟩
    obtain ⟨T, v', w', rfl, hT, rfl, q, q'⟩ := q
    have := q vs h'
    rw [e1] at this; cases this
    have := q' ws h2'
    rw [e3] at this; cases this
    exact pair_new R' hT e2 e4
  · refine ⟨vs, ws, (Keep.of R st).sqT h, (Keep.of R st).sqT h2, ?_⟩
    rw [zip2_len, r.length, r2.length]; omega
theorem rev_get {ds : List D} {i : Nat} {d : D} (e : ds.reverse[i]? = some d) : i < ds.length ∧ ds[ds.length - 1 - i]? = some d := by
  have hi : i < ds.length := by
    have := (List.getElem?_eq_some_iff.mp e).1
    simpa using this
  rw [List.getElem?_reverse hi] at e
  exact ⟨hi, e⟩
theorem it_rev {a : Addr} {vs : List V} {ds : List D} (R : Hel K fnm clm S H G) (h : LAt K S H G a vs) (z : vs.length ≤ sizeLine) (r : DatAll K fnm S H G vs ds) : ItOk K fnm clm (Itv K a vs.length) S H G ds.reverse := by
  refine ⟨by rw [List.length_reverse, ← r.length]; exact z, fun S' H' G' st R' i d e => ?_, fun S' H' G' st R' => ?_⟩
  · have h' := (h.keep (Keep.of R st)).sq
    obtain ⟨hi, e0⟩ := rev_get e
    obtain ⟨v, e1, e2⟩ := (r.step R st).get e0
    rw [← r.length] at e1 hi
    refine ⟨⟨hi, vs, v, h', e1⟩, fun x H'' y => ?_⟩
    obtain ⟨rfl, y⟩ := y
    have := y vs h'
    rw [e1] at this; cases this
    exact ⟨.refl, R', e2⟩
  · show vs.length ≤ _
    rw [List.length_reverse, r.length]; exact Nat.le_refl _
theorem it_revT {a : Addr} {vs : List V} {ds : List D} (R : Hel K fnm clm S H G) (h : SqT K H a vs) (z : vs.length ≤ sizeLine) (r : DatAll K fnm S H G vs ds) : ItOk K fnm clm (RT.ItvT K a vs.length) S H G ds.reverse := by
  refine ⟨by rw [List.length_reverse, ← r.length]; exact z, fun S' H' G' st R' i d e => ?_, fun S' H' G' st R' => ?_⟩
  · have h' := (Keep.of R st).sqT h
    obtain ⟨hi, e0⟩ := rev_get e
    obtain ⟨v, e1, e2⟩ := (r.step R st).get e0
    rw [← r.length] at e1 hi
    refine ⟨⟨hi, vs, v, h', e1⟩, fun x H'' y => ?_⟩
    obtain ⟨rfl, y⟩ := y
    have := y vs h'
    rw [e1] at this; cases this
    exact ⟨.refl, R', e2⟩
  · show vs.length ≤ _
    rw [List.length_reverse, r.length]; exact Nat.le_refl _
end
end DL

namespace DL
open PySem PySem.Spec PyProof.Rows L2
section
variable {C : Cfg} {fnm clm : Nat → Option Addr} {Γ : Gam} {N : List Str} {sc : Scope} {X : Cx} {W : WX}
/-- over a list, a tuple, a text -/
def iAny (K : PySem.W.Frag) (tl : TE) : TI := fun σ H R => tl σ H fun x H1 => (∃ a, x = .ref a ∧ (∃ xs, SqL K H1 a xs) ∧ R (Itl K a) H1) ∨ (∃ a, x = .ref a ∧ (∃ xs, SqT K H1 a xs) ∧ R (Itt K a) H1) ∨ ∃ z, x = .str z ∧ R (Its z) H1
theorem pi_any {tg l : Expr} {tl : TE} (hl : PE X l tl) : PI X tg l (iAny X.K tl) := by
  refine ⟨fun pins s σ H R I h => ?_⟩
  refine thn (hl.run pins s σ H _ I h) fun v s1 ⟨x, H1, I1, r1, q1⟩ => ?_
  rcases q1 with ⟨a, e, ⟨xs, hq⟩, q⟩ | ⟨a, e, ⟨xs, hq⟩, q⟩ | ⟨z, e, q⟩
  · subst e
    cases r1
    obtain ⟨its, rv, p, hz⟩ := I1.list hq
    refine wpAny_pyIter_list p.isList ?_
    refine ⟨s1.heap.objs.size, [s1.heap.objs.size], _, _, H1, rfl, I1.kept (t' := s1.toks) fun b o e => Heap.get?_push_of_some _ e, turn_list a _, ⟨_, Heap.get?_push_size _ rfl, rfl, rfl⟩, fun b hb => ?_, q⟩
    have e : b = s1.heap.objs.size := by simpa using hb
    subst e
    exact I1.fpOk (Nat.le_refl _) (I1.hok.fresh (Nat.le_refl _))
  · subst e
    cases r1
    obtain ⟨its, rv, p, hz⟩ := I1.tuple hq
    refine wpAny_pyIter_tuple (show s1.heap.IsTuple a its.toArray from p) ?_
    refine ⟨s1.heap.objs.size, [s1.heap.objs.size], _, _, H1, rfl, I1.kept (t' := s1.toks) fun b o e => Heap.get?_push_of_some _ e, turn_tuple a _, ⟨_, Heap.get?_push_size _ rfl, rfl, rfl⟩, fun b hb => ?_, q⟩
    have e : b = s1.heap.objs.size := by simpa using hb
    subst e
    exact I1.fpOk (Nat.le_refl _) (I1.hok.fresh (Nat.le_refl _))
  · subst e
    obtain ⟨t, rfl⟩ := r1
    cases ha : z.cps.all (· < 128)
    · exact wpAny_pyIter_wide ha (pi_one (tk := s1.toks) I1 _ (turn_str _ z t "str_iterator" (.inr rfl)) ⟨_, Heap.get?_push_size _ rfl, rfl, rfl⟩ q)
    · exact wpAny_pyIter_ascii ha (pi_one (tk := s1.toks) I1 _ (turn_str _ z t "str_ascii_iterator" (.inl rfl)) ⟨_, Heap.get?_push_size _ rfl, rfl, rfl⟩ q)
theorem ji_of {tg e : Expr} {ee : E} (he : JE fnm clm X W e (wE Γ ee)) : JI fnm clm X W tg e (wI Γ (.of ee)) := by
  obtain ⟨s, ta, pa, ra⟩ := he
  refine ⟨_, pi_any pa, fun S σ σD H G Rr QD XD R sl h hR hX => ?_⟩
  refine ra S σ σD H G _ _ XD R sl h (fun v S1 H1 d G1 st1 R1 r1 h1 => ?_) hX
  cases d <;> try exact h1.elim
  · obtain ⟨rfl, k, z⟩ := dat_str r1
    exact .inr (.inr ⟨_, rfl, hR _ S1 H1 G1 _ st1 R1 (it_str k z) h1⟩)
  · obtain ⟨a, vs, rfl, h2, z, r⟩ := dat_tup r1
    exact .inr (.inl ⟨a, rfl, ⟨vs, h2⟩, hR _ S1 H1 G1 _ st1 R1 (it_tup R1 h2 z r) h1⟩)
  · obtain ⟨a, vs, rfl, h2, z, r⟩ := dat_tpl r1
    exact .inr (.inl ⟨a, rfl, ⟨vs, h2⟩, hR _ S1 H1 G1 _ st1 R1 (it_tup R1 h2 z r) h1⟩)
  · obtain ⟨a, vs, rfl, h2, z, r⟩ := dat_lst r1
    exact .inl ⟨a, rfl, ⟨vs, h2.sq⟩, hR _ S1 H1 G1 _ st1 R1 (it_list R1 h2 z r) h1⟩
  · obtain ⟨a, vs, rfl, h2, z, r⟩ := dat_scr r1
    exact .inl ⟨a, rfl, ⟨vs, h2.sq⟩, hR _ S1 H1 G1 _ st1 R1 (it_list R1 h2 z r) h1⟩
theorem star_cons {es : List Expr} (h : ∀ e ∈ es, isStar e = false) (env : Env) : starEach es env = es.map fun e => (false, eval e env) := by
  induction es with
  | nil => rfl
  | cons e es ih => rw [star_no (h e List.mem_cons_self), ih fun x hx => h x (List.mem_cons_of_mem _ hx)]; rfl
theorem ji_rng (k : COk C fnm clm Γ N sc X W) {tg : Expr} {es : List Expr} {p pos : Pos} {ees : Es} (hl : 1 ≤ es.length ∧ es.length ≤ 3) (hg : Gl X "range") (h : JA fnm clm X W es (wEs Γ ees)) :
    JI fnm clm X W tg (.Call (.Name "range" p) es [] pos) (wI Γ (.rng ees)) := by
  obtain ⟨ss, ta, pa, ra⟩ := h
  have hm := blt_of k (x := "range") (by decide +kernel)
  have sc := star_cons ss X.env
  match es, hl, ss, pa, ra, sc with
  | [a], _, ss, pa, ra, sc =>
    refine ⟨_, pi_range1 hg hm pa sc, fun S σ σD H G Rr QD XD R sl h hR hX => ?_⟩
    refine ra S σ σD H G _ _ XD R sl h (fun vs S1 H1 ds G1 hn st1 R1 r1 h1 => ?_) hX
    obtain ⟨r, e, z, h2⟩ := ok_of h1
    cases r1 with
    | nil => cases hn
    | cons r1 rr =>
      cases rr with
      | cons _ _ => cases hn
      | nil =>
        rename_i v d
        cases d <;> try exact nomatch (show (none : Option (Int × Nat × Int)) = some r from e)
        rename_i j
        cases dat_int r1
        have e : (if -4611686018427387904 ≤ j ∧ j < 4611686018427387904 then some ((0 : Int), j.toNat, (1 : Int)) else none) = some r := e
        split at e
        · rename_i b
          cases e
          exact ⟨j, rfl, b.1, b.2, hR _ S1 H1 G1 _ st1 R1 (it_rng z) h2⟩
        · cases e
  | [a, b], _, ss, pa, ra, sc =>
    refine ⟨_, pi_range2 hg hm pa sc (star_cons (fun e he => ss e (List.mem_cons_of_mem _ he)) X.env), fun S σ σD H G Rr QD XD R sl h hR hX => ?_⟩
    refine ra S σ σD H G _ _ XD R sl h (fun vs S1 H1 ds G1 hn st1 R1 r1 h1 => ?_) hX
    obtain ⟨r, e, z, h2⟩ := ok_of h1
    match vs, ds, r1, hn, e with
    | [v, w], [.int i, .int j], r1, hn, e =>
      obtain ⟨v', w', e3, q1, q2⟩ := two_of r1
      cases e3
      cases dat_int q1; cases dat_int q2
      have e : (if (-4611686018427387904 ≤ i ∧ i < 4611686018427387904) ∧ (-4611686018427387904 ≤ j ∧ j < 4611686018427387904) then some (i, (j - i).toNat, (1 : Int)) else none) = some r := e
      split at e
      · rename_i b
        cases e
        exact ⟨i, j, rfl, ⟨b.1.1, b.1.2, b.2.1, b.2.2⟩, hR _ S1 H1 G1 _ st1 R1 (it_rng z) h2⟩
      · cases e
  | [a, b, c], _, ss, pa, ra, sc =>
    refine ⟨_, pi_range3 hg hm pa (star_no (ss a (by simp)) _ _) (star_all (fun e he => ss e (List.mem_cons_of_mem _ he)) _ _), fun S σ σD H G Rr QD XD R sl h hR hX => ?_⟩
    refine ra S σ σD H G _ _ XD R sl h (fun vs S1 H1 ds G1 hn st1 R1 r1 h1 => ?_) hX
    obtain ⟨r, e, z, h2⟩ := ok_of h1
    match vs, ds, r1, hn, e with
    | [v, w, u], [.int i, .int j, .int c], r1, hn, e =>
      cases r1 with
      | cons q1 rr =>
        obtain ⟨v', w', e3, q2, q3⟩ := two_of rr
        cases e3
        cases dat_int q1; cases dat_int q2; cases dat_int q3
        have e : (if ((-4611686018427387904 ≤ i ∧ i < 4611686018427387904) ∧ (-4611686018427387904 ≤ j ∧ j < 4611686018427387904)) ∧ c = -1 then some (i, (i - j).toNat, (-1 : Int)) else none) = some r := e
        split at e
        · rename_i b
          cases e
          obtain ⟨⟨⟨b1, b2⟩, b3, b4⟩, rfl⟩ := b
          exact ⟨i, j, -1, _, rfl, .neg b1 b2 b3 b4, hR _ S1 H1 G1 _ st1 R1 (it_rngC z) h2⟩
        · cases e
theorem ji_enu (k : COk C fnm clm Γ N sc X W) {elts : List Expr} {kk : Nat} {tpos p pos : Pos} {e : Expr} {ee : E} (hg : Gl X "enumerate") (he : JE fnm clm X W e (wE Γ ee)) :
    JI fnm clm X W (.Tuple elts kk tpos) (.Call (.Name "enumerate" p) [e] [] pos) (wI Γ (.enu ee)) := by
  obtain ⟨ss, ta, pa, ra⟩ := ja_cons he (ja_nil (Γ := Γ))
  refine ⟨_, En.pi_any hg (blt_of k (by decide +kernel)) pa (star_cons ss X.env), fun S σ σD H G Rr QD XD R sl h hR hX => ?_⟩
  have h : wE Γ ee σD G (fun d H1 => ok (fixD d) fun ds => QD (enuL ds) H1) XD := h
  refine ra S σ σD H G _ (fun ds H1 => match ds with | [d] => ok (fixD d) fun ds => QD (enuL ds) H1 | _ => False) XD R sl h (fun vs S1 H1 ds G1 hn st1 R1 r1 h1 => ?_) hX
  match ds, r1, h1 with
  | [d], r1, h1 =>
    obtain ⟨v, rfl, q⟩ := one_of r1
    obtain ⟨zs, e3, h2⟩ := ok_of (show ok (fixD d) fun ds => QD (enuL ds) G1 from h1)
    cases d <;> try exact nomatch (show (none : Option (List D)) = some zs from e3)
    · cases e3
      obtain ⟨a, vs, rfl, k1, z1, d1⟩ := dat_tup q
      exact ⟨a, vs, rfl, .inr ⟨k1, hR _ S1 H1 G1 _ st1 R1 (it_enuT R1 k1 z1 d1) h2⟩⟩
    · cases e3
      obtain ⟨a, vs, rfl, k1, z1, d1⟩ := dat_lst q
      exact ⟨a, vs, rfl, .inl ⟨k1.sq, hR _ S1 H1 G1 _ st1 R1 (it_enu R1 k1 z1 d1) h2⟩⟩
    · cases e3
      obtain ⟨a, vs, rfl, k1, z1, d1⟩ := dat_scr q
      exact ⟨a, vs, rfl, .inl ⟨k1.sq, hR _ S1 H1 G1 _ st1 R1 (it_enu R1 k1 z1 d1) h2⟩⟩
theorem ji_zip (k : COk C fnm clm Γ N sc X W) {elts : List Expr} {kk : Nat} {tpos p pos : Pos} {e e2 : Expr} {ees : Es} (hg : Gl X "zip") (h : JA fnm clm X W [e, e2] (wEs Γ ees)) :
    JI fnm clm X W (.Tuple elts kk tpos) (.Call (.Name "zip" p) [e, e2] [] pos) (wI Γ (.zip ees)) := by
  obtain ⟨ss, ta, pa, ra⟩ := h
  refine ⟨_, RZ.pi_zipA hg (blt_of k (by decide +kernel)) pa (star_no (ss e List.mem_cons_self) _ _) (star_all (fun y hy => ss y (List.mem_cons_of_mem _ hy)) _ _), fun S σ σD H G Rr QD XD R sl h hR hX => ?_⟩
  refine ra S σ σD H G _ _ XD R sl h (fun vs S1 H1 ds G1 hn st1 R1 r1 h1 => ?_) hX
  obtain ⟨zs, e3, h2⟩ := ok_of h1
  match ds, r1, e3 with
  | [.lst xs, .lst ys], r1, e3 =>
    cases e3
    obtain ⟨v, w, rfl, q1, q2⟩ := two_of r1
    obtain ⟨a, vs, rfl, k1, z1, d1⟩ := dat_lst q1
    obtain ⟨b, ws, rfl, k2, z2, d2⟩ := dat_lst q2
    exact ⟨a, b, vs, ws, rfl, .inl ⟨k1.sq, k2.sq, hR _ S1 H1 G1 _ st1 R1 (it_zip R1 k1 z1 d1 k2 d2) h2⟩⟩
  | [.lst xs, .scr ys], r1, e3 =>
    cases e3
    obtain ⟨v, w, rfl, q1, q2⟩ := two_of r1
    obtain ⟨a, vs, rfl, k1, z1, d1⟩ := dat_lst q1
    obtain ⟨b, ws, rfl, k2, z2, d2⟩ := dat_scr q2
    exact ⟨a, b, vs, ws, rfl, .inl ⟨k1.sq, k2.sq, hR _ S1 H1 G1 _ st1 R1 (it_zip R1 k1 z1 d1 k2 d2) h2⟩⟩
  | [.scr xs, .lst ys], r1, e3 =>
    cases e3
    obtain ⟨v, w, rfl, q1, q2⟩ := two_of r1
    obtain ⟨a, vs, rfl, k1, z1, d1⟩ := dat_scr q1
    obtain ⟨b, ws, rfl, k2, z2, d2⟩ := dat_lst q2
    exact ⟨a, b, vs, ws, rfl, .inl ⟨k1.sq, k2.sq, hR _ S1 H1 G1 _ st1 R1 (it_zip R1 k1 z1 d1 k2 d2) h2⟩⟩
  | [.scr xs, .scr ys], r1, e3 =>
    cases e3
    obtain ⟨v, w, rfl, q1, q2⟩ := two_of r1
    obtain ⟨a, vs, rfl, k1, z1, d1⟩ := dat_scr q1
    obtain ⟨b, ws, rfl, k2, z2, d2⟩ := dat_scr q2
    exact ⟨a, b, vs, ws, rfl, .inl ⟨k1.sq, k2.sq, hR _ S1 H1 G1 _ st1 R1 (it_zip R1 k1 z1 d1 k2 d2) h2⟩⟩
  | [.tup xs, .tup ys], r1, e3 =>
    cases e3
    obtain ⟨v, w, rfl, q1, q2⟩ := two_of r1
    obtain ⟨a, vs, rfl, k1, z1, d1⟩ := dat_tup q1
    obtain ⟨b, ws, rfl, k2, z2, d2⟩ := dat_tup q2
    exact ⟨a, b, vs, ws, rfl, .inr ⟨k1, k2, hR _ S1 H1 G1 _ st1 R1 (it_zipT R1 k1 z1 d1 k2 d2) h2⟩⟩
theorem ji_rev (k : COk C fnm clm Γ N sc X W) {tg e : Expr} {p pos : Pos} {ee : E} (hg : Gl X "reversed") (he : JE fnm clm X W e (wE Γ ee)) :
    JI fnm clm X W tg (.Call (.Name "reversed" p) [e] [] pos) (wI Γ (.rev ee)) := by
  obtain ⟨s, ta, pa, ra⟩ := he
  refine ⟨_, RT.pi_revA hg (blt_of k (by decide +kernel)) pa (star_no s _ _), fun S σ σD H G Rr QD XD R sl h hR hX => ?_⟩
  refine ra S σ σD H G _ _ XD R sl h (fun v S1 H1 d G1 st1 R1 r1 h1 => ?_) hX
  obtain ⟨zs, e3, h2⟩ := ok_of h1
  cases d <;> try exact nomatch (show (none : Option (List D)) = some zs from e3)
  · cases e3
    obtain ⟨a, vs, rfl, k1, z1, d1⟩ := dat_tup r1
    exact ⟨a, vs, rfl, .inr ⟨k1, hR _ S1 H1 G1 _ st1 R1 (it_revT R1 k1 z1 d1) h2⟩⟩
  · cases e3
    obtain ⟨a, vs, rfl, k1, z1, d1⟩ := dat_lst r1
    exact ⟨a, vs, rfl, .inl ⟨k1.sq, hR _ S1 H1 G1 _ st1 R1 (it_rev R1 k1 z1 d1) h2⟩⟩
  · cases e3
    obtain ⟨a, vs, rfl, k1, z1, d1⟩ := dat_scr r1
    exact ⟨a, vs, rfl, .inl ⟨k1.sq, hR _ S1 H1 G1 _ st1 R1 (it_rev R1 k1 z1 d1) h2⟩⟩
/-! ### tuple(range(..)), list(range(..)) -/
theorem rgF_eq : ∀ (n : Nat) (lo : Int), rngF 1 n lo = (List.range n).map fun (i : Nat) => D.int (lo + i)
  | 0, _ => rfl
  | n + 1, lo => by
    rw [List.range_succ_eq_map, List.map_cons, List.map_map]
    show D.int lo :: rngF 1 n (lo + 1) = _
    rw [rgF_eq n (lo + 1)]
    congr 1
    · congr 1; omega
    · apply List.map_congr_left
      intro i _
      show D.int (lo + 1 + i) = D.int (lo + ((i + 1 : Nat) : Int))
      congr 1; omega
theorem rgV_dat {K : PySem.W.Frag} {fnm : Nat → Option Addr} {S : Addr → Option Bool} {H : Hp} {G : HD} (i j : Int) : DatAll K fnm S H G (rgV i j) (rngL (i, (j - i).toNat, 1)) := by
  unfold rgV rngL
  rw [rgF_eq]
  have : ∀ l : List Nat, DatAll K fnm S H G (l.map fun (k : Nat) => V.int (i + k)) (l.map fun (k : Nat) => D.int (i + k)) := by
    intro l
    induction l with
    | nil => exact .nil
    | cons a l ih => exact .cons (.int _) ih
  exact this _
/-- the object that such a call makes -/
def rgO (i j : Int) (H : Hp) (Q : VK) : Bool → Prop
  | true => NewP H (rgV i j) Q
  | false => ∀ q, H q = none → Q (.ref q) (upd H q (.lst (rgV i j)))
theorem rg_fin {z t : Bool} {i j : Int} {S : Addr → Option Bool} {H : Hp} {G : HD} {Q : VK} {QD : KD} (R : Hel X.K fnm clm S H G) (h : rgD z t i j G QD) (hQ : PostE X.K fnm clm S H G QD Q) :
    RgOk i j ∧ rgO i j H Q t := by
  obtain ⟨⟨⟨a1, a2⟩, a3, a4⟩, a5, h⟩ := h
  have e : (2 : Int) ^ 62 = 4611686018427387904 := by decide
  have hlim : lim = 16777216 := rfl
  refine ⟨⟨by rw [e]; exact a1, by rw [e]; exact a2, by rw [e]; exact a3, by rw [e]; exact a4, by show (j - i).toNat ≤ 16777216; omega⟩, ?_⟩
  have hz : (rgV i j).length ≤ sizeLine := by rw [rgV_length, lim_eq]; exact a5
  cases t with
  | true => exact new_tup R hz (rgV_dat i j) h hQ
  | false => exact new_list R hz (rgV_dat i j) h hQ
theorem je_rg1 (k : COk C fnm clm Γ N sc X W) {z t : Bool} {f : Str} {a : Expr} {p p2 pos pos2 : Pos} {ea : E} (hf : (match t with | true => "tuple" | false => "list") = f) (hg : Gl X f) (hr : Gl X "range") (ha : JE fnm clm X W a (wE Γ ea)) :
    JE fnm clm X W (.Call (.Name f p) [.Call (.Name "range" p2) [a] [] pos2] [] pos) (wE Γ (.rg1 z t ea)) := by
  obtain ⟨s, ta, pa, ra⟩ := ha
  have pr : PRg X (.Call (.Name "range" p2) [a] [] pos2) (tRg1 ta) := prg_1 hr (blt_of k (by decide +kernel)) pa (star_no s [] _)
  have main : ∀ S (σ : St') σD H G Q QD XD, Hel X.K fnm clm S H G → SlotOk X.K fnm S H G σ σD → wE Γ (.rg1 z t ea) σD G QD XD → PostE X.K fnm clm S H G QD Q → PostX X.K fnm clm W σ S H G XD →
      tRg1 ta σ H fun i j H1 => RgOk i j ∧ rgO i j H1 Q t := fun S σ σD H G Q QD XD R sl h hQ hX => by
    refine ra S σ σD H G _ _ XD R sl h (fun v S1 H1 d G1 st1 R1 r1 h1 => ?_) hX
    cases d <;> try exact h1.elim
    cases dat_int r1
    exact ⟨_, rfl, rg_fin R1 h1 (hQ.step st1)⟩
  cases t with
  | true => subst hf; exact ⟨rfl, _, pe_tupRgP k.calm hg (blt_of k (by decide +kernel)) pr rfl, main⟩
  | false => subst hf; exact ⟨rfl, _, pe_listRg k.calm hg (blt_of k (by decide +kernel)) pr, main⟩
theorem je_rg2 (k : COk C fnm clm Γ N sc X W) {z t : Bool} {f : Str} {a b : Expr} {p p2 pos pos2 : Pos} {ea eb : E} (hf : (match t with | true => "tuple" | false => "list") = f) (hg : Gl X f) (hr : Gl X "range") (ha : JE fnm clm X W a (wE Γ ea)) (hb : JE fnm clm X W b (wE Γ eb)) :
    JE fnm clm X W (.Call (.Name f p) [.Call (.Name "range" p2) [a, b] [] pos2] [] pos) (wE Γ (.rg2 z t ea eb)) := by
  obtain ⟨s, ta, pa, ra⟩ := ha
  obtain ⟨s2, tb, pb, rb⟩ := hb
  have pr : PRg X (.Call (.Name "range" p2) [a, b] [] pos2) (tRg2 ta tb) := prg_2 hr (blt_of k (by decide +kernel)) pa pb (star_no s [b] _) (star_no s2 [] _) (star_all (es := [b]) (fun e he => by rw [List.mem_singleton] at he; rw [he]; exact s2) _ _)
  have main : ∀ S (σ : St') σD H G Q QD XD, Hel X.K fnm clm S H G → SlotOk X.K fnm S H G σ σD → wE Γ (.rg2 z t ea eb) σD G QD XD → PostE X.K fnm clm S H G QD Q → PostX X.K fnm clm W σ S H G XD →
      tRg2 ta tb σ H fun i j H1 => RgOk i j ∧ rgO i j H1 Q t := fun S σ σD H G Q QD XD R sl h hQ hX => by
    refine ref2 ra rb R sl h (fun v v' S' H' d d' G' st R' r1 r2 h' => ?_) hX
    cases d <;> cases d' <;> try exact h'.elim
    cases dat_int r1; cases dat_int r2
    exact ⟨_, _, rfl, rfl, rg_fin R' h' (hQ.step st)⟩
  cases t with
  | true => subst hf; exact ⟨rfl, _, pe_tupRgP k.calm hg (blt_of k (by decide +kernel)) pr rfl, main⟩
  | false => subst hf; exact ⟨rfl, _, pe_listRg k.calm hg (blt_of k (by decide +kernel)) pr, main⟩
/-! ### comprehensions -/
def canE (K : PySem.W.Frag) (fnm clm : Nat → Option Addr) (W : WX) (t : StD → HD → KD → KX → Prop) : TE := fun σ H Q => ∃ S σD G QD XD, Hel K fnm clm S H G ∧ SlotOk K fnm S H G σ σD ∧ t σD G QD XD ∧ PostE K fnm clm S H G QD Q ∧ PostX K fnm clm W σ S H G XD
def canT (K : PySem.W.Frag) (fnm clm : Nat → Option Addr) (W : WX) (t : StD → HD → (Bool → HD → Prop) → KX → Prop) : TT := fun σ H Q => ∃ S σD G QD XD, Hel K fnm clm S H G ∧ SlotOk K fnm S H G σ σD ∧ t σD G QD XD ∧ PostT K fnm clm S H G QD Q ∧ PostX K fnm clm W σ S H G XD
def canG (K : PySem.W.Frag) (fnm clm : Nat → Option Addr) (t : Tgt) : TG := fun v σ H Q => ∃ S σD G d σD', Hel K fnm clm S H G ∧ SlotOk K fnm S H G σ σD ∧ Dat K fnm S H G v d ∧ asg t d σD = some σD' ∧ ∀ σ', SlotOk K fnm S H G σ' σD' → (∀ vs, tIn t vs = true → wipe σ' vs = wipe σ vs) → Q σ' H
theorem JE.can {e : Expr} {t : StD → HD → KD → KX → Prop} (h : JE fnm clm X W e t) : PE X e (canE X.K fnm clm W t) := by
  obtain ⟨_, te, pe, re⟩ := h
  exact ⟨fun pins s σ H Q I ⟨S, σD, G, QD, XD, R, sl, h, hQ, hX⟩ => pe.run pins s σ H Q I (re S σ σD H G Q QD XD R sl h hQ hX)⟩
theorem JT.can {e : Expr} {t : StD → HD → (Bool → HD → Prop) → KX → Prop} (h : JT fnm clm X W e t) : PT X e (canT X.K fnm clm W t) := by
  obtain ⟨te, pe, re⟩ := h
  exact ⟨fun pins s σ H Q I ⟨S, σD, G, QD, XD, R, sl, h, hQ, hX⟩ => pe.run pins s σ H Q I (re S σ σD H G Q QD XD R sl h hQ hX)⟩
theorem JG.can {e : Expr} {t : Tgt} (h : JG fnm clm X e t) : PG X e (canG X.K fnm clm t) := by
  obtain ⟨g, pg, rg⟩ := h
  exact ⟨fun pins s σ H v u Q I r ⟨S, σD, G, d, σD', R, sl, rd, e, h⟩ => pg.run pins s σ H v u Q I r (rg S σ σD H G v d Q σD' R sl rd e h)⟩
abbrev W0 : WX := fun _ _ _ _ => False
theorem COk.blk (k : COk C fnm clm Γ N sc X W) (s : Shared) (H : Hp) (scope : Scope) (cl : List (Str × Addr)) (D : Addr) (fp : List Addr) : COk C fnm clm Γ N (relS scope sc) (X.blk s H scope (compEnvC scope cl D X.env) fp) W0 := by
  refine ⟨k.hN, k.nd, ?_, k.calm, takes0, PassesOwn.never, k.fnk, k.blt, k.gls, k.cls, k.grd, k.exm, k.ocs, k.isx⟩
  show relS scope X.env.scope = _
  rw [k.hsc]
theorem wipe_slots {K : PySem.W.Frag} {S : Addr → Option Bool} {H : Hp} {G : HD} {σ : St'} {σD : StD} (h : SlotOk K fnm S H G σ σD) : ∀ vs : List Nat, SlotOk K fnm S H G (wipe σ vs) (wipeD σD vs)
  | [] => h
  | v :: vs => (wipe_slots h vs).wipe1 v
end
end DL

namespace DL
open PySem PySem.Spec PyProof.Rows L2
section
variable {C : Cfg} {fnm clm : Nat → Option Addr} {Γ : Gam} {N : List Str} {sc : Scope} {X : Cx} {W : WX}
theorem wipe_idem {i : Nat} : ∀ {vs : List Nat} {σ : St'}, wipe (wipe σ vs) vs = wipe σ vs := by
  have out : ∀ {vs : List Nat} {σ : St'} (w : Nat), (wipe (σ.set w none) vs).set w none = (wipe σ vs).set w none := by
    intro vs
    induction vs with
    | nil => intro σ w; show (σ.set w none).set w none = _; rw [List.set_set]; rfl
    | cons v vs ih =>
      intro σ w
      show ((wipe (σ.set w none) vs).set v none).set w none = ((wipe σ vs).set v none).set w none
      by_cases e : v = w
      · subst e; rw [ih]
      · rw [List.set_comm _ _ e, ih w, List.set_comm _ _ (fun z => e z.symm)]
  intro vs
  induction vs with
  | nil => intro σ; rfl
  | cons v vs ih =>
    intro σ
    show (wipe ((wipe σ vs).set v none) vs).set v none = (wipe σ vs).set v none
    rw [out, ih]
abbrev lcStep (Γ : Gam) (g : Tgt) (c : T) (e : E) (σw : StD) : D → HD → (Option D → HD → Prop) → Prop := fun x H2 K => ok (asg g x σw) fun σ' =>
  wT Γ c σ' H2 (fun k H3 => match k with | true => wE Γ e σ' H3 (fun d H4 => K (some d) H4) (fun _ _ => False) | false => K none H3) (fun _ _ => False)
/-- the invariant of a comprehension -/
structure LcInv (K : PySem.W.Frag) (fnm clm : Nat → Option Addr) (S1 : Addr → Option Bool) (H1 : Hp) (G1 : HD) (D : Addr) (items : List DL.D) (P : List DL.D → List DL.D → HD → Prop) (i : Nat) (H : Hp) (S' : Addr → Option Bool) (G' : HD) (acc : List V) (accD : List DL.D) : Prop where
  at_ : H D = some (.lst acc)
  len : acc.length ≤ i
  res : S' D = some false
  st : Step S1 H1 G1 S' H G'
  R : Hel K fnm clm S' H G'
  dat : DatAll K fnm S' H G' acc accD
  go : P (items.drop i) accD G'
theorem lc_ref {z : Bool} {wi : TI} {it : I} {g : Tgt} {c : T} {e : E} {vs : List Nat} (ri : RefI X.K fnm clm W wi (wI Γ it)) (hin : tIn g vs = true) :
    RefE X.K fnm clm W (tLc wi (canG X.K fnm clm g) (canT X.K fnm clm W0 (wT Γ c)) (canE X.K fnm clm W0 (wE Γ e)) vs)
      (fun σ H Q X => wI Γ it σ H (fun items H1 => lcD (lcStep Γ g c e (wipeD σ vs)) (fun acc H2 => newL z acc H2 Q) items [] H1) X) := by
  intro S σ σD H G Q QD XD R sl h hQ hX
  refine ri S σ σD H G _ _ XD R sl h (fun J S1 H1 G1 items st1 R1 itk h1 => ?_) hX
  intro D hD
  have hD0 : H D = none := st1.there D hD
  have fr := R1.free hD
  let P : List DL.D → List DL.D → HD → Prop := fun xs acc H => lcD (lcStep Γ g c e (wipeD σD vs)) (fun acc H2 => newL z acc H2 QD) xs acc H
  refine ⟨fun i m H => m = items.length - i ∧ i ≤ items.length ∧ ∃ S' G' acc accD, LcInv X.K fnm clm S1 H1 G1 D items P i H S' G' acc accD,
    ⟨items.length, by omega, Nat.zero_le _, _, G1, [], [], upd_same, Nat.zero_le _, ?_, .reserve R1 hD, R1.reserve hD, .nil, h1⟩, ?_⟩
  · unfold resS; rw [if_pos rfl]
  · rintro i m H' ⟨rfl, hi, S', G', acc, accD, I⟩
    by_cases hlt : i < items.length
    · obtain ⟨x, hx⟩ : ∃ x, items[i]? = some x := ⟨items[i], List.getElem?_eq_getElem hlt⟩
      have hdrop : items.drop i = x :: items.drop (i + 1) := by
        rw [List.drop_eq_getElem_cons hlt]
        have : items[i] = x := by rw [List.getElem?_eq_getElem hlt] at hx; exact Option.some.inj hx
        rw [this]
      have hgo : ok (asg g x (wipeD σD vs)) fun σ' => wT Γ c σ' G' (fun k H3 => match k with
          | true => wE Γ e σ' H3 (fun d H4 => P (items.drop (i + 1)) (accD ++ [d]) H4) (fun _ _ => False)
          | false => P (items.drop (i + 1)) accD H3) (fun _ _ => False) := by
        have := I.go
        rw [hdrop] at this
        exact this
      obtain ⟨σD', ea, h2⟩ := ok_of hgo
      obtain ⟨go1, go2⟩ := itk.go S' H' G' I.st I.R i x hx
      refine .inr ⟨go1, fun H'' => ∃ S'' G'' acc' accD', LcInv X.K fnm clm S1 H1 G1 D items P (i + 1) H'' S'' G'' acc' accD', fun H'' w => ⟨items.length - (i + 1), by omega, rfl, hlt, w⟩, fun v H'' y => ?_⟩
      obtain ⟨st2, R2, rv⟩ := go2 v H'' y
      have stS : Step S H G S' H'' G' := (st1.trans I.st).trans st2
      refine ⟨S', wipeD σD vs, G', x, σD', R2, wipe_slots (sl.step R stS) vs, rv, ea, fun σ' sl' wp => ⟨?_, ?_⟩⟩
      · rw [wp vs hin, wipe_idem (i := 0)]
      · have hres : G' D = none := (R2.res D I.res).1
        have hat : H'' D = some (.lst acc) := st2.stay D _ I.at_ hres (by rw [I.res]; simp)
        refine ⟨S', σD', G', _, fun _ _ => False, R2, sl', h2, fun b S3 H3 G3 st3 R3 h3 => ?_, fun _ _ _ _ _ _ _ _ hf => hf⟩
        have hat3 : H3 D = some (.lst acc) := st3.stay D _ hat hres (by rw [I.res]; simp)
        have hres3 : S3 D = some false := st3.strm D _ I.res
        cases b with
        | true =>
          refine ⟨S3, σD', G3, _, fun _ _ => False, R3, sl'.step R2 st3, h3, fun w S4 H4 d G4 st4 R4 r4 h4 => ?_, fun _ _ _ _ _ _ _ _ hf => hf⟩
          have hat4 : H4 D = some (.lst acc) := st4.stay D _ hat3 (R3.res D hres3).1 (by rw [hres3]; simp)
          have hres4 : S4 D = some false := st4.strm D _ hres3
          have ka := Keep.change (o := .lst (acc ++ [w])) (G := G4) hat4 hres4
          refine ⟨acc, hat4, Nat.lt_of_le_of_lt I.len (Nat.lt_of_lt_of_le hlt itk.len), S4, G4, acc ++ [w], accD ++ [d], upd_same, ?_, hres4, ?_, R4.change hat4 hres4, ?_, h4⟩
          · rw [List.length_append]; have := I.len; simp; omega
          · exact (((I.st.trans st2).trans st3).trans st4).change hD
          · exact (((((I.dat.step I.R st2).step R2 st3).step R3 st4)).keep ka).append (.cons (r4.keep ka) .nil)
        | false =>
          exact ⟨S3, G3, acc, accD, hat3, Nat.le_succ_of_le I.len, hres3, (I.st.trans st2).trans st3, R3, (I.dat.step I.R st2).step R2 st3, h3⟩
    · have ei : i = items.length := by omega
      subst ei
      have hgo : newL z accD G' QD := by
        have := I.go
        rw [List.drop_length] at this
        exact this
      refine .inl ⟨itk.stop S' H' G' I.st I.R, ?_⟩
      have hz : acc.length ≤ sizeLine := Nat.le_trans I.len itk.len
      have sS : S D = none := (R.free hD0).2
      have gD : G' D = none := (I.R.res D I.res).1
      cases z with
      | true =>
        obtain ⟨k1, k2⟩ := I.R.letOut I.res
        exact hQ _ _ H' _ G' ((st1.trans I.st).letOut sS) k2 (.lst I.at_ gD (by unfold unS; rw [if_pos rfl]) hz (I.dat.keep k1)) hgo
      | false =>
        exact hQ _ _ H' _ _ ((st1.trans I.st).track sS hD0) (I.R.track I.at_ I.res hz I.dat) (.ref D) (hgo D gD)
theorem je_lc (k : COk C fnm clm Γ N sc X W) {z : Bool} {elt tg iter : Expr} {ifs : List Expr} {scope : Scope} {own : List (Str × Nat)} {pos : Pos} {e : E} {g : Tgt} {it : I} {c : T}
    (hok : BlkOk N sc scope own) (hset : ∀ elts kk p, iter ≠ .Set elts kk p) (hin : tIn g (own.map (·.2)) = true) (hi : JI fnm clm X W tg iter (wI Γ it))
    (hg : ∀ X', COk C fnm clm Γ N (relS scope sc) X' W0 → (X'.fn = fun x => scope.names.lookup x == some .cell) → X'.K = X.K → JG fnm clm X' tg g)
    (ht : ∀ X', COk C fnm clm Γ N (relS scope sc) X' W0 → X'.K = X.K → (ifs = [] ∧ c = .yes) ∨ ∃ cd, ifs = [cd] ∧ JT fnm clm X' W0 cd (wT Γ c))
    (he : ∀ X', COk C fnm clm Γ N (relS scope sc) X' W0 → X'.K = X.K → JE fnm clm X' W0 elt (wE Γ e)) :
    JE fnm clm X W (.ListComp elt [⟨tg, iter, ifs, 0⟩] scope pos) (wE Γ (.lc z e g it c own)) := by
  obtain ⟨wi, pi, ri⟩ := hi
  refine ⟨rfl, _, pe_lc (g := canG X.K fnm clm g) (tt := canT X.K fnm clm W0 (wT Γ c)) (te := canE X.K fnm clm W0 (wE Γ e)) k.calm (by rw [k.hN]; exact k.nd) pi (by rw [k.hN, k.hsc]; exact hok) (fun s H C' cl fp => (hg _ (k.blk s H scope cl C' fp) rfl rfl).can)
    (fun s H C' cl fp => ?_) (fun s H C' cl fp => (he _ (k.blk s H scope cl C' fp) rfl).can) ?_, lc_ref ri hin⟩
  · rcases ht _ (k.blk s H scope cl C' fp) rfl with ⟨rfl, rfl⟩ | ⟨cd, rfl, h⟩
    · refine ⟨fun pins s σ H Q I ⟨S, σD, G, QD, XD, R, sl, h, hQ, hX⟩ => pts_nil.run pins s σ H Q I (hQ true S H G .refl R h)⟩
    · exact pts_one h.can
  · intro x
    cases iter <;> first | rfl | exact absurd rfl (hset _ _ _)
end
end DL

namespace DL
open PySem PySem.Spec PyProof.Rows L2
/-! ### len({k: v for ..}) -/
section
variable {K : PySem.W.Frag} {fnm clm : Nat → Option Addr} {S : Addr → Option Bool} {H : Hp} {G : HD}
theorem Keep.changeD {p : Addr} {o : HO} {kvs : List (Key × V)} (h : H p = some (.dK kvs)) (s : S p = some false) : Keep S H G S (upd H p o) G := by
  refine ⟨fun a u e g s' => ⟨by rw [upd_ne (fun z => by rw [z, s] at s'; cases s')]; exact e, g, s'⟩, fun a ws e => ?_, fun a u w e => ?_, fun _ h => h⟩
  · rw [upd_ne (fun z => by rw [z, h] at e; cases e)]; exact e
  · rw [upd_ne (fun z => by rw [z, h] at e; cases e)]; exact e
theorem Hel.changeD (R : Hel K fnm clm S H G) {p : Addr} {o : HO} {kvs : List (Key × V)} (h : H p = some (.dK kvs)) (s : S p = some false) : Hel K fnm clm S (upd H p o) G := by
  have k : Keep S H G S (upd H p o) G := Keep.changeD h s
  refine ⟨fun a c e => (R.cell a c e).keep k (upd_ne fun z => by rw [z, (R.res p s).1] at e; cases e), fun a e => ?_, fun a e => ?_⟩
  · obtain ⟨g, q, ns, x, k', m, h1, h2, h3, h4, h5⟩ := R.rnd a e
    have n1 : a ≠ p := fun z => by rw [z, s] at e; cases e
    have n2 : q ≠ p := fun z => by rw [z, h] at h2; cases h2
    exact ⟨g, q, ns, x, k', m, by rw [upd_ne n1]; exact h1, by rw [upd_ne n2]; exact h2, h3, h4, h5⟩
  · obtain ⟨g, q⟩ := R.res a e
    refine ⟨g, ?_⟩
    by_cases z : a = p
    · subst z; rw [upd_same]; simp
    · rw [upd_ne z]; exact q
theorem key_dat {v : V} {d : D} {k : Key} (r : Dat K fnm S H G v d) (e : keyD d = some k) : v = kV k := by
  cases r <;> simp only [keyD] at e <;> first | cases e | skip
  all_goals rfl
end
theorem keys_putK (k : Key) (z : V) (kvs : List (Key × V)) : (putK kvs k z).map (·.1) = insK (kvs.map (·.1)) k := by
  unfold putK insK
  rw [List.any_map]
  show List.map _ (if (kvs.any fun kv => decide (kv.1 = k)) = true then _ else _) = if (kvs.any fun kv => decide (kv.1 = k)) = true then _ else _
  by_cases h : (kvs.any fun kv => decide (kv.1 = k)) = true
  · rw [if_pos h, if_pos h, List.map_map]
    apply List.map_congr_left
    intro p _
    show (if p.1 = k then (p.1, z) else p).1 = p.1
    split <;> rfl
  · rw [if_neg h, if_neg h, List.map_append]; rfl
section
variable {C : Cfg} {fnm clm : Nat → Option Addr} {Γ : Gam} {N : List Str} {sc : Scope} {X : Cx} {W : WX}
abbrev dcStep (Γ : Gam) (g : Tgt) (c : T) (e v : E) (σw : StD) : D → HD → (Option Key → HD → Prop) → Prop := fun x H2 K => ok (asg g x σw) fun σ' =>
  wT Γ c σ' H2 (fun k H3 => match k with | true => wE Γ e σ' H3 (fun d H4 => wE Γ v σ' H4 (fun _ H5 => ok (keyD d) fun k => K (some k) H5) (fun _ _ => False)) (fun _ _ => False) | false => K none H3) (fun _ _ => False)
structure DcInv (K : PySem.W.Frag) (fnm clm : Nat → Option Addr) (S1 : Addr → Option Bool) (H1 : Hp) (G1 : HD) (D : Addr) (items : List DL.D) (P : List DL.D → List Key → HD → Prop) (i : Nat) (H : Hp) (S' : Addr → Option Bool) (G' : HD) (acc : List (Key × V)) : Prop where
  at_ : H D = some (.dK acc)
  len : acc.length ≤ i
  res : S' D = some false
  st : Step S1 H1 G1 S' H G'
  R : Hel K fnm clm S' H G'
  go : P (items.drop i) (acc.map (·.1)) G'
theorem dc_ref {wi : TI} {it : I} {g : Tgt} {c : T} {e v : E} {vs : List Nat} (ri : RefI X.K fnm clm W wi (wI Γ it)) (hin : tIn g vs = true) :
    RefE X.K fnm clm W (fun σ H Q => tDc wi (canG X.K fnm clm g) (canT X.K fnm clm W0 (wT Γ c)) (canE X.K fnm clm W0 (wE Γ e)) (canE X.K fnm clm W0 (wE Γ v)) vs σ H fun x H1 => ∃ a kvs, [x] = [V.ref a] ∧ H1 a = some (.dK kvs) ∧ Q (.int kvs.length) H1)
      (fun σ H Q X => wI Γ it σ H (fun items H1 => dcD (dcStep Γ g c e v (wipeD σ vs)) (fun acc H2 => Q (.int (acc.length : Nat)) H2) items [] H1) X) := by
  intro S σ σD H G Q QD XD R sl h hQ hX
  refine ri S σ σD H G _ _ XD R sl h (fun J S1 H1 G1 items st1 R1 itk h1 => ?_) hX
  intro D hD
  have hD0 : H D = none := st1.there D hD
  let P : List DL.D → List Key → HD → Prop := fun xs acc H => dcD (dcStep Γ g c e v (wipeD σD vs)) (fun acc H2 => QD (.int (acc.length : Nat)) H2) xs acc H
  refine ⟨fun i m H => m = items.length - i ∧ i ≤ items.length ∧ ∃ S' G' acc, DcInv X.K fnm clm S1 H1 G1 D items P i H S' G' acc,
    ⟨items.length, by omega, Nat.zero_le _, _, G1, [], upd_same, Nat.zero_le _, ?_, .reserve R1 hD, R1.reserve hD, h1⟩, ?_⟩
  · unfold resS; rw [if_pos rfl]
  · rintro i m H' ⟨rfl, hi, S', G', acc, I⟩
    by_cases hlt : i < items.length
    · obtain ⟨x, hx⟩ : ∃ x, items[i]? = some x := ⟨items[i], List.getElem?_eq_getElem hlt⟩
      have hdrop : items.drop i = x :: items.drop (i + 1) := by
        rw [List.drop_eq_getElem_cons hlt]
        have : items[i] = x := by rw [List.getElem?_eq_getElem hlt] at hx; exact Option.some.inj hx
        rw [this]
      have hgo : ok (asg g x (wipeD σD vs)) fun σ' => wT Γ c σ' G' (fun k H3 => match k with
          | true => wE Γ e σ' H3 (fun d H4 => wE Γ v σ' H4 (fun _ H5 => ok (keyD d) fun k => P (items.drop (i + 1)) (insK (acc.map (·.1)) k) H5) (fun _ _ => False)) (fun _ _ => False)
          | false => P (items.drop (i + 1)) (acc.map (·.1)) H3) (fun _ _ => False) := by
        have := I.go
        rw [hdrop] at this
        exact this
      obtain ⟨σD', ea, h2⟩ := ok_of hgo
      obtain ⟨go1, go2⟩ := itk.go S' H' G' I.st I.R i x hx
      refine .inr ⟨go1, fun H'' => ∃ S'' G'' acc', DcInv X.K fnm clm S1 H1 G1 D items P (i + 1) H'' S'' G'' acc', fun H'' w => ⟨items.length - (i + 1), by omega, rfl, hlt, w⟩, fun u H'' y => ?_⟩
      obtain ⟨st2, R2, rv⟩ := go2 u H'' y
      have stS : Step S H G S' H'' G' := (st1.trans I.st).trans st2
      refine ⟨S', wipeD σD vs, G', x, σD', R2, wipe_slots (sl.step R stS) vs, rv, ea, fun σ' sl' wp => ⟨?_, ?_⟩⟩
      · rw [wp vs hin, wipe_idem (i := 0)]
      · have hres : G' D = none := (R2.res D I.res).1
        have hat : H'' D = some (.dK acc) := st2.stay D _ I.at_ hres (by rw [I.res]; simp)
        refine ⟨S', σD', G', _, fun _ _ => False, R2, sl', h2, fun b S3 H3 G3 st3 R3 h3 => ?_, fun _ _ _ _ _ _ _ _ hf => hf⟩
        have hat3 : H3 D = some (.dK acc) := st3.stay D _ hat hres (by rw [I.res]; simp)
        have hres3 : S3 D = some false := st3.strm D _ I.res
        cases b with
        | true =>
          refine ⟨S3, σD', G3, _, fun _ _ => False, R3, sl'.step R2 st3, h3, fun w S4 H4 d G4 st4 R4 r4 h4 => ?_, fun _ _ _ _ _ _ _ _ hf => hf⟩
          have hat4 : H4 D = some (.dK acc) := st4.stay D _ hat3 (R3.res D hres3).1 (by rw [hres3]; simp)
          have hres4 : S4 D = some false := st4.strm D _ hres3
          refine ⟨S4, σD', G4, _, fun _ _ => False, R4, (sl'.step R2 st3).step R3 st4, h4, fun w2 S5 H5 d2 G5 st5 R5 r5 h5 => ?_, fun _ _ _ _ _ _ _ _ hf => hf⟩
          have hat5 : H5 D = some (.dK acc) := st5.stay D _ hat4 (R4.res D hres4).1 (by rw [hres4]; simp)
          have hres5 : S5 D = some false := st5.strm D _ hres4
          obtain ⟨k, ek, h6⟩ := ok_of h5
          refine ⟨acc, k, key_dat r4 ek, hat5, Nat.lt_of_le_of_lt I.len (Nat.lt_of_lt_of_le hlt itk.len), S5, G5, putK acc k w2, upd_same, ?_, hres5, ?_, R5.changeD hat5 hres5, ?_⟩
          · have := length_putK acc k w2; have := I.len; omega
          · exact ((((I.st.trans st2).trans st3).trans st4).trans st5).change hD
          · rw [keys_putK]; exact h6
        | false =>
          exact ⟨S3, G3, acc, hat3, Nat.le_succ_of_le I.len, hres3, (I.st.trans st2).trans st3, R3, h3⟩
    · have ei : i = items.length := by omega
      subst ei
      have hgo : QD (.int ((acc.map (·.1)).length : Nat)) G' := by
        have := I.go
        rw [List.drop_length] at this
        exact this
      rw [List.length_map] at hgo
      refine .inl ⟨itk.stop S' H' G' I.st I.R, ?_⟩
      have sS : S D = none := (R.free hD0).2
      obtain ⟨k1, k2⟩ := I.R.letOut I.res
      exact ⟨D, acc, rfl, I.at_, hQ _ _ H' _ G' ((st1.trans I.st).letOut sS) k2 (.int _) hgo⟩
theorem je_dlen (k : COk C fnm clm Γ N sc X W) {kx vx tg iter : Expr} {ifs : List Expr} {scope : Scope} {own : List (Str × Nat)} {p pos cpos : Pos} {e v : E} {g : Tgt} {it : I} {c : T}
    (hgl : Gl X "len") (hok : BlkOk N sc scope own) (hset : ∀ elts kk p, iter ≠ .Set elts kk p) (hin : tIn g (own.map (·.2)) = true) (hi : JI fnm clm X W tg iter (wI Γ it))
    (hg : ∀ X', COk C fnm clm Γ N (relS scope sc) X' W0 → (X'.fn = fun x => scope.names.lookup x == some .cell) → X'.K = X.K → JG fnm clm X' tg g)
    (ht : ∀ X', COk C fnm clm Γ N (relS scope sc) X' W0 → X'.K = X.K → (ifs = [] ∧ c = .yes) ∨ ∃ cd, ifs = [cd] ∧ JT fnm clm X' W0 cd (wT Γ c))
    (he : ∀ X', COk C fnm clm Γ N (relS scope sc) X' W0 → X'.K = X.K → JE fnm clm X' W0 kx (wE Γ e))
    (hv : ∀ X', COk C fnm clm Γ N (relS scope sc) X' W0 → X'.K = X.K → JE fnm clm X' W0 vx (wE Γ v)) :
    JE fnm clm X W (.Call (.Name "len" p) [.DictComp kx vx [⟨tg, iter, ifs, 0⟩] scope pos] [] cpos) (wE Γ (.dlen e v g it c own)) := by
  obtain ⟨wi, pi, ri⟩ := hi
  have pe := pe_dc (ifs := ifs) (pos := pos) (g := canG X.K fnm clm g) (tt := canT X.K fnm clm W0 (wT Γ c)) (tk := canE X.K fnm clm W0 (wE Γ e)) (tv := canE X.K fnm clm W0 (wE Γ v)) k.calm (by rw [k.hN]; exact k.nd) pi (by rw [k.hN, k.hsc]; exact hok) (fun s H C' cl fp => (hg _ (k.blk s H scope cl C' fp) rfl rfl).can)
    (fun s H C' cl fp => by
      rcases ht _ (k.blk s H scope cl C' fp) rfl with ⟨rfl, rfl⟩ | ⟨cd, rfl, h⟩
      · exact ⟨fun pins s σ H Q I ⟨S, σD, G, QD, XD, R, sl, h, hQ, hX⟩ => pts_nil.run pins s σ H Q I (hQ true S H G .refl R h)⟩
      · exact pts_one h.can) (fun s H C' cl fp => (he _ (k.blk s H scope cl C' fp) rfl).can) (fun s H C' cl fp => (hv _ (k.blk s H scope cl C' fp) rfl).can)
    (by intro x; cases iter <;> first | rfl | exact absurd rfl (hset _ _ _))
  obtain ⟨b1, b2, b3⟩ := bf_names .len
  obtain ⟨n1, n2, n3⟩ := name_debug b2
  have pa := pa_cons pe pa_nil (star_no rfl [] X.env)
  have pc := pe_callB (pos := cpos) (p := p) (call_lenD (X := X)) hgl (blt_of k b1) b3 pa n3 n1 (star_no rfl [] X.env) rfl
  refine ⟨rfl, _, pc, fun S σ σD H G Q QD XD R sl h hQ hX => ?_⟩
  exact dc_ref (W := W) ri hin S σ σD H G Q QD XD R sl h hQ hX
end
end DL

namespace DL
open PySem PySem.Spec PyProof.Rows L2
/-! ### repr(x), where no repr runs -/
section
variable {X : Cx}
theorem call_rep (hg : X.A.guards = some []) (hu : X.A.units + 70 < cLine) : CallR X (.builtin "repr") (fun xs H Q => ∃ v d, xs = [v] ∧ Dp X.K H v d ∧ d.canLay0 = true ∧ d.showable = true ∧ d.depth ≤ 64 ∧ d.shown.length ≤ sizeLine ∧ Q (.str d.shown) H) := by
  intro pins s σ H xs us Q I r ⟨v, d, ex, hd, hc, hs, hp, hz, q⟩
  subst ex
  obtain ⟨u, eu, rx⟩ := vals1 r
  subst eu
  obtain ⟨as, rd⟩ := Dp.reads I d v u hd rx
  have big : ∀ {a : Addr}, Reads s.heap (.ref a) d as → wpAny (model X.prog X.w) X.A (call (.builtin "repr") [.ref a]) (EP X pins σ Q) X.xe s := fun {a} rd =>
    repr_of_reads' rd hs (PyData.noDict_hsm (PyData.hasDict_of_canLay d hc)) hg (by omega) (fun _ _ e => e) (fun h' u tk hk => ⟨.str _, H, I.kept hk, ⟨u, rfl⟩, q⟩) hz
  cases rd with
  | none => exact PySem.P.repr_of_none ⟨.str _, H, I.tok _, ⟨_, rfl⟩, by simpa only [PyData.shown] using q⟩
  | bool b => exact PySem.P.repr_of_bool ⟨.str _, H, I.tok _, ⟨_, rfl⟩, by simpa only [PyData.shown] using q⟩
  | int i t => exact PySem.P.repr_of_int (by simpa [PyData.showable] using hs) ⟨.str _, H, I.tok _, ⟨_, rfl⟩, by simpa only [PyData.shown] using q⟩
  | str x t => exact PySem.P.repr_of_str ⟨.str _, H, I.tok _, ⟨_, rfl⟩, by simpa only [PyData.shown] using q⟩ (by simpa only [PyData.shown] using hz)
  | list h1 h2 h3 h4 => exact big (.list h1 h2 h3 h4)
  | tuple h1 h2 h3 h4 => exact big (.tuple h1 h2 h3 h4)
  | dict h1 h2 h3 h4 h5 => exact big (.dict h1 h2 h3 h4 h5)
end
section
variable {C : Cfg} {fnm clm : Nat → Option Addr} {Γ : Gam} {N : List Str} {sc : Scope} {X : Cx} {W : WX}
theorem je_rep (k : COk C fnm clm Γ N sc X W) {e : Expr} {p pos : Pos} {ee : E} (hr : C.rp = true) (hg : Gl X "repr") (h : JE fnm clm X W e (wE Γ ee)) : JE fnm clm X W (.Call (.Name "repr" p) [e] [] pos) (wE Γ (.rep ee)) := by
  obtain ⟨ss, ta, pa, ra⟩ := h
  obtain ⟨m, hroom, _⟩ := k.fnk
  have hu : X.A.units + 70 < cLine := by have := hroom.r.un; omega
  refine ⟨rfl, _, pe_callB (call_rep (k.grd hr) hu) hg (blt_of k (by decide +kernel)) (by decide +kernel) (pa_cons pa pa_nil (star_no ss _ _)) (by decide) (by decide) (star_no ss _ _) rfl, fun S σ σD H G Q QD XD R sl h hQ hX => ?_⟩
  refine ra S σ σD H G _ _ XD R sl h (fun v S1 H1 d G1 st1 R1 r1 h1 => ?_) hX
  obtain ⟨p, e1, h2⟩ := ok_of h1
  obtain ⟨⟨a1, a2, a3, a4⟩, q⟩ := h2
  obtain ⟨k1, k2⟩ := dpT_of R1 r1 e1
  have em := mkStr_of p.shown
  have r2 : Dat X.K fnm S1 H1 G1 (.str (mkStr p.shown.cps.toList)) (.str p.shown.cps.toList) := .str _ (by rw [em]; exact a4) (by rw [lim_eq]; exact a3)
  rw [em] at r2
  exact ⟨v, p, rfl, k1, k2, a1, a2, by rw [lim_eq]; exact a3, (hQ.step st1).here R1 r2 q⟩
end
end DL

namespace DL
open PySem PySem.Spec PyProof.Rows L2
/-! ### dict(a tuple of pairs)[k] -/
section
variable {X : Cx}
theorem SqP.plain {pins : List (Addr × Obj)} {σ : L2.St} {H : Hp} {s : Shared} (I : Inv X pins σ H s) {a : Addr} {xs : List V} (h : SqP X.K H a xs) : ∃ its : List Value, Vals xs its ∧ PlainSeq "tuple" s.heap a its.toArray := by
  rcases h with ⟨ob, e, hd⟩ | ⟨ob, arr, m, e1, e2, e3, e4, _, e6⟩
  · obtain ⟨got, _, its, rv, o', e', hc, n, hdat⟩ := I.hok a _ e
    rw [got] at e'
    cases e'
    exact ⟨its, rv, ob, n, got, hc, hd, hdat⟩
  · exact ⟨arr.toList, e6, ob, m, I.kIn a ob e1, e2, e3, by rw [e4, Array.toArray_toList]⟩
theorem pairs2 {pins : List (Addr × Obj)} {σ : L2.St} {H : Hp} {s : Shared} (I : Inv X pins σ H s) : ∀ {ps : List Addr} {kvs : List (Key × V)}, Paired (fun p kv => SqT X.K H p [kV kv.1, kv.2]) ps kvs →
    ∃ (vps : List (Value × Value)) (prs : List (Key × Value)), KV kvs prs ∧ vps.length = ps.length ∧ prs.length = ps.length ∧
      ∀ (j : Nat) (u v : Value), vps[j]? = some (u, v) → ∃ (b : Addr) (k : Key), ps[j]? = some b ∧ IsTup s.heap b #[u, v] ∧ prs[j]? = some (k, v) ∧ keyIs k u = true := by
  intro ps kvs h
  induction h with
  | nil => exact ⟨[], [], .nil, rfl, rfl, fun j u v e => by simp at e⟩
  | cons h t ih =>
    rename_i p kv ps kvs
    obtain ⟨vps, prs, r, l1, l2, each⟩ := ih
    obtain ⟨its, rv, ht, _⟩ := I.tuple h
    obtain ⟨u, y, e, ru, ry⟩ := vals2 rv
    subst e
    refine ⟨(u, y) :: vps, (kv.1, y) :: prs, .cons ⟨rfl, ry⟩ r, by simp [l1], by simp [l2], fun j a b e => ?_⟩
    cases j with
    | zero =>
      obtain ⟨rfl, rfl⟩ := Prod.mk.inj (Option.some.inj e)
      exact ⟨p, kv.1, rfl, ht, rfl, kV_is (P := X.prog) (w := X.w) ru⟩
    | succ j => exact each j a b (by simpa using e)
/-- dict(t), t a tuple of pairs -/
theorem call_dictT (hcalm : X.calm = true) : CallR X (.type "dict") (fun xs H Q => ∃ (a : Addr) (ps : List Addr) (kvs : List (Key × V)), xs = [.ref a] ∧ SqP X.K H a (ps.map V.ref) ∧ Paired (fun p kv => SqT X.K H p [kV kv.1, kv.2]) ps kvs ∧ ps.length ≤ sizeLine ∧
    ∀ p, H p = none → Q (.ref p) (upd H p (.dK (mergeK [] kvs)))) := by
  rintro pins s σ H xs us Q I r ⟨a, ps, kvs, ex, hq, hp, hz, go⟩
  subst ex
  obtain ⟨u, eu, rx⟩ := vals1 r
  subst eu
  obtain rfl : u = .ref a := rx
  obtain ⟨its, rv, pl⟩ := hq.plain I
  have e1 := refs_at rv
  subst e1
  obtain ⟨vps, prs, rel, l1, l2, each⟩ := pairs2 I hp
  have items : PairItems s.heap (ps.map Value.ref).toArray (fun j => ps.getD j 0) vps := by
    refine ⟨by simp [l1], fun j k v e => ?_⟩
    obtain ⟨b, kk, h1, h2, _⟩ := each j k v e
    have hj : ps.getD j 0 = b := by rw [List.getD_eq_getElem?_getD, h1]; rfl
    simp only [hj]
    exact ⟨by simp [h1], .inl h2⟩
  refine PySem.call_dict_pairs (knd := mixKind X.prog X.w) (kvs := prs) (PairArg.tuple (prog := X.prog) (w := X.w) a (ps.map Value.ref).toArray (fun j => ps.getD j 0) vps) (I.ok.hd hcalm) ⟨pl, items⟩ ⟨by rw [l2, l1], fun j k v e => ?_⟩ (by rw [l1]; exact hz) fun h' tk hd' keep => ?_
  · obtain ⟨b, kk, _, _, h3, h4⟩ := each j k v e
    exact ⟨kk, h3, h4⟩
  · have notSys : (s.heap.objs.size == sysModules) = false := beq_eq_false_iff_ne.mpr (Nat.ne_of_gt I.big)
    have short : (mergeK [] kvs).length ≤ sizeLine := by
      have q1 := length_mergeK kvs []
      have q2 := rel.length
      simp at q1
      omega
    refine ⟨.ref s.heap.objs.size, upd H s.heap.objs.size (.dK (mergeK [] kvs)), I.laid (t' := tk) (fun b o e => keep b o (by simp) e) (Nat.le_refl _) ?_, rfl, go _ (I.hok.fresh (Nat.le_refl _))⟩
    exact ⟨short, notSys, merged [] prs, KV.merge rel .nil, hd'⟩
end
theorem merge_new : ∀ (more acc : List (Key × V)), ((acc ++ more).map Prod.fst).Nodup → mergeK acc more = acc ++ more
  | [], acc, _ => by rw [List.append_nil]; rfl
  | kv :: more, acc, h => by
    have hk : (acc.any fun x => decide (x.1 = kv.1)) = false := by
      rw [List.any_eq_false]
      intro x hx hq
      rw [List.map_append, List.map_cons] at h
      have hd := (List.nodup_append.mp h).2.2 x.1 (List.mem_map_of_mem hx) kv.1 List.mem_cons_self
      exact hd (of_decide_eq_true hq)
    show mergeK (putK acc kv.1 kv.2) more = _
    have e : putK acc kv.1 kv.2 = acc ++ [kv] := by
      unfold putK
      rw [hk]
      rfl
    rw [e, merge_new more (acc ++ [kv]) (by rw [List.append_assoc]; exact h), List.append_assoc]
    rfl
theorem find_new {α : Type} : ∀ {kvs : List (Key × α)} {j : Nat} {k : Key} {w : α}, (kvs.map Prod.fst).Nodup → kvs[j]? = some (k, w) → (kvs.find? fun kv => decide (kv.1 = k)) = some (k, w)
  | [], j, k, w, _, e => by simp at e
  | kv :: kvs, 0, k, w, _, e => by
    obtain rfl := Option.some.inj e
    rw [List.find?_cons_of_pos (by simp)]
  | kv :: kvs, j + 1, k, w, h, e => by
    rw [List.map_cons, List.nodup_cons] at h
    have e : kvs[j]? = some (k, w) := by simpa using e
    have hne : kv.1 ≠ k := fun z => h.1 (by rw [z]; exact List.mem_map.mpr ⟨(k, w), List.mem_of_getElem? e, rfl⟩)
    rw [List.find?_cons_of_neg (by simpa using hne)]
    exact find_new h.2 e
section
variable {K : PySem.W.Frag} {fnm clm : Nat → Option Addr} {S : Addr → Option Bool} {H : Hp} {G : HD}
theorem prs_of : ∀ {vs : List V} {ds : List D} {ps : List (List Nat × D)}, DatAll K fnm S H G vs ds → prsD ds = some ps →
    ∃ (as : List Addr) (kvs : List (Key × V)), vs = as.map V.ref ∧ Paired (fun p kv => SqT K H p [kV kv.1, kv.2]) as kvs ∧ kvs.map Prod.fst = ps.map (fun p => (Sum.inr (mkStr p.1) : Key)) ∧
      ∀ (j : Nat) (p : List Nat × D), ps[j]? = some p → ∃ w, kvs[j]? = some (Sum.inr (mkStr p.1), w) ∧ Dat K fnm S H G w p.2
  | _, [], ps, .nil, e => by
    cases e
    exact ⟨[], [], rfl, .nil, rfl, fun j p e => by simp at e⟩
  | _, d :: ds, ps, .cons (v := v) (vs := vs) r t, e => by
    have hd : ∃ s x qs, d = .tup [.str s, x] ∧ prsD ds = some qs ∧ ps = (s, x) :: qs := by
      unfold prsD at e
      split at e
      · rename_i h; cases h
      · rename_i s x ds' h
        obtain ⟨rfl, rfl⟩ := List.cons.inj h
        cases q : prsD ds with
        | none => rw [q] at e; cases e
        | some qs => rw [q] at e; exact ⟨s, x, qs, rfl, rfl, (Option.some.inj e).symm⟩
      · cases e
    obtain ⟨s, x, qs, rfl, e2, rfl⟩ := hd
    obtain ⟨as, kvs, h1, h2, h3, h4⟩ := prs_of t e2
    obtain ⟨a, us, rfl, hq, _, ru⟩ := dat_tup r
    obtain ⟨v1, v2, rfl, r1, r2⟩ : ∃ v1 v2, us = [v1, v2] ∧ Dat K fnm S H G v1 (.str s) ∧ Dat K fnm S H G v2 x := by
      cases ru with
      | cons r1 t1 =>
        cases t1 with
        | cons r2 t2 => cases t2; exact ⟨_, _, rfl, r1, r2⟩
    obtain ⟨rfl, _, _⟩ := dat_str r1
    refine ⟨a :: as, (Sum.inr (mkStr s), v2) :: kvs, by rw [h1]; rfl, .cons hq h2, by simp [h3], fun j p e => ?_⟩
    cases j with
    | zero =>
      obtain rfl := Option.some.inj e
      exact ⟨v2, rfl, r2⟩
    | succ j => exact h4 j p (by simpa using e)
end
section
variable {C : Cfg} {fnm clm : Nat → Option Addr} {Γ : Gam} {N : List Str} {sc : Scope} {X : Cx} {W : WX}
theorem noSl {b : Expr} (h : isSlice b = false) : NoSl b := by
  unfold NoSl
  cases b <;> first | trivial | (intros; rfl) | cases h
theorem je_dix (k : COk C fnm clm Γ N sc X W) {a b : Expr} {p p2 pos : Pos} {ea eb : E} (hg : Gl X "dict") (hs : isSlice b = false) (ha : JE fnm clm X W a (wE Γ ea)) (hb : JE fnm clm X W b (wE Γ eb)) :
    JE fnm clm X W (.Subscript (.Call (.Name "dict" p) [a] [] p2) b pos) (wE Γ (.dix ea eb)) := by
  obtain ⟨ss, ta, pa, ra⟩ := ha
  obtain ⟨_, tb, pb, rb⟩ := hb
  have hu : X.A.units + 1 < cLine := by have := k.hu; omega
  have pd : PE X (.Call (.Name "dict" p) [a] [] p2) _ := pe_callTy (call_dictT k.calm) hg (blt_of k (by decide +kernel)) (by decide +kernel) (pa_cons pa pa_nil (star_no ss _ _)) (by decide) (by decide) (star_no ss _ _) rfl
  refine ⟨rfl, _, pe_dget hu pd pb (noSl hs), fun S σ σD H G Q QD XD R sl h hQ hX => ?_⟩
  refine ra S σ σD H G _ _ XD R sl h (fun v S1 H1 d G1 st1 R1 r1 h1 => ?_) hX
  obtain ⟨ps, e1, h2⟩ := ok_of h1
  obtain ⟨ds, rfl, e2, nd⟩ : ∃ ds, d = .tup ds ∧ prsD ds = some ps ∧ (ps.map Prod.fst).Nodup := by
    unfold drsD at e1
    split at e1
    · rename_i ds
      split at e1
      · rename_i qs q
        split at e1
        · rename_i n
          cases e1
          exact ⟨ds, rfl, q, n⟩
        · cases e1
      · cases e1
    · cases e1
  obtain ⟨a', vs, rfl, hq, hz, rd⟩ := dat_tupP r1
  obtain ⟨as, kvs, rfl, pr, keys, each⟩ := prs_of rd e2
  have nk : (kvs.map Prod.fst).Nodup := by
    rw [keys]
    have e : ps.map (fun p => (Sum.inr (mkStr p.1) : Key)) = (ps.map Prod.fst).map (fun s => (Sum.inr (mkStr s) : Key)) := by rw [List.map_map]; rfl
    rw [e]
    exact List.pairwise_map.mpr (List.Pairwise.imp (fun hne z => hne (mkStr_inj (Sum.inr.inj z))) nd)
  refine ⟨a', as, kvs, rfl, hq, pr, by simpa using hz, fun q hn => ?_⟩
  rw [merge_new kvs [] nk, List.nil_append]
  have st2 : Step S1 H1 G1 (resS S1 q) (upd H1 q (.dK kvs)) G1 := Step.reserve R1 hn
  have R2 : Hel X.K fnm clm (resS S1 q) (upd H1 q (.dK kvs)) G1 := R1.reserve hn
  refine rb _ σ σD _ G1 _ _ XD R2 ((sl.step R st1).step R1 st2) h2 (fun y S3 H3 dy G3 st3 R3 r3 h3 => ?_) ((hX.step st1).step st2)
  obtain ⟨dv, e3, h4⟩ := ok_of h3
  obtain ⟨s, rfl, hf⟩ : ∃ s, dy = .str s ∧ (ps.find? fun p => decide (p.1 = s)).map Prod.snd = some dv := by
    cases dy <;> first | exact ⟨_, rfl, e3⟩ | cases e3
  obtain ⟨rfl, _, _⟩ := dat_str r3
  obtain ⟨pp, hf1, rfl⟩ := Option.map_eq_some_iff.mp hf
  have hs1 : pp.1 = s := by
    have := List.find?_some hf1
    simpa using this
  obtain ⟨j, hj, ej⟩ := List.getElem_of_mem (List.mem_of_find?_eq_some hf1)
  obtain ⟨w, k1, k2⟩ := each j pp (by rw [List.getElem?_eq_getElem hj, ej])
  rw [hs1] at k1
  have live : H3 q = some (.dK kvs) := st3.stay q _ upd_same (R1.free hn).1 (by unfold resS; rw [if_pos rfl]; simp)
  have hv : valV kvs (Sum.inr (mkStr s)) = some w := by
    unfold valV
    rw [find_new nk k1]
    rfl
  refine ⟨q, w, rfl, ?_, ((hQ.step st1).step st2).step st3 |>.here R3 ((k2.step R1 st2).step R2 st3) h4⟩
  rw [← hv]
  exact DGet.k (k := Sum.inr (mkStr s)) live
end
end DL

namespace DL
open PySem PySem.Spec PyProof.Rows L2
/-! ### comprehensions over a live list that stays as it is meanwhile -/
section
variable (K : PySem.W.Frag) (fnm clm : Nat → Option Addr)
structure ItLv (gd : HD → Prop) (J : It) (S : Addr → Option Bool) (H : Hp) (G : HD) (items : List D) : Prop where
  len : items.length ≤ sizeLine
  go : ∀ S' H' G', Step S H G S' H' G' → Hel K fnm clm S' H' G' → gd G' → ∀ i d, items[i]? = some d → J.go i H' ∧ ∀ x H'', J.yld i H' x H'' → Step S' H' G' S' H'' G' ∧ Hel K fnm clm S' H'' G' ∧ Dat K fnm S' H'' G' x d
  stop : ∀ S' H' G', Step S H G S' H' G' → Hel K fnm clm S' H' G' → gd G' → J.stop items.length H'
def RefLv (W : WX) (wi : TI) (t : StD → HD → KD → KX → Prop) : Prop :=
  ∀ S (σ : St') σD H G (R : It → Hp → Prop) (QD : D → List D → HD → Prop) XD, Hel K fnm clm S H G → SlotOk K fnm S H G σ σD → t σD G (fun d G1 => ok (lvD d G1) fun ds => QD d ds G1) XD →
    (∀ J S' H' G' d items, Step S H G S' H' G' → Hel K fnm clm S' H' G' → ItLv K fnm clm (gdD d items) J S' H' G' items → QD d items G' → R J H') → PostX K fnm clm W σ S H G XD → wi σ H R
end
section
variable {C : Cfg} {fnm clm : Nat → Option Addr} {Γ : Gam} {N : List Str} {sc : Scope} {X : Cx} {W : WX}
theorem ItOk.g {K : PySem.W.Frag} {gd : HD → Prop} {J : It} {S : Addr → Option Bool} {H : Hp} {G : HD} {items : List D} (h : ItOk K fnm clm J S H G items) : ItLv K fnm clm gd J S H G items :=
  ⟨h.len, fun S' H' G' st R _ => h.go S' H' G' st R, fun S' H' G' st R _ => h.stop S' H' G' st R⟩
theorem it_live {K : PySem.W.Frag} {S : Addr → Option Bool} {H : Hp} {G : HD} {a : Addr} {ds : List D} (R : Hel K fnm clm S H G) (h : G a = some (.lst ds)) : ItLv K fnm clm (gdD (.ref a) ds) (Itl K a) S H G ds := by
  obtain ⟨vs0, _, z0, r0⟩ := cell_l R h
  refine ⟨by rw [← r0.length]; exact z0, fun S' H' G' st R' gd i d e => ?_, fun S' H' G' st R' gd => ?_⟩
  · obtain ⟨vs, h1, _, r⟩ := cell_l R' gd
    obtain ⟨v, e1, e2⟩ := r.get e
    refine ⟨⟨vs, v, .inl (.inl h1), e1⟩, fun x H'' y => ?_⟩
    obtain ⟨rfl, y⟩ := y
    have := y vs (.inl (.inl h1))
    rw [e1] at this; cases this
    exact ⟨.refl, R', e2⟩
  · obtain ⟨vs, h1, _, r⟩ := cell_l R' gd
    exact ⟨vs, .inl (.inl h1), by rw [r.length]; exact Nat.le_refl _⟩
def JG2 (fnm clm : Nat → Option Addr) (X : Cx) (W : WX) (tg e : Expr) (t : StD → HD → KD → KX → Prop) : Prop := ∃ te, PI X tg e te ∧ RefLv X.K fnm clm W te t
theorem jg_of {tg e : Expr} {ee : E} (he : JE fnm clm X W e (wE Γ ee)) : JG2 fnm clm X W tg e (wE Γ ee) := by
  obtain ⟨s, ta, pa, ra⟩ := he
  refine ⟨_, pi_any pa, fun S σ σD H G Rr QD XD R sl h hR hX => ?_⟩
  refine ra S σ σD H G _ _ XD R sl h (fun v S1 H1 d G1 st1 R1 r1 h1 => ?_) hX
  obtain ⟨ds, e1, h2⟩ := ok_of h1
  clear h1
  cases d <;> try exact nomatch (show (none : Option (List D)) = some ds from e1)
  · cases e1
    obtain ⟨rfl, k, z⟩ := dat_str r1
    exact .inr (.inr ⟨_, rfl, hR _ S1 H1 G1 _ _ st1 R1 (it_str k z).g h2⟩)
  · cases e1
    obtain ⟨a, vs, rfl, k2, z, r⟩ := dat_tup r1
    exact .inr (.inl ⟨a, rfl, ⟨vs, k2⟩, hR _ S1 H1 G1 _ _ st1 R1 (it_tup R1 k2 z r).g h2⟩)
  · cases e1
    obtain ⟨a, vs, rfl, k2, z, r⟩ := dat_tpl r1
    exact .inr (.inl ⟨a, rfl, ⟨vs, k2⟩, hR _ S1 H1 G1 _ _ st1 R1 (it_tup R1 k2 z r).g h2⟩)
  · cases e1
    obtain ⟨a, vs, rfl, k2, z, r⟩ := dat_lst r1
    exact .inl ⟨a, rfl, ⟨vs, k2.sq⟩, hR _ S1 H1 G1 _ _ st1 R1 (it_list R1 k2 z r).g h2⟩
  · rename_i a
    cases dat_ref r1
    have hg : G1 a = some (.lst ds) := by
      have e1 : (match G1 a with | some (.lst ds) => some ds | _ => none) = some ds := e1
      split at e1
      · rename_i q; cases e1; exact q
      · cases e1
    obtain ⟨vs, k2, z, r⟩ := cell_l R1 hg
    exact .inl ⟨a, rfl, ⟨vs, .inl (.inl k2)⟩, hR _ S1 H1 G1 _ _ st1 R1 (it_live R1 hg) h2⟩
  · cases e1
    obtain ⟨a, vs, rfl, k2, z, r⟩ := dat_scr r1
    exact .inl ⟨a, rfl, ⟨vs, k2.sq⟩, hR _ S1 H1 G1 _ _ st1 R1 (it_list R1 k2 z r).g h2⟩
theorem lcl_ref {z : Bool} {wi : TI} {g : Tgt} {c : T} {e a : E} {vs : List Nat} (ri : RefLv X.K fnm clm W wi (wE Γ a)) (hin : tIn g vs = true) :
    RefE X.K fnm clm W (tLc wi (canG X.K fnm clm g) (canT X.K fnm clm W0 (wT Γ c)) (canE X.K fnm clm W0 (wE Γ e)) vs)
      (fun σ H Q X => wE Γ a σ H (fun d H1 => ok (lvD d H1) fun items => lcD (fun x H2 K => gdD d items H2 ∧ lcStep Γ g c e (wipeD σ vs) x H2 K) (fun acc H2 => gdD d items H2 ∧ newL z acc H2 Q) items [] H1) X) := by
  intro S σ σD H G Q QD XD R sl h hQ hX
  refine ri S σ σD H G _ _ XD R sl h (fun J S1 H1 G1 dl items st1 R1 itk h1 => ?_) hX
  intro D hD
  have hD0 : H D = none := st1.there D hD
  have fr := R1.free hD
  let P : List DL.D → List DL.D → HD → Prop := fun xs acc H => lcD (fun x H2 K => gdD dl items H2 ∧ lcStep Γ g c e (wipeD σD vs) x H2 K) (fun acc H2 => gdD dl items H2 ∧ newL z acc H2 QD) xs acc H
  refine ⟨fun i m H => m = items.length - i ∧ i ≤ items.length ∧ ∃ S' G' acc accD, LcInv X.K fnm clm S1 H1 G1 D items P i H S' G' acc accD,
    ⟨items.length, by omega, Nat.zero_le _, _, G1, [], [], upd_same, Nat.zero_le _, ?_, .reserve R1 hD, R1.reserve hD, .nil, h1⟩, ?_⟩
  · unfold resS; rw [if_pos rfl]
  · rintro i m H' ⟨rfl, hi, S', G', acc, accD, I⟩
    by_cases hlt : i < items.length
    · obtain ⟨x, hx⟩ : ∃ x, items[i]? = some x := ⟨items[i], List.getElem?_eq_getElem hlt⟩
      have hdrop : items.drop i = x :: items.drop (i + 1) := by
        rw [List.drop_eq_getElem_cons hlt]
        have : items[i] = x := by rw [List.getElem?_eq_getElem hlt] at hx; exact Option.some.inj hx
        rw [this]
      have hgo : gdD dl items G' ∧ ok (asg g x (wipeD σD vs)) fun σ' => wT Γ c σ' G' (fun k H3 => match k with
          | true => wE Γ e σ' H3 (fun d H4 => P (items.drop (i + 1)) (accD ++ [d]) H4) (fun _ _ => False)
          | false => P (items.drop (i + 1)) accD H3) (fun _ _ => False) := by
        have := I.go
        rw [hdrop] at this
        exact this
      obtain ⟨gd, hgo⟩ := hgo
      obtain ⟨σD', ea, h2⟩ := ok_of hgo
      obtain ⟨go1, go2⟩ := itk.go S' H' G' I.st I.R gd i x hx
      refine .inr ⟨go1, fun H'' => ∃ S'' G'' acc' accD', LcInv X.K fnm clm S1 H1 G1 D items P (i + 1) H'' S'' G'' acc' accD', fun H'' w => ⟨items.length - (i + 1), by omega, rfl, hlt, w⟩, fun v H'' y => ?_⟩
      obtain ⟨st2, R2, rv⟩ := go2 v H'' y
      have stS : Step S H G S' H'' G' := (st1.trans I.st).trans st2
      refine ⟨S', wipeD σD vs, G', x, σD', R2, wipe_slots (sl.step R stS) vs, rv, ea, fun σ' sl' wp => ⟨?_, ?_⟩⟩
      · rw [wp vs hin, wipe_idem (i := 0)]
      · have hres : G' D = none := (R2.res D I.res).1
        have hat : H'' D = some (.lst acc) := st2.stay D _ I.at_ hres (by rw [I.res]; simp)
        refine ⟨S', σD', G', _, fun _ _ => False, R2, sl', h2, fun b S3 H3 G3 st3 R3 h3 => ?_, fun _ _ _ _ _ _ _ _ hf => hf⟩
        have hat3 : H3 D = some (.lst acc) := st3.stay D _ hat hres (by rw [I.res]; simp)
        have hres3 : S3 D = some false := st3.strm D _ I.res
        cases b with
        | true =>
          refine ⟨S3, σD', G3, _, fun _ _ => False, R3, sl'.step R2 st3, h3, fun w S4 H4 d G4 st4 R4 r4 h4 => ?_, fun _ _ _ _ _ _ _ _ hf => hf⟩
          have hat4 : H4 D = some (.lst acc) := st4.stay D _ hat3 (R3.res D hres3).1 (by rw [hres3]; simp)
          have hres4 : S4 D = some false := st4.strm D _ hres3
          have ka := Keep.change (o := .lst (acc ++ [w])) (G := G4) hat4 hres4
          refine ⟨acc, hat4, Nat.lt_of_le_of_lt I.len (Nat.lt_of_lt_of_le hlt itk.len), S4, G4, acc ++ [w], accD ++ [d], upd_same, ?_, hres4, ?_, R4.change hat4 hres4, ?_, h4⟩
          · rw [List.length_append]; have := I.len; simp; omega
          · exact (((I.st.trans st2).trans st3).trans st4).change hD
          · exact (((((I.dat.step I.R st2).step R2 st3).step R3 st4)).keep ka).append (.cons (r4.keep ka) .nil)
        | false =>
          exact ⟨S3, G3, acc, accD, hat3, Nat.le_succ_of_le I.len, hres3, (I.st.trans st2).trans st3, R3, (I.dat.step I.R st2).step R2 st3, h3⟩
    · have ei : i = items.length := by omega
      subst ei
      have hgo : gdD dl items G' ∧ newL z accD G' QD := by
        have := I.go
        rw [List.drop_length] at this
        exact this
      obtain ⟨gd, hgo⟩ := hgo
      refine .inl ⟨itk.stop S' H' G' I.st I.R gd, ?_⟩
      have hz : acc.length ≤ sizeLine := Nat.le_trans I.len itk.len
      have sS : S D = none := (R.free hD0).2
      have gD : G' D = none := (I.R.res D I.res).1
      cases z with
      | true =>
        obtain ⟨k1, k2⟩ := I.R.letOut I.res
        exact hQ _ _ H' _ G' ((st1.trans I.st).letOut sS) k2 (.lst I.at_ gD (by unfold unS; rw [if_pos rfl]) hz (I.dat.keep k1)) hgo
      | false =>
        exact hQ _ _ H' _ _ ((st1.trans I.st).track sS hD0) (I.R.track I.at_ I.res hz I.dat) (.ref D) (hgo D gD)
theorem je_lcl (k : COk C fnm clm Γ N sc X W) {z : Bool} {elt tg iter : Expr} {ifs : List Expr} {scope : Scope} {own : List (Str × Nat)} {pos : Pos} {e : E} {g : Tgt} {a : E} {c : T}
    (hok : BlkOk N sc scope own) (hset : ∀ elts kk p, iter ≠ .Set elts kk p) (hin : tIn g (own.map (·.2)) = true) (hi : JE fnm clm X W iter (wE Γ a))
    (hg : ∀ X', COk C fnm clm Γ N (relS scope sc) X' W0 → (X'.fn = fun x => scope.names.lookup x == some .cell) → X'.K = X.K → JG fnm clm X' tg g)
    (ht : ∀ X', COk C fnm clm Γ N (relS scope sc) X' W0 → X'.K = X.K → (ifs = [] ∧ c = .yes) ∨ ∃ cd, ifs = [cd] ∧ JT fnm clm X' W0 cd (wT Γ c))
    (he : ∀ X', COk C fnm clm Γ N (relS scope sc) X' W0 → X'.K = X.K → JE fnm clm X' W0 elt (wE Γ e)) :
    JE fnm clm X W (.ListComp elt [⟨tg, iter, ifs, 0⟩] scope pos) (wE Γ (.lcl z e g a c own)) := by
  obtain ⟨wi, pi, ri⟩ := jg_of (tg := tg) hi
  refine ⟨rfl, _, pe_lc (g := canG X.K fnm clm g) (tt := canT X.K fnm clm W0 (wT Γ c)) (te := canE X.K fnm clm W0 (wE Γ e)) k.calm (by rw [k.hN]; exact k.nd) pi (by rw [k.hN, k.hsc]; exact hok) (fun s H C' cl fp => (hg _ (k.blk s H scope cl C' fp) rfl rfl).can)
    (fun s H C' cl fp => ?_) (fun s H C' cl fp => (he _ (k.blk s H scope cl C' fp) rfl).can) ?_, lcl_ref ri hin⟩
  · rcases ht _ (k.blk s H scope cl C' fp) rfl with ⟨rfl, rfl⟩ | ⟨cd, rfl, h⟩
    · refine ⟨fun pins s σ H Q I ⟨S, σD, G, QD, XD, R, sl, h, hQ, hX⟩ => pts_nil.run pins s σ H Q I (hQ true S H G .refl R h)⟩
    · exact pts_one h.can
  · intro x
    cases iter <;> first | rfl | exact absurd rfl (hset _ _ _)
end
end DL

namespace DL
open PySem PySem.Spec PyProof.Rows L2
section
variable {C : Cfg} {fnm clm : Nat → Option Addr} {Γ : Gam} {N : List Str} {sc : Scope} {X : Cx} {W : WX}
/-! ## 10. Statements -/
structure SOk (C : Cfg) (fnm clm : Nat → Option Addr) (Γ : Gam) (N : List Str) (sc : Scope) (X : Cx) (W : WX) : Prop extends COk C fnm clm Γ N sc X W where
  fnT : ∀ x, X.fn x = true
  kindF : sc.kind = .function
  stk : X.stack = X.env :: X.outer
  frm : X.env.frame = some X.env.locals
def locB (sc : Scope) (x : Str) : Bool := match sc.names.lookup x with | some .local => true | some .cell => true | _ => false
theorem loc_of (k : COk C fnm clm Γ N sc X W) {x : Str} (h : locB sc x = true) : L2.Loc X.env.scope x := by
  rw [k.hsc]
  unfold locB at h
  unfold L2.Loc
  split at h <;> simp_all
theorem js_set (k : SOk C fnm clm Γ N sc X W) {i : Nat} {x : Str} {px pos : Pos} {e : Expr} {ee : E} (hi : N[i]? = some x) (hx : locB sc x = true) (hs : swapsWith e (some (.Name x px)) pos.line X.env = pure false) (he : JE fnm clm X W e (wE Γ ee)) :
    JS fnm clm X W (.Assign [.Name x px] e pos) (wS Γ (.set i ee)) := by
  obtain ⟨_, ta, pa, ra⟩ := he
  refine ⟨_, ps_set (by rw [k.hN]; exact k.nd) (by rw [k.hN]; exact hi) (loc_of k.toCOk hx) pa hs (.inl (k.fnT x)), fun S σ σD H G D ED R sl h hP hX => ?_⟩
  refine ra S σ σD H G _ _ _ R sl h (fun v S1 H1 d G1 st1 R1 r1 h1 => ?_) (hX.at R sl)
  exact hP.nx _ _ S1 H1 G1 st1 R1 ((sl.step R st1).set r1 i) h1
theorem swap_sole {tg e : Expr} (h : isComp e = false) (l : Nat) (env : Env) : swapsWithSole [tg] e l env = pure false := swap_no h _ _ _
def isTupE : Expr → Bool
  | .Tuple .. => true
  | _ => false
theorem swapped_no {tg e : Expr} (h : isTupE e = false) (env : Env) : swappedStores [tg] e env = pure none := by
  cases e <;> first | (cases tg <;> rfl) | (cases h)
theorem js_asg (k : SOk C fnm clm Γ N sc X W) {tg e : Expr} {pos : Pos} {g : Tgt} {ee : E} (h1 : isStar tg = false) (h2 : isComp e = false) (h3 : isTupE e = false) (hg : JG fnm clm X tg g) (he : JE fnm clm X W e (wE Γ ee)) :
    JS fnm clm X W (.Assign [tg] e pos) (wS Γ (.asg g ee)) := by
  obtain ⟨_, ta, pa, ra⟩ := he
  obtain ⟨tg', pg, rg⟩ := hg
  refine ⟨_, ps_asg pa pg (swap_sole h2 _ _) (swapped_no h3 _) (by rw [asg_star h1] <;> rfl), fun S σ σD H G D ED R sl h hP hX => ?_⟩
  refine ra S σ σD H G _ _ _ R sl h (fun v S1 H1 d G1 st1 R1 r1 h1 => ?_) (hX.at R sl)
  obtain ⟨σD', ea, h2⟩ := ok_of h1
  exact rg S1 σ σD H1 G1 v d _ σD' R1 (sl.step R st1) r1 ea fun σ' sl' _ => hP.nx _ _ S1 H1 G1 st1 R1 sl' h2
theorem js_setI (k : SOk C fnm clm Γ N sc X W) {o i e : Expr} {pt pos : Pos} {eo ei ee : E} (hsl : isSlice i = false) (h2 : isComp e = false) (ho : JE fnm clm X W o (wE Γ eo)) (hi : JE fnm clm X W i (wE Γ ei)) (he : JE fnm clm X W e (wE Γ ee)) :
    JS fnm clm X W (.Assign [.Subscript o i pt] e pos) (wS Γ (.setI eo ei ee)) := by
  obtain ⟨_, ta, pa, ra⟩ := he
  obtain ⟨_, to, po, ro⟩ := ho
  obtain ⟨_, ti, pi, rri⟩ := hi
  refine ⟨_, ps_asg pa (pg_sub po pi set_list (by intro v; cases i <;> first | rfl | (exact absurd hsl (by decide)) | cases hsl)) (swap_sole h2 _ _) (by cases e <;> rfl) rfl, fun S σ σD H G D ED R sl h hP hX => ?_⟩
  refine ra S σ σD H G _ _ _ R sl h (fun v S1 H1 d G1 st1 R1 r1 h1 => ?_) (hX.at R sl)
  have sl1 := sl.step R st1
  refine ro S1 σ σD H1 G1 _ _ _ R1 sl1 h1 (fun vo S2 H2 x G2 st2 R2 r2 h2 => ?_) ((hX.at R sl).step st1)
  refine rri S2 σ σD H2 G2 _ _ _ R2 (sl1.step R1 st2) h2 (fun vi S3 H3 y G3 st3 R3 r3 h3 => ?_) ((hX.at R sl).step (st1.trans st2))
  cases x <;> try exact h3.elim
  cases y <;> try exact h3.elim
  rename_i a kk
  cases dat_int r3
  cases dat_ref r2
  obtain ⟨ds, hg, ⟨b1, b2⟩, h4⟩ := live_of (P := fun ds => (0 ≤ kk ∧ kk < ds.length) ∧ ED.nx σD (updD G3 a (.lst (ds.set kk.toNat d)))) h3
  obtain ⟨ws, k1, k2, k3⟩ := cell_l R3 hg
  have ne : G3 a ≠ none := by rw [hg]; simp
  refine ⟨a, ws, kk, kk.toNat, rfl, rfl, k1, ?_, ?_⟩
  · unfold ixN
    rw [if_pos b1, if_pos (by rw [k3.length]; exact b2)]
  · have rv : Dat X.K fnm S3 H3 G3 v d := (r1.step R1 st2).step R2 st3
    have st4 : Step S3 H3 G3 S3 (upd H3 a (.lst (ws.set kk.toNat v))) (updD G3 a (.lst (ds.set kk.toNat d))) := .write ne
    exact hP.nx σ σD S3 _ _ (((st1.trans st2).trans st3).trans st4) (R3.writeL ne (by rw [List.length_set]; exact k2) (k3.set rv _)) (((sl1.step R1 st2).step R2 st3).step R3 st4) h4
def augB : BOp → Operator → Bool
  | .add, .Add => true | .sub, .Sub => true | .mul, .Mult => true | .bor, .BitOr => true
  | _, _ => false
theorem aug_ok {o : BOp} {op : Operator} (h : augB o op = true) : ∃ r : TIp, PIp X op r ∧ ∀ v v' d d' S H G Q QD, Hel X.K fnm clm S H G → Dat X.K fnm S H G v d → Dat X.K fnm S H G v' d' →
    (match d, d' with | .int _, .int _ => binD true o d d' G QD | .str _, .str _ => binD true o d d' G QD | _, _ => False) → PostE X.K fnm clm S H G QD Q → r v v' H Q := by
  cases o <;> cases op <;> first | cases h | skip
  · refine ⟨fun x y H Q => rI0 (fun i j => .int (i + j)) x y H Q ∨ (∃ i j, x = .str i ∧ y = .str j ∧ i.length + j.length ≤ sizeLine ∧ Q (.str (i ++ j)) H), fun pins s σ H x y v u Q I r1 r2 q => ?_, fun v v' d d' S H G Q QD R r r' h hQ => ?_⟩
    · rcases q with q | q
      · exact iop_add pins s σ H x y v u Q I r1 r2 q
      · exact iop_add_str pins s σ H x y v u Q I r1 r2 q
    · cases d <;> cases d' <;> first | exact h.elim | skip
      · cases dat_int r; cases dat_int r'
        exact .inl ⟨_, _, rfl, rfl, hQ.here R (.int _) h⟩
      · rename_i s t
        obtain ⟨rfl, k1, _⟩ := dat_str r
        obtain ⟨rfl, k2, _⟩ := dat_str r'
        have h : s.length + t.length ≤ lim ∧ QD (.str (s ++ t)) G := h
        refine .inr ⟨_, _, rfl, rfl, by rw [mkStr_length, mkStr_length, lim_eq]; exact h.1, ?_⟩
        rw [mkStr_append]
        refine hQ.here R (.str _ ?_ (by rw [List.length_append, lim_eq]; exact h.1)) h.2
        rw [strOk_iff] at k1 k2 ⊢
        intro c hc
        rcases List.mem_append.mp hc with q | q
        · exact k1 c q
        · exact k2 c q
  · refine ⟨_, iop_sub, fun v v' d d' S H G Q QD R r r' h hQ => ?_⟩
    cases d <;> cases d' <;> first | exact h.elim | skip
    cases dat_int r; cases dat_int r'
    exact ⟨_, _, rfl, rfl, hQ.here R (.int _) h⟩
  · refine ⟨_, iop_mul, fun v v' d d' S H G Q QD R r r' h hQ => ?_⟩
    cases d <;> cases d' <;> first | exact h.elim | skip
    · rename_i i j
      cases dat_int r; cases dat_int r'
      have h : ((-18446744073709551616 < i ∧ i < 18446744073709551616) ∨ (-18446744073709551616 < j ∧ j < 18446744073709551616)) ∧ QD (.int (i * j)) G := h
      refine ⟨_, _, rfl, rfl, ?_, hQ.here R (.int _) h.2⟩
      have e : (2 : Int) ^ 64 = 18446744073709551616 := by decide
      unfold CMul
      rw [e]
      exact h.1
  · refine ⟨_, iop_or, fun v v' d d' S H G Q QD R r r' h hQ => ?_⟩
    cases d <;> cases d' <;> first | exact h.elim | skip
    cases dat_int r; cases dat_int r'
    exact ⟨_, _, rfl, rfl, hQ.here R (.int _) h⟩
theorem slot_get {K : PySem.W.Frag} {S : Addr → Option Bool} {H : Hp} {G : HD} {σ : St'} {σD : StD} (sl : SlotOk K fnm S H G σ σD) {i : Nat} {d : D} (e : σD.getD i none = some d) : σD[i]? = some (some d) ∧ ∃ v, σ[i]? = some (some v) ∧ Dat K fnm S H G v d := by
  have e2 : σD[i]? = some (some d) := by
    rw [List.getD_eq_getElem?_getD] at e
    cases q : σD[i]? with
    | none => rw [q] at e; cases e
    | some z => rw [q] at e; simp at e; rw [e]
  exact ⟨e2, sl.2 i d e2⟩
theorem js_aug (k : SOk C fnm clm Γ N sc X W) {i : Nat} {x : Str} {px pos : Pos} {o : BOp} {op : Operator} {e : Expr} {ee : E} (ho : augB o op = true) (hi : N[i]? = some x) (hx : locB sc x = true) (he : JE fnm clm X W e (wE Γ ee)) :
    JS fnm clm X W (.AugAssign (.Name x px) op e pos) (wS Γ (.aug i o ee)) := by
  obtain ⟨_, ta, pa, ra⟩ := he
  obtain ⟨r, p1, p2⟩ := aug_ok (fnm := fnm) (clm := clm) (X := X) ho
  refine ⟨_, ps_aug (by rw [k.hN]; exact k.nd) (by rw [k.hN]; exact hi) (loc_of k.toCOk hx) pa p1 (.inl (k.fnT x)), fun S σ σD H G D ED R sl h hP hX => ?_⟩
  obtain ⟨d, e1, h1⟩ := ok_of h
  obtain ⟨_, v, e2, rv⟩ := slot_get sl e1
  refine ⟨v, e2, ?_⟩
  refine ra S σ σD H G _ _ _ R sl h1 (fun w S1 H1 y G1 st1 R1 r1 h2 => ?_) (hX.at R sl)
  refine p2 v w d y S1 H1 G1 _ (fun z G2 => ED.nx (σD.set i (some z)) G2) R1 (rv.step R st1) r1 h2 (fun z S2 H2 d2 G2 st2 R2 r2 h3 => ?_)
  exact hP.nx _ _ S2 H2 G2 (st1.trans st2) R2 (((sl.step R st1).step R1 st2).set r2 i) h3
theorem js_ex (k : SOk C fnm clm Γ N sc X W) {e : Expr} {pos : Pos} {ee : E} (hs : isComp e = false) (he : JE fnm clm X W e (wE Γ ee)) : JS fnm clm X W (.Expr e pos) (wS Γ (.ex ee)) := by
  obtain ⟨_, ta, pa, ra⟩ := he
  refine ⟨_, ps_expr pa (swap_no hs _ _ _), fun S σ σD H G D ED R sl h hP hX => ?_⟩
  exact ra S σ σD H G _ _ _ R sl h (fun v S1 H1 d G1 st1 R1 r1 h1 => hP.nx _ _ S1 H1 G1 st1 R1 (sl.step R st1) h1) (hX.at R sl)
theorem js_ret (k : SOk C fnm clm Γ N sc X W) {e : Expr} {pos : Pos} {ee : E} (he : JE fnm clm X W e (wE Γ ee)) : JS fnm clm X W (.Return (some e) pos) (wS Γ (.ret ee)) := by
  obtain ⟨_, ta, pa, ra⟩ := he
  exact ⟨_, ps_ret pa, fun S σ σD H G D ED R sl h hP hX => ra S σ σD H G _ _ _ R sl h hP.rt (hX.at R sl)⟩
theorem js_retN {pos : Pos} : JS fnm clm X W (.Return none pos) (wS Γ .retN) := ⟨_, ps_retN, fun S σ σD H G D ED R sl h hP hX => hP.rt _ S H _ G .refl R .non h⟩
theorem js_pas {pos : Pos} : JS fnm clm X W (.Pass pos) (wS Γ .pas) := ⟨_, ps_pass, fun S σ σD H G D ED R sl h hP hX => hP.nx σ σD S H G .refl R sl h⟩
theorem js_brk {pos : Pos} : JS fnm clm X W (.Break pos) (wS Γ .brk) := ⟨_, ps_break, fun S σ σD H G D ED R sl h hP hX => hP.bk σ σD S H G .refl R sl h⟩
theorem js_cnt {pos : Pos} : JS fnm clm X W (.Continue pos) (wS Γ .cnt) := ⟨_, ps_continue, fun S σ σD H G D ED R sl h hP hX => hP.ct σ σD S H G .refl R sl h⟩
theorem js_ite {t : Expr} {a b : List Stmt} {pos : Pos} {et : T} {ea eb : Ss} (ht : JT fnm clm X W t (wT Γ et)) (ha : JSs fnm clm X W a (wSs Γ ea)) (hb : JSs fnm clm X W b (wSs Γ eb)) : JS fnm clm X W (.If t a b pos) (wS Γ (.ite et ea eb)) := by
  obtain ⟨tt, pt, rt⟩ := ht
  obtain ⟨ta, pa, ra⟩ := ha
  obtain ⟨tb, pb, rb⟩ := hb
  refine ⟨_, ps_if pt pa pb, fun S σ σD H G D ED R sl h hP hX => ?_⟩
  refine rt S σ σD H G _ _ _ R sl h (fun c S1 H1 G1 st1 R1 h1 => ?_) (hX.at R sl)
  cases c with
  | true => exact ra S1 σ σD H1 G1 D ED R1 (sl.step R st1) h1 (hP.step st1) (hX.step st1)
  | false => exact rb S1 σ σD H1 G1 D ED R1 (sl.step R st1) h1 (hP.step st1) (hX.step st1)
theorem js_for (k : SOk C fnm clm Γ N sc X W) {tg iter : Expr} {body : List Stmt} {pos : Pos} {g : Tgt} {it : I} {eb : Ss} (hset : ∀ elts kk p, iter ≠ .Set elts kk p) (hi : JI fnm clm X W tg iter (wI Γ it)) (hg : JG fnm clm X tg g) (hb : JSs fnm clm X W body (wSs Γ eb)) :
    JS fnm clm X W (.For tg iter body [] pos) (wS Γ (.for_ g it eb)) := by
  obtain ⟨wi, pi, ri⟩ := hi
  obtain ⟨tg', pg, rg⟩ := hg
  obtain ⟨tb, pb, rb⟩ := hb
  refine ⟨_, ps_for k.po k.calm pi pg pb (fun x => by cases iter <;> first | rfl | exact absurd rfl (hset _ _ _)), fun S σ σD H G D ED R sl h hP hX => ?_⟩
  refine ri S σ σD H G _ _ _ R sl h (fun J S1 H1 G1 items st1 R1 itk h1 => ?_) (hX.at R sl)
  refine ⟨fun i m σ H => m = items.length - i ∧ i ≤ items.length ∧ ∃ S' σD G', Step S1 H1 G1 S' H G' ∧ Hel X.K fnm clm S' H G' ∧ SlotOk X.K fnm S' H G' σ σD ∧ wFor g (wSs Γ eb) ED (items.drop i) σD G',
    ⟨items.length, by omega, Nat.zero_le _, S1, σD, G1, .refl, R1, sl.step R st1, h1⟩, ?_⟩
  rintro i m σ1 H2 ⟨rfl, hi, S', σD1, G', st2, R2, sl2, h2⟩
  by_cases hlt : i < items.length
  · obtain ⟨x, hx⟩ : ∃ x, items[i]? = some x := ⟨items[i], List.getElem?_eq_getElem hlt⟩
    have hdrop : items.drop i = x :: items.drop (i + 1) := by
      rw [List.drop_eq_getElem_cons hlt]
      have : items[i] = x := by rw [List.getElem?_eq_getElem hlt] at hx; exact Option.some.inj hx
      rw [this]
    rw [hdrop] at h2
    obtain ⟨σD', ea, h3⟩ := ok_of h2
    obtain ⟨go1, go2⟩ := itk.go S' H2 G' st2 R2 i x hx
    refine .inr ⟨go1, fun σ' H' => ∃ S' σD G', Step S1 H1 G1 S' H' G' ∧ Hel X.K fnm clm S' H' G' ∧ SlotOk X.K fnm S' H' G' σ' σD ∧ wFor g (wSs Γ eb) ED (items.drop (i + 1)) σD G', fun σ' H' w => ⟨items.length - (i + 1), by omega, rfl, hlt, w⟩, fun v H3 y => ?_⟩
    obtain ⟨st3, R3, rv⟩ := go2 v H3 y
    refine rg S' σ1 σD1 H3 G' v x _ σD' R3 (sl2.step R2 st3) rv ea fun σ' sl' _ => ?_
    have stA := st2.trans st3
    refine rb S' σ' σD' H3 G' _ _ R3 sl' h3 ?_ ((hX.step st1).step stA)
    exact ⟨fun σ4 σD4 S4 H4 G4 st4 R4 sl4 q => ⟨S4, σD4, G4, stA.trans st4, R4, sl4, q⟩, fun σ4 σD4 S4 H4 G4 st4 R4 sl4 q => hP.nx _ _ S4 H4 G4 ((st1.trans stA).trans st4) R4 sl4 q,
      fun σ4 σD4 S4 H4 G4 st4 R4 sl4 q => ⟨S4, σD4, G4, stA.trans st4, R4, sl4, q⟩, hP.rt.step (st1.trans stA)⟩
  · have e : i = items.length := by omega
    subst e
    rw [List.drop_length] at h2
    exact .inl ⟨itk.stop S' H2 G' st2 R2, hP.nx σ1 σD1 S' H2 G' (st1.trans st2) R2 sl2 h2⟩
theorem js_whl (k : SOk C fnm clm Γ N sc X W) {t : Expr} {body : List Stmt} {pos : Pos} {et : T} {eb : Ss} (ht : JT fnm clm X W t (wT Γ et)) (hb : JSs fnm clm X W body (wSs Γ eb)) : JS fnm clm X W (.While t body [] pos) (wS Γ (.whl et eb)) := by
  obtain ⟨tt, pt, rt⟩ := ht
  obtain ⟨tb, pb, rb⟩ := hb
  refine ⟨_, ps_while k.po pt pb, fun S σ σD H G D ED R sl h hP hX => ?_⟩
  obtain ⟨WD, ⟨m0, w0⟩, turn⟩ := h
  refine ⟨fun m σ' H' => ∃ S' σD' G', Step S H G S' H' G' ∧ Hel X.K fnm clm S' H' G' ∧ SlotOk X.K fnm S' H' G' σ' σD' ∧ WD m σD' G', ⟨m0, S, σD, G, .refl, R, sl, w0⟩, ?_⟩
  rintro m σ1 H1 ⟨S1, σD1, G1, st1, R1, sl1, w1⟩
  refine rt S1 σ1 σD1 H1 G1 _ _ _ R1 sl1 (turn m σD1 G1 w1) (fun b S2 H2 G2 st2 R2 h2 => ?_) ((hX.step st1).at R1 sl1)
  have stA := st1.trans st2
  cases b with
  | true =>
    refine (if_pos rfl).mpr ⟨fun σ' H' => ∃ m', m' < m ∧ ∃ S' σD' G', Step S H G S' H' G' ∧ Hel X.K fnm clm S' H' G' ∧ SlotOk X.K fnm S' H' G' σ' σD' ∧ WD m' σD' G', fun σ' H' q => q, ?_⟩
    refine rb S2 σ1 σD1 H2 G2 _ _ R2 (sl1.step R1 st2) h2 ?_ (hX.step stA)
    exact ⟨fun σ4 σD4 S4 H4 G4 st4 R4 sl4 ⟨m', hm, q⟩ => ⟨m', hm, S4, σD4, G4, stA.trans st4, R4, sl4, q⟩, fun σ4 σD4 S4 H4 G4 st4 R4 sl4 q => hP.nx _ _ S4 H4 G4 (stA.trans st4) R4 sl4 q,
      fun σ4 σD4 S4 H4 G4 st4 R4 sl4 ⟨m', hm, q⟩ => ⟨m', hm, S4, σD4, G4, stA.trans st4, R4, sl4, q⟩, hP.rt.step stA⟩
  | false => exact (if_neg Bool.false_ne_true).mpr (hP.nx σ1 σD1 S2 H2 G2 stA R2 (sl1.step R1 st2) h2)
theorem js_rai (k : SOk C fnm clm Γ N sc X W) {i : Nat} {x m : Str} {j : Nat} {p p2 p3 pos : Pos} (hi : C.cls[i]? = some x) (hx : nameOk x = true) (hg : Gl X x) : JS fnm clm X W (.Raise (some (.Call (.Name x p) [.Constant (.str m) j p2] [] p3)) none pos) (wS Γ (.rai i)) := by
  obtain ⟨c, h1, h2, h3, h4, h5⟩ := k.cls i x hi
  exact ⟨_, ps_raise k.calm k.tk (pmk_own PySem.F.excBase_ValueError h3 h2 h4 h5 hg (name_debug hx).1), fun S σ σD H G D ED R sl h hP hX => hX i c σ σD S H G .refl R sl h1 h⟩
theorem jss_nil : JSs fnm clm X W [] (wSs Γ .n) := ⟨_, pss_nil, fun S σ σD H G D ED R sl h hP hX => hP.nx σ σD S H G .refl R sl h⟩
theorem jss_cons {s : Stmt} {ss : List Stmt} {es : DL.S} {ess : Ss} (h1 : JS fnm clm X W s (wS Γ es)) (h2 : JSs fnm clm X W ss (wSs Γ ess)) : JSs fnm clm X W (s :: ss) (wSs Γ (.c es ess)) := by
  obtain ⟨ta, pa, ra⟩ := h1
  obtain ⟨tb, pb, rb⟩ := h2
  refine ⟨_, pss_cons pa pb, fun S σ σD H G D ED R sl h hP hX => ?_⟩
  refine ra S σ σD H G _ _ R sl h ?_ hX
  exact ⟨fun σ4 σD4 S4 H4 G4 st4 R4 sl4 q => rb S4 σ4 σD4 H4 G4 D ED R4 sl4 q (hP.step st4) (hX.step st4), hP.bk, hP.ct, hP.rt⟩
theorem jss_fz {i : Nat} {ss : List Stmt} {ess : Ss} (h2 : JSs fnm clm X W ss (wSs Γ ess)) : JSs fnm clm X W ss (wSs Γ (.c (.fz i) ess)) := by
  obtain ⟨tb, pb, rb⟩ := h2
  refine ⟨tb, pb, fun S σ σD H G D ED R sl h hP hX => ?_⟩
  obtain ⟨d, e, h⟩ := ok_of (show ok (σD.getD i none) fun d => frzD d G fun d' H1 => wSs Γ ess ED (σD.set i (some d')) H1 from h)
  obtain ⟨e1, v, e2, rv⟩ := slot_get sl e
  have same : ∀ {S : Addr → Option Bool} {H : Hp} {G : HD} {d' : DL.D}, SlotOk X.K fnm S H G σ σD → Dat X.K fnm S H G v d' → SlotOk X.K fnm S H G σ (σD.set i (some d')) := by
    intro S H G d' sl r
    refine ⟨by rw [List.length_set]; exact sl.1, fun j q e3 => ?_⟩
    by_cases hj : i = j
    · subst hj
      rw [List.getElem?_set_self (List.getElem?_eq_some_iff.mp e1).1] at e3
      cases e3
      exact ⟨v, e2, r⟩
    · rw [List.getElem?_set_ne hj] at e3
      exact sl.2 j q e3
  have fin : ∀ d' G', Step S H G S H G' → Hel X.K fnm clm S H G' → Dat X.K fnm S H G' v d' → wSs Γ ess ED (σD.set i (some d')) G' → tb D σ H := fun d' G' st R' r' h' =>
    rb S σ _ H G' D ED R' (same (sl.step R st) r') h' (hP.step st) (hX.step st)
  cases d with
  | ref a =>
    cases dat_ref rv
    cases q : G a with
    | none => simp [frzD, q] at h
    | some c =>
      cases c with
      | lst ds =>
        simp only [frzD, q] at h
        obtain ⟨vs, h1, h2, h3⟩ := R.cell a _ q
        have st : Step S H G S H (delD G a) := .less sub_del
        exact fin _ _ st (R.less sub_del) (.lst h1 delD_same (R.live (by rw [q]; simp)) h2 (h3.step R st)) h
      | dct _ => simp [frzD, q] at h
      | ins _ _ => simp [frzD, q] at h
  | _ => exact fin _ G .refl R rv h
end
end DL

namespace DL
open PySem PySem.Spec PyProof.Rows L2
/-! ## 10K. Instances of own classes -/
section
variable {K : PySem.W.Frag} {fnm clm : Nat → Option Addr} {S S' : Addr → Option Bool} {H H' : Hp} {G G' : HD}
theorem FsAll.get : ∀ {vs : List (Str × V)} {ds : List (Str × D)} {f : Str} {d : D}, FsAll K fnm S H G vs ds → ds.lookup f = some d → ∃ v, vs.lookup f = some v ∧ Dat K fnm S H G v d
  | _, _, _, _, .nil, e => by cases e
  | _, _, f, _, .cons (x := x) r t, e => by
    rw [List.lookup_cons] at e ⊢
    cases q : f == x with
    | true => rw [q] at e; cases e; exact ⟨_, rfl, r⟩
    | false => rw [q] at e; exact FsAll.get t e
theorem FsAll.none_of : ∀ {vs : List (Str × V)} {ds : List (Str × D)} {f : Str}, FsAll K fnm S H G vs ds → ds.lookup f = none → vs.lookup f = none
  | _, _, _, .nil, _ => rfl
  | _, _, f, .cons (x := x) r t, e => by
    rw [List.lookup_cons] at e ⊢
    cases q : f == x with
    | true => rw [q] at e; cases e
    | false => rw [q] at e; exact FsAll.none_of t e
theorem FsAll.length : ∀ {vs : List (Str × V)} {ds : List (Str × D)}, FsAll K fnm S H G vs ds → vs.length = ds.length
  | _, _, .nil => rfl
  | _, _, .cons _ t => by rw [List.length_cons, List.length_cons, FsAll.length t]
theorem FsAll.put {f : Str} {v : V} {d : D} (r : Dat K fnm S H G v d) : ∀ {vs : List (Str × V)} {ds : List (Str × D)}, FsAll K fnm S H G vs ds → FsAll K fnm S H G (putF f v vs) (putFD f d ds)
  | _, _, .nil => .cons r .nil
  | _, _, .cons (x := x) q t => by
    unfold putF putFD
    by_cases e : x = f
    · rw [if_pos e, if_pos e]; exact .cons r t
    · rw [if_neg e, if_neg e]; exact .cons q (FsAll.put r t)
/-- an instance at p: a new one, a changed one -/
theorem Hel.putI (R : Hel K fnm clm S H G) {p c dx C : Addr} {vs : List (Str × V)} {ds : List (Str × D)} (hc : fnm (1000 + C) = some c) (st : Step S H G S (upd H p (.ins c dx vs)) (updD G p (.ins C ds))) (ns : S p = none) (r : FsAll K fnm S H G vs ds) :
    Hel K fnm clm S (upd H p (.ins c dx vs)) (updD G p (.ins C ds)) := by
  have k := Keep.of R st
  refine ⟨fun a o e => ?_, fun a e => ?_, fun a e => ?_⟩
  · by_cases q : a = p
    · subst q
      rw [updD_same] at e; cases e
      exact ⟨c, dx, vs, hc, upd_same, r.keep k⟩
    · rw [updD_ne q] at e
      exact (R.cell a o e).step R st (upd_ne q)
  · obtain ⟨g, r⟩ := R.rnd a e
    have q : a ≠ p := fun z => by rw [z, ns] at e; cases e
    exact ⟨by rw [updD_ne q]; exact g, r.step R st (upd_ne q)⟩
  · obtain ⟨g, r⟩ := R.res a e
    have q : a ≠ p := fun z => by rw [z, ns] at e; cases e
    exact ⟨by rw [updD_ne q]; exact g, by rw [upd_ne q]; exact r⟩
theorem ins_of {a : Addr} {P : Nat → List (Str × D) → Prop} (h : match G a with | some (.ins c fs) => P c fs | _ => False) : ∃ c fs, G a = some (.ins c fs) ∧ P c fs := by
  cases e : G a with
  | none => rw [e] at h; exact h.elim
  | some c =>
    rw [e] at h
    cases c with
    | ins c fs => exact ⟨c, fs, rfl, h⟩
    | _ => exact h.elim
theorem attD_by {c : Nat} {f : Str} {x d : D} (h : attD c f x G = some d) : ∃ a fs, x = .ref a ∧ G a = some (.ins c fs) ∧ fs.lookup f = some d := by
  cases x with
  | ref a =>
    unfold attD at h
    cases e : G a with
    | none => simp [e] at h
    | some o =>
      cases o with
      | ins c' fs =>
        simp only [e] at h
        by_cases q : c' = c
        · rw [if_pos q] at h; subst q; exact ⟨a, fs, rfl, e, h⟩
        · rw [if_neg q] at h; cases h
      | _ => simp [e] at h
  | _ => cases h
theorem insB_by {c : Nat} {f : Str} {x : D} (h : insB c f x G = true) : ∃ a fs, x = .ref a ∧ G a = some (.ins c fs) ∧ fs.lookup f = none := by
  cases x with
  | ref a =>
    unfold insB at h
    cases e : G a with
    | none => simp [e] at h
    | some o =>
      cases o with
      | ins c' fs =>
        simp only [e, Bool.and_eq_true, decide_eq_true_eq, Option.isNone_iff_eq_none] at h
        obtain ⟨rfl, h2⟩ := h
        exact ⟨a, fs, rfl, e, h2⟩
      | _ => simp [e] at h
  | _ => cases h
end
/-! ### the rules, what is raised wished for at the caller's slots -/
section
variable {X : Cx} {CX : CXT} {k : Nat} {f C : Addr} {fd : FuncData} {ps : List Str} {sp : Sp} {E : L2.St → XK} {x m : Str} {p pos apos : Pos} {e o : Expr} {es : List Expr} {ta : TE} {t : TA}
def tMethD (C : Addr) (m : Str) (sp : Sp) (E : L2.St → XK) (ta : TE) (t : TA) : TE := fun σ H Q => ta σ H fun x H1 => ∃ a dx fs, (x = .ref a ∧ H1 a = some (.ins C dx fs) ∧ fs.lookup m = none) ∧ t σ H1 fun vs H2 => sp (.ref a :: vs) H2 Q (E σ)
def tMakeD (C : Addr) (sp : Sp) (E : L2.St → XK) (t : TA) : TE := fun σ H Q => t σ H fun vs H1 => ∀ y dx, H1 y = none → H1 dx = none → dx ≠ y →
  sp (.ref y :: vs) (upd (upd H1 dx (.own y)) y (.ins C dx [])) (fun v H2 => v = .non ∧ Q (.ref y) H2) (E σ)
theorem pe_methD {pl : Sem Bool} (ho : PE X o ta) (cl : Cls X.K C) (me : Meth X.K C m f) (F : FnOk X.prog X.w X.K X.mg X.base CX k f fd ps sp) (room : Room k X.A) (bi : Binds X.K fd ps []) (px : ∀ σ, PassesAt CX X σ (E σ)) (pa : PA X (e :: es) t)
    (s1 : starEach (e :: es) X.env = (false, eval e X.env) :: starEach es X.env) (s2 : (backTo pos (starEach es X.env)).any (·.1) = false)
    (tree : eval (.Call (.Attribute o m apos) (e :: es) [] pos) X.env = (eval o X.env >>= fun ov => standAt apos.atName >>= fun _ => holding [ov] (getMethod ov m pl) >>= fun g => callWith pos g.1 g.2 (backTo pos (starEach (e :: es) X.env)) (backToKw pos (keywordEach [] X.env)))) :
    PE X (.Call (.Attribute o m apos) (e :: es) [] pos) (tMethD C m sp E ta t) := by
  constructor
  intro pins s σ H Q I h
  refine PySem.W.methodCall_KW (pl := pl) (thn (ho.run pins s σ H _ I h) ?_) tree
  rintro u s1' ⟨x, H1, I1, ru, a, dx, fs, ⟨rfl, ha, hn⟩, q⟩
  cases (show u = Value.ref a from ru)
  refine getmeth_ok I1 ha cl me hn ?_
  refine PySem.W.callWith_K (first := [.ref a]) (h₀ := X.base) I1.ok.mod.kin me.kp (thn (pa.run pos pins s1' σ H1 _ I1 q) ?_) s1 s2
  rintro us s2' ⟨vs, H2, I2, rs, q2⟩
  refine ⟨I2.kIn, ?_⟩
  exact run_fnS F room bi (px σ) I2 (us := .ref a :: us) (vs := .ref a :: vs) (.cons rfl rs) q2
theorem pe_methD0 {pl : Sem Bool} (ho : PE X o ta) (cl : Cls X.K C) (me : Meth X.K C m f) (F : FnOk X.prog X.w X.K X.mg X.base CX k f fd ps sp) (room : Room k X.A) (bi : Binds X.K fd ps []) (px : ∀ σ, PassesAt CX X σ (E σ))
    (tree : eval (.Call (.Attribute o m apos) [] [] pos) X.env = (eval o X.env >>= fun ov => standAt apos.atName >>= fun _ => holding [ov] (getMethod ov m pl) >>= fun g => callWith pos g.1 g.2 (backTo pos (starEach [] X.env)) (backToKw pos (keywordEach [] X.env)))) :
    PE X (.Call (.Attribute o m apos) [] [] pos) (tMethD C m sp E ta tNil) := by
  constructor
  intro pins s σ H Q I h
  refine PySem.W.methodCall_KW (pl := pl) (thn (ho.run pins s σ H _ I h) ?_) tree
  rintro u s1' ⟨x, H1, I1, ru, a, dx, fs, ⟨rfl, ha, hn⟩, q⟩
  cases (show u = Value.ref a from ru)
  refine getmeth_ok I1 ha cl me hn ?_
  exact PySem.W.callWith_K0 (first := [.ref a]) I1.kIn me.kp (run_fnS F room bi (px σ) I1 (us := [.ref a]) (vs := [.ref a]) (.cons rfl .nil) q)
theorem run_makeD {pins : List (Addr × Obj)} {σ : L2.St} {H : Hp} {s : Shared} {Q : VK} {us : List Value} {vs : List V} (M : Mk X.K C f) (F : FnOk X.prog X.w X.K X.mg X.base CX k f fd ps sp) (room : RoomM k X.A) (bi : Binds X.K fd ps []) (px : PassesAt CX X σ (E σ))
    (I : Inv X pins σ H s) (r : Vals vs us)
    (h : ∀ y dx, H y = none → H dx = none → dx ≠ y → sp (.ref y :: vs) (upd (upd H dx (.own y)) y (.ins C dx [])) (fun v H2 => v = .non ∧ Q (.ref y) H2) (E σ)) :
    wpAny (model X.prog X.w) X.A (call (.ref C) us) (EP X pins σ Q) X.xe s := by
  have q := h (s.heap.objs.size + 1) s.heap.objs.size (I.hok.fresh (Nat.le_succ _)) (I.hok.fresh (Nat.le_refl _)) (Nat.ne_of_lt (Nat.lt_succ_self _))
  have J := I.made (C := C)
  have rr : Vals (V.ref (s.heap.objs.size + 1) :: vs) (Value.ref (s.heap.objs.size + 1) :: us) := .cons rfl r
  have b2 := bi _ (Value.ref (s.heap.objs.size + 1) :: us) J.kIn (by rw [List.append_nil, ← rr.length]; exact F.len _ _ _ _ q)
  rw [List.append_nil] at b2
  refine wpAny_call (make_map (f := f) I.kIn M.makes M.init (beq_iff_eq.mp M.fn) (codeAny_mono (F.run _ X.stack _ _ _ _ _ _ _ (room.m C us) (J.env0.make C us []) b2 rr q) fun fl s2 hq => ?_))
  match fl, hq with
  | .error _, hq => exact px pins _ _ _ s2 J hq
  | .ok (.ret u), hq =>
    obtain ⟨v, G, J2, rv, ev, q3⟩ := J.after hq
    subst ev
    exact ⟨rv, ⟨V.ref (s.heap.objs.size + 1), _, J2, rfl, q3⟩⟩
  | .ok .next, hq => exact hq.elim
  | .ok .brk, hq => exact hq.elim
  | .ok .cont, hq => exact hq.elim
theorem pe_makeD (M : Mk X.K C f) (F : FnOk X.prog X.w X.K X.mg X.base CX k f fd ps sp) (room : RoomM k X.A) (gl : Gl X x) (mx : X.mg x = some (.ref C)) (bi : Binds X.K fd ps []) (px : ∀ σ, PassesAt CX X σ (E σ)) (pa : PA X (e :: es) t)
    (nd : (x == ("__debug__" : Str)) = false) (s1 : starEach (e :: es) X.env = (false, eval e X.env) :: starEach es X.env) (s2 : (backTo pos (starEach es X.env)).any (·.1) = false) : PE X (.Call (.Name x p) (e :: es) [] pos) (tMakeD C sp E t) := by
  constructor
  intro pins s σ H Q I h
  refine wpAny_Call_Name_kw (ld_glob I gl mx ?_ nd)
  refine PySem.W.callWith_K (h₀ := X.base) I.ok.mod.kin M.kp (thn (pa.run pos pins s σ H _ I h) ?_) s1 s2
  rintro us s1' ⟨vs, H1, I1, rs, q⟩
  exact ⟨I1.kIn, run_makeD M F room bi (px σ) I1 rs q⟩
end
/-! ### over data -/
/-- what an attribute is read of: nothing but a name, an item -/
def okObj : Expr → Bool
  | .Name _ _ => true
  | .Subscript _ _ _ => true
  | _ => false
theorem okObj_base {o : Expr} (h : okObj o = true) (m : Str) (env : Env) : attributeBase o m env (eval o env) = eval o env := by
  cases o <;> first | rfl | cases h
theorem tree_of {o : Expr} {m : Str} {apos pos : Pos} {args : List Expr} {env : Env} (hb : attributeBase o m env (eval o env) = eval o env) (hl : (apos.endLine == pos.line) = true)
    (hf : methodCallForm (args.length + ([] : List Keyword).length) (backTo pos (starEach args env)) (backToKw pos (keywordEach [] env)) = true) :
    eval (.Call (.Attribute o m apos) args [] pos) env = (eval o env >>= fun ov => standAt apos.atName >>= fun _ => holding [ov] (getMethod ov m (importBound o env >>= fun b => pure (b.getD true))) >>= fun g => callWith pos g.1 g.2 (backTo pos (starEach args env)) (backToKw pos (keywordEach [] env))) := by
  rw [arm_eval_Call, hb]
  have hp : methodCallPos true o env apos pos = pure pos := by unfold methodCallPos; simp [hl]
  unfold methodCall
  rw [hf]
  rw [hp]
  rfl
theorem form_of {e : Expr} {es : List Expr} {pos : Pos} {env : Env} (s1 : starEach (e :: es) env = (false, eval e env) :: starEach es env) (s2 : (backTo pos (starEach es env)).any (·.1) = false) (hn : (e :: es).length < 30) :
    methodCallForm ((e :: es).length + ([] : List Keyword).length) (backTo pos (starEach (e :: es) env)) (backToKw pos (keywordEach [] env)) = true := by
  have h1 : (backTo pos (starEach (e :: es) env)).all (!·.1) = true := by
    rw [s1]
    have : (backTo pos (starEach es env)).all (!·.1) = true := by
      rw [List.all_eq_true]
      intro x hx
      rw [List.any_eq_false] at s2
      simpa using s2 x hx
    simpa [backTo] using this
  unfold methodCallForm
  rw [h1]
  have : (backToKw pos (keywordEach [] env)) = [] := rfl
  rw [this]
  simpa using hn
section
variable {C : Cfg} {fnm clm : Nat → Option Addr} {Γ : Gam} {N : List Str} {sc : Scope} {X : Cx} {W : WX}
theorem je_fld (k : COk C fnm clm Γ N sc X W) {c : Nat} {oc : Oc} {o : Expr} {f : Str} {pos : Pos} {eo : E} (hc : C.ocs[c]? = some oc) (hf : f ∈ oc.fds) (hb : okObj o = true) (ho : JE fnm clm X W o (wE Γ eo)) : JE fnm clm X W (.Attribute o f pos) (wE Γ (.fld c eo f)) := by
  obtain ⟨_, ta, pa, ra⟩ := ho
  obtain ⟨ca, h1, h2, h3, h4, _⟩ := (k.ocs c oc hc).ex
  refine ⟨rfl, _, pe_fld pa (okObj_base hb _ _), fun S σ σD H G Q QD XD R sl h hQ hX => ?_⟩
  refine ra S σ σD H G _ _ XD R sl h (fun v S1 H1 d G1 st1 R1 r1 h5 => ?_) hX
  obtain ⟨d2, e2, q⟩ := ok_of h5
  obtain ⟨a, fs, rfl, hg, hl⟩ := attD_by e2
  cases dat_ref r1
  obtain ⟨ca', dx, vs, g1, g2, g3⟩ := R1.cell a _ hg
  cases h1.symm.trans g1
  obtain ⟨v2, l2, r2⟩ := g3.get hl
  exact ⟨a, ca, dx, vs, v2, rfl, g2, h3, h4 f hf, l2, (hQ.step st1).here R1 r2 q⟩
theorem meth_of (k : COk C fnm clm Γ N sc X W) {c i : Nat} {oc : Oc} {m x : Str} {n : Nat} (hc : C.ocs[c]? = some oc) (hm : (m, i) ∈ oc.mts) (hf : C.fns[i]? = some (x, n)) :
    ∃ ca g fd ps l, fnm (1000 + c) = some ca ∧ Cls X.K ca ∧ Meth X.K ca m g ∧ ps.length = n ∧ Binds X.K fd ps [] ∧ RoomM l X.A ∧ FnOk X.prog X.w X.K X.mg X.base (L2.CX X.prog X.w) l g fd ps (lift X.K fnm clm n (Γ.sp i)) := by
  obtain ⟨l, hr, hk⟩ := k.fnk
  obtain ⟨ca, h1, h2, h3, h4, h5, _⟩ := (k.ocs c oc hc).ex
  obtain ⟨g, g1, g2⟩ := h5 _ hm
  obtain ⟨a, fd, ps, q0, q1, _, _, q4, q5⟩ := (hk i (x, n) hf).ex
  cases g1.symm.trans q1
  exact ⟨ca, g, fd, ps, l, h1, h3, g2, q0, q4, hr, q5⟩
theorem je_mcl (k : COk C fnm clm Γ N sc X W) {c i n : Nat} {oc : Oc} {m x : Str} {o e : Expr} {es : List Expr} {apos pos : Pos} {eo : E} {ees : Es} (hc : C.ocs[c]? = some oc) (hm : (m, i) ∈ oc.mts) (hf : C.fns[i]? = some (x, n)) (hn : (e :: es).length + 1 = n) (hl : (apos.endLine == pos.line) = true) (hz : (e :: es).length < 30)
    (hb : okObj o = true) (ho : JE fnm clm X W o (wE Γ eo)) (h : JA fnm clm X W (e :: es) (wEs Γ ees)) : JE fnm clm X W (.Call (.Attribute o m apos) (e :: es) [] pos) (wE Γ (.mcl c m i eo ees)) := by
  obtain ⟨_, to, po, ro⟩ := ho
  obtain ⟨ss, ta, pa, ra⟩ := h
  obtain ⟨ca, g, fd, ps, l, h1, h3, hme, _, hbi, hr, F⟩ := meth_of k hc hm hf
  have s1 := star_no (ss e List.mem_cons_self) es X.env
  have s2 := star_all (fun y hy => ss y (List.mem_cons_of_mem _ hy)) pos X.env
  refine ⟨rfl, tMethD ca m (lift X.K fnm clm n (Γ.sp i)) (WE W) to ta, ?_, fun S σ σD H G Q QD XD R sl h hQ hX => ?_⟩
  · exact pe_methD po h3 hme F hr.r hbi (fun σ => passAt k.tk σ) pa s1 s2 (tree_of (okObj_base hb _ _) hl (form_of s1 s2 hz))
  refine ro S σ σD H G _ _ XD R sl h (fun v S1 H1 d G1 st1 R1 r1 h5 => ?_) hX
  obtain ⟨h5, h6⟩ := h5
  obtain ⟨a, fs, rfl, hg, hno⟩ := insB_by h5
  cases dat_ref r1
  obtain ⟨ca', dx, vs, g1, g2, g3⟩ := R1.cell a _ hg
  cases h1.symm.trans g1
  refine ⟨a, dx, vs, ⟨rfl, g2, g3.none_of hno⟩, ?_⟩
  refine ra S1 σ σD H1 G1 _ _ XD R1 (sl.step R st1) h6 (fun us S2 H2 ds G2 hlen st2 R2 r2 h7 => ?_) (hX.step st1)
  exact ⟨by rw [List.length_cons, hlen]; exact hn, S2, G2, .ref a :: ds, QD, XD, R2, .cons (.ref a) r2, h7, hQ.step (st1.trans st2), hX.step (st1.trans st2)⟩
theorem je_mcl0 (k : COk C fnm clm Γ N sc X W) {c i n : Nat} {oc : Oc} {m x : Str} {o : Expr} {apos pos : Pos} {eo : E} (hc : C.ocs[c]? = some oc) (hm : (m, i) ∈ oc.mts) (hf : C.fns[i]? = some (x, n)) (hn : 1 = n) (hl : (apos.endLine == pos.line) = true)
    (hb : okObj o = true) (ho : JE fnm clm X W o (wE Γ eo)) : JE fnm clm X W (.Call (.Attribute o m apos) [] [] pos) (wE Γ (.mcl c m i eo .n)) := by
  obtain ⟨_, to, po, ro⟩ := ho
  obtain ⟨ca, g, fd, ps, l, h1, h3, hme, _, hbi, hr, F⟩ := meth_of k hc hm hf
  refine ⟨rfl, tMethD ca m (lift X.K fnm clm n (Γ.sp i)) (WE W) to tNil, ?_, fun S σ σD H G Q QD XD R sl h hQ hX => ?_⟩
  · exact pe_methD0 po h3 hme F hr.r hbi (fun σ => passAt k.tk σ) (tree_of (okObj_base hb _ _) hl rfl)
  refine ro S σ σD H G _ _ XD R sl h (fun v S1 H1 d G1 st1 R1 r1 h5 => ?_) hX
  obtain ⟨h5, h6⟩ := h5
  obtain ⟨a, fs, rfl, hg, hno⟩ := insB_by h5
  cases dat_ref r1
  obtain ⟨ca', dx, vs, g1, g2, g3⟩ := R1.cell a _ hg
  cases h1.symm.trans g1
  refine ⟨a, dx, vs, ⟨rfl, g2, g3.none_of hno⟩, ?_⟩
  exact ⟨hn, S1, G1, [.ref a], QD, XD, R1, .cons (.ref a) .nil, h6, hQ.step st1, hX.step st1⟩
/-- what a class's making brings -/
theorem mak_ref (k : COk C fnm clm Γ N sc X W) {c ca n : Nat} {i : Nat} {S S1 : Addr → Option Bool} {σ : L2.St} {H H1 : Hp} {G G1 : HD} {QD : KD} {Q : VK} {XD : KX} {vs : List V} {ds : List D} (hc : fnm (1000 + c) = some ca) (hn : vs.length + 1 = n) (R1 : Hel X.K fnm clm S1 H1 G1) (r : DatAll X.K fnm S1 H1 G1 vs ds)
    (h : ∀ p, G1 p = none → Γ.sp i (.ref p :: ds) (updD G1 p (.ins c [])) (fun d H2 => d = .non ∧ QD (.ref p) H2) XD) (st : Step S H G S1 H1 G1) (hQ : PostE X.K fnm clm S H G QD Q) (hX : PostX X.K fnm clm W σ S H G XD) :
    ∀ y dx, H1 y = none → H1 dx = none → dx ≠ y → lift X.K fnm clm n (Γ.sp i) (.ref y :: vs) (upd (upd H1 dx (.own y)) y (.ins ca dx [])) (fun v H2 => v = .non ∧ Q (.ref y) H2) (WE W σ) := by
  intro y dx hy hdx ne
  have R2 : Hel X.K fnm clm S1 (upd H1 dx (.own y)) G1 := R1.newU hdx
  have s2 : Step S1 H1 G1 S1 (upd H1 dx (.own y)) G1 := Step.newU hdx
  have hy2 : upd H1 dx (.own y) y = none := by rw [upd_ne (fun z => ne z.symm)]; exact hy
  have s3 : Step S1 (upd H1 dx (.own y)) G1 S1 (upd (upd H1 dx (.own y)) y (.ins ca dx [])) (updD G1 y (.ins c [])) := Step.new hy2
  have R3 : Hel X.K fnm clm S1 (upd (upd H1 dx (.own y)) y (.ins ca dx [])) (updD G1 y (.ins c [])) := R2.putI hc s3 (R2.free hy2).2 .nil
  have s4 := s2.trans s3
  refine ⟨hn, S1, _, .ref y :: ds, _, XD, R3, .cons (.ref y) (r.step R1 s4), h y (R1.free hy).1, fun v S' H' d G' st' R' rv q => ?_, fun x cx S' H' G' st' R' hcx hx => hX x cx S' H' G' ((st.trans s4).trans st') R' hcx hx⟩
  obtain ⟨rfl, q⟩ := q
  cases rv
  exact ⟨rfl, hQ _ S' H' _ G' ((st.trans s4).trans st') R' (.ref y) q⟩
theorem je_mak (k : COk C fnm clm Γ N sc X W) {c i n : Nat} {oc : Oc} {x : Str} {e : Expr} {es : List Expr} {p pos : Pos} {ees : Es} (hc : C.ocs[c]? = some oc) (hi : oc.ini = some i) (hf : C.fns[i]? = some (x, n)) (hn : (e :: es).length + 1 = n)
    (hx : nameOk oc.x = true) (hg : Gl X oc.x) (h : JA fnm clm X W (e :: es) (wEs Γ ees)) : JE fnm clm X W (.Call (.Name oc.x p) (e :: es) [] pos) (wE Γ (.mak c i ees)) := by
  obtain ⟨ss, ta, pa, ra⟩ := h
  obtain ⟨l, hr, hk⟩ := k.fnk
  obtain ⟨ca, h1, h2, h3, h4, _, h6⟩ := (k.ocs c oc hc).ex
  obtain ⟨g, g1, M⟩ := h6 i hi
  obtain ⟨a, fd, ps, q0, q1, _, _, q4, q5⟩ := (hk i (x, n) hf).ex
  cases g1.symm.trans q1
  have s1 := star_no (ss e List.mem_cons_self) es X.env
  have s2 := star_all (fun y hy => ss y (List.mem_cons_of_mem _ hy)) pos X.env
  refine ⟨rfl, _, pe_makeD M q5 hr hg h2 q4 (fun σ => passAt k.tk σ) pa (name_debug hx).1 s1 s2, fun S σ σD H G Q QD XD R sl h hQ hX => ?_⟩
  refine ra S σ σD H G _ _ XD R sl h (fun vs S1 H1 ds G1 hlen st1 R1 r1 h5 => ?_) hX
  exact mak_ref k h1 (by rw [hlen]; exact hn) R1 r1 h5 st1 hQ hX
theorem js_setF (k : SOk C fnm clm Γ N sc X W) {c : Nat} {oc : Oc} {o e : Expr} {f : Str} {pos' pos : Pos} {eo ee : E} (hc : C.ocs[c]? = some oc) (hf : f ∈ oc.fds) (hs : isComp e = false) (ho : JE fnm clm X W o (wE Γ eo)) (he : JE fnm clm X W e (wE Γ ee)) :
    JS fnm clm X W (.Assign [.Attribute o f pos'] e pos) (wS Γ (.setF c eo f ee)) := by
  obtain ⟨_, ta, pa, ra⟩ := he
  obtain ⟨_, to, po, ro⟩ := ho
  obtain ⟨ca, h1, h2, h3, h4, _⟩ := (k.ocs c oc hc).ex
  refine ⟨_, ps_fld po pa (swap_no hs _ _ _), fun S σ σD H G D ED R sl h hP hX => ?_⟩
  refine ra S σ σD H G _ _ _ R sl h (fun v S1 H1 d G1 st1 R1 r1 h5 => ?_) (hX.at R sl)
  refine ro S1 σ σD H1 G1 _ _ _ R1 (sl.step R st1) h5 (fun vo S2 H2 x G2 st2 R2 r2 h6 => ?_) ((hX.at R sl).step st1)
  cases x <;> try exact h6.elim
  rename_i a
  cases dat_ref r2
  obtain ⟨c', fs, hg, ⟨rfl, hl⟩, q⟩ := ins_of (P := fun c' fs => (c' = c ∧ fs.length < 1000) ∧ ED.nx σD (updD G2 a (.ins c (putFD f d fs)))) h6
  obtain ⟨ca', dx, vs, g1, g2, g3⟩ := R2.cell a _ hg
  cases h1.symm.trans g1
  have ne : G2 a ≠ none := by rw [hg]; simp
  have st3 : Step S2 H2 G2 S2 (upd H2 a (.ins ca dx (putF f v vs))) (updD G2 a (.ins c' (putFD f d fs))) := .write ne
  have R3 := R2.putI h1 st3 (R2.live ne) (FsAll.put (r1.step R1 st2) g3)
  have st := (st1.trans st2).trans st3
  exact ⟨a, ca, dx, vs, rfl, g2, h3, h4 f hf, by rw [g3.length]; exact hl, hP.nx σ σD S2 _ _ st R3 (sl.step R st) q⟩
theorem js_augF (k : SOk C fnm clm Γ N sc X W) {c : Nat} {oc : Oc} {o e : Expr} {f : Str} {pos' pos : Pos} {eo ee : E} (hc : C.ocs[c]? = some oc) (hf : f ∈ oc.fds) (ho : JE fnm clm X W o (wE Γ eo)) (he : JE fnm clm X W e (wE Γ ee)) :
    JS fnm clm X W (.AugAssign (.Attribute o f pos') .Add e pos) (wS Γ (.augF c eo f ee)) := by
  obtain ⟨_, ta, pa, ra⟩ := he
  obtain ⟨_, to, po, ro⟩ := ho
  obtain ⟨ca, h1, h2, h3, h4, _⟩ := (k.ocs c oc hc).ex
  refine ⟨_, ps_fldaug po pa in_add, fun S σ σD H G D ED R sl h hP hX => ?_⟩
  refine ro S σ σD H G _ _ _ R sl h (fun vo S1 H1 x G1 st1 R1 r1 h5 => ?_) (hX.at R sl)
  obtain ⟨dv, e2, h6⟩ := ok_of h5
  obtain ⟨a, fs, rfl, hg, hl⟩ := attD_by e2
  cases dat_ref r1
  obtain ⟨ca', dx, vs, g1, g2, g3⟩ := R1.cell a _ hg
  cases h1.symm.trans g1
  obtain ⟨v2, l2, r2⟩ := g3.get hl
  refine ⟨a, ca, dx, vs, v2, rfl, g2, h3, h4 f hf, l2, ?_⟩
  refine ra S1 σ σD H1 G1 _ _ _ R1 (sl.step R st1) h6 (fun vy S2 H2 y G2 st2 R2 r3 h7 => ?_) ((hX.at R sl).step st1)
  cases dv <;> try exact h7.elim
  cases y <;> try exact h7.elim
  rename_i i j
  cases dat_int r2; cases dat_int r3
  obtain ⟨c', fs', hg2, ⟨rfl, hl2⟩, q⟩ := ins_of (P := fun c' fs => (c' = c ∧ fs.length < 1000) ∧ ED.nx σD (updD G2 a (.ins c (putFD f (.int (i + j)) fs)))) h7
  obtain ⟨ca', dx', vs', g1', g2', g3'⟩ := R2.cell a _ hg2
  cases h1.symm.trans g1'
  have ne : G2 a ≠ none := by rw [hg2]; simp
  have st3 : Step S2 H2 G2 S2 (upd H2 a (.ins ca dx' (putF f (.int (i + j)) vs'))) (updD G2 a (.ins c' (putFD f (.int (i + j)) fs'))) := .write ne
  have R3 := R2.putI h1 st3 (R2.live ne) (FsAll.put (.int _) g3')
  have st := (st1.trans st2).trans st3
  exact ⟨i, j, rfl, rfl, dx', vs', g2', by rw [g3'.length]; exact hl2, hP.nx σ σD S2 _ _ st R3 (sl.step R st) q⟩
end
end DL

namespace DL
open PySem PySem.Spec PyProof.Rows L2
/-! ## 11. Does the text match? -/
def visB (sc : Scope) (x : Str) : Bool := match sc.names.lookup x with | some .local => true | some .cell => true | some .free => true | _ => false
def glB (sc : Scope) (x : Str) : Bool := match sc.names.lookup x with | some .globalImplicit => true | _ => false
def conB (c : Const) (d : D) : Bool := match c, d with
  | .none, .non => true
  | .bool a, .bl b => decide (a = b)
  | .int i, .int j => decide (i = j)
  | .str s, .str l => decide (s = mkStr l) && PyData.strOk s && decide (l.length ≤ lim)
  | _, _ => false
def bopT (b : Bool) (op : BoolOp) : Bool := match b, op with
  | true, .And => true
  | false, .Or => true
  | _, _ => false
def notSet : Expr → Bool
  | .Set .. => false
  | _ => true
mutual
def mG (N : List Str) (sc : Scope) : Tgt → Expr → Bool
  | .n i, e => match e with
    | .Name x _ => decide (N[i]? = some x) && locB sc x
    | _ => false
  | .t ts, e => match e with
    | .Tuple es _ _ => mGs N sc ts es
    | _ => false
def mGs (N : List Str) (sc : Scope) : List Tgt → List Expr → Bool
  | [], es => es.isEmpty
  | t :: ts, es => match es with
    | e :: es => mG N sc t e && mGs N sc ts es
    | [] => false
end
def isTupT : Expr → Bool
  | .Tuple .. => true
  | _ => false
mutual
def mE (C : Cfg) (N : List Str) : E → Scope → Expr → Bool
  | .var i => fun sc e => match e with
    | .Name x _ => decide (N[i]? = some x) && visB sc x && nameOk x
    | _ => false
  | .con d => fun sc e => match e with
    | .Constant c _ _ => conB c d
    | _ => false
  | .glb i => fun sc e => match e with
    | .Name x _ => decide (C.gls[i]? = some x) && glB sc x && nameOk x
    | _ => false
  | .bin _ o a b => fun sc e => match e with
    | .BinOp l op r _ => bopB o op && mE C N a sc l && mE C N b sc r
    | _ => false
  | .neg a => fun sc e => match e with
    | .UnaryOp .USub x _ => mE C N a sc x
    | _ => false
  | .nt a => fun sc e => match e with
    | .UnaryOp .Not x _ => mE C N a sc x
    | _ => false
  | .boo b es => fun sc e => match e with
    | .BoolOp op vs _ => bopT b op && mBo C N es sc vs
    | _ => false
  | .cmp o a b => fun sc e => match e with
    | .Compare l [op] [r] _ => copB o op && !behindInMarks op r && mE C N a sc l && mE C N b sc r
    | _ => false
  | .chn o p a b c => fun sc e => match e with
    | .Compare l [op, op'] [m, r] _ => copB o op && copB p op' && !lastMarks [op, op'] [m, r] && mE C N a sc l && mE C N b sc m && mE C N c sc r
    | _ => false
  | .ife t a b => fun sc e => match e with
    | .IfExp x y z _ => mT C N t sc x && mE C N a sc y && mE C N b sc z
    | _ => false
  | .tup es => fun sc e => match e with
    | .Tuple xs _ _ => decide (xs.length ≤ 1000) && mEs C N es sc xs
    | _ => false
  | .lst _ es => fun sc e => match e with
    | .List xs _ => decide (xs.length ≤ 1000) && mEs C N es sc xs
    | _ => false
  | .idx a b => fun sc e => match e with
    | .Subscript x y _ => !isSlice y && mE C N a sc x && mE C N b sc y
    | _ => false
  | .sl _ a lo hi => fun sc e => match e with
    | .Subscript x (.Slice l h none _) _ => mE C N a sc x && (match l with | none => isNo lo | some y => !isNo lo && mE C N lo sc y) && (match h with | none => isNo hi | some y => !isNo hi && mE C N hi sc y)
    | _ => false
  | .no => fun _ _ => false
  | .call f es => fun sc e => match e with
    | .Call (.Name x _) (y :: ys) [] _ => decide (C.fns[f]? = some (x, (y :: ys).length)) && nameOk x && glB sc x && mEs C N es sc (y :: ys)
    | _ => false
  | .bf _ f es => fun sc e => match e with
    | .Call (.Name x _) (y :: ys) [] _ => decide (bfName f = x) && glB sc x && mEs C N es sc (y :: ys)
    | _ => false
  | .isi a ts => fun sc e => match e with
    | .Call (.Name f _) [x, .Name t _] [] _ => (match ts with
      | [ty] => decide (f = "isinstance") && decide (tyStr ty = t) && decide (ty ≠ .non) && glB sc "isinstance" && glB sc t && mE C N a sc x
      | _ => false)
    | _ => false
  | .mt m o es => fun sc e => match e with
    | .Call (.Attribute ob x apos) args [] cpos => mtYes m && decide (mtName m = x) && okBase ob && (apos.endLine == cpos.line) && mE C N o sc ob && decide (args.length ≤ 1) && mEs C N es sc args
    | _ => false
  | .lc _ e g it c own => fun sc x => match x with
    | .ListComp elt [⟨tg, iter, ifs, a⟩] scope _ => decide (a = 0) && blkC N sc scope own && notSet iter && tIn g (own.map (·.2)) && mG N scope g tg && mI C N it sc tg iter && mC C N c (relS scope sc) ifs && mE C N e (relS scope sc) elt
    | _ => false
  | .dlen k v g it c own => fun sc x => match x with
    | .Call (.Name f _) [.DictComp kx vx [⟨tg, iter, ifs, a⟩] scope _] [] _ => decide (f = "len") && glB sc "len" && (decide (a = 0) && blkC N sc scope own && notSet iter && tIn g (own.map (·.2)) && mG N scope g tg && mI C N it sc tg iter && mC C N c (relS scope sc) ifs && mE C N k (relS scope sc) kx && mE C N v (relS scope sc) vx)
    | _ => false
  | .dix a b => fun sc e => match e with
    | .Subscript (.Call (.Name f _) [x] [] _) y _ => decide (f = "dict") && glB sc "dict" && !isSlice y && mE C N a sc x && mE C N b sc y
    | _ => false
  | .isc _ _ => fun _ _ => false
  | .lcl _ e g it c own => fun sc x => match x with
    | .ListComp elt [⟨tg, iter, ifs, a⟩] scope _ => decide (a = 0) && blkC N sc scope own && notSet iter && tIn g (own.map (·.2)) && mG N scope g tg && mE C N it sc iter && mC C N c (relS scope sc) ifs && mE C N e (relS scope sc) elt
    | _ => false
  | .fld c a f => fun sc e => match e with
    | .Attribute ob x _ => decide (f = x) && okObj ob && (match C.ocs[c]? with | some oc => decide (f ∈ oc.fds) | none => false) && mE C N a sc ob
    | _ => false
  | .mcl c m i o es => fun sc e => match e with
    | .Call (.Attribute ob x apos) args [] cpos => decide (m = x) && okObj ob && (apos.endLine == cpos.line) && (match C.ocs[c]? with | some oc => decide ((m, i) ∈ oc.mts) | none => false) && (match C.fns[i]? with | some y => decide (args.length + 1 = y.2) | none => false) && decide (args.length < 30) && mE C N o sc ob && mEs C N es sc args
    | _ => false
  | .mak c i es => fun sc e => match e with
    | .Call (.Name x _) (y :: ys) [] _ => (match C.ocs[c]? with | some oc => decide (oc.x = x) && decide (oc.ini = some i) | none => false) && nameOk x && glB sc x && (match C.fns[i]? with | some z => decide ((y :: ys).length + 1 = z.2) | none => false) && mEs C N es sc (y :: ys)
    | _ => false
  | .rep a => fun sc e => match e with
    | .Call (.Name f _) [x] [] _ => C.rp && decide (f = "repr") && glB sc "repr" && mE C N a sc x
    | _ => false
  | .frz a => fun sc e => mE C N a sc e
  | .rg1 _ t a => fun sc e => match e with
    | .Call (.Name f _) [.Call (.Name g _) [x] [] _] [] _ => decide ((match t with | true => "tuple" | false => "list") = f) && decide (g = "range") && glB sc f && glB sc "range" && mE C N a sc x
    | _ => false
  | .rg2 _ t a b => fun sc e => match e with
    | .Call (.Name f _) [.Call (.Name g _) [x, y] [] _] [] _ => decide ((match t with | true => "tuple" | false => "list") = f) && decide (g = "range") && glB sc f && glB sc "range" && mE C N a sc x && mE C N b sc y
    | _ => false
def mEs (C : Cfg) (N : List Str) : Es → Scope → List Expr → Bool
  | .n => fun _ es => es.isEmpty
  | .c e es => fun sc xs => match xs with
    | x :: xs => mE C N e sc x && mEs C N es sc xs
    | [] => false
def mBo (C : Cfg) (N : List Str) : Es → Scope → List Expr → Bool
  | .n => fun _ _ => false
  | .c e .n => fun sc xs => match xs with
    | [x] => mE C N e sc x
    | _ => false
  | .c e (.c e' es) => fun sc xs => match xs with
    | x :: y :: ys => mE C N e sc x && mBo C N (.c e' es) sc (y :: ys)
    | _ => false
def mT (C : Cfg) (N : List Str) : T → Scope → Expr → Bool
  | .of e => fun sc x => plainT x && mE C N e sc x
  | .nt t => fun sc x => match x with
    | .UnaryOp .Not y _ => mT C N t sc y
    | _ => false
  | .bo b ts => fun sc x => match x with
    | .BoolOp op vs _ => bopT b op && mTs C N ts sc vs
    | _ => false
  | .cmp o a b => fun sc e => match e with
    | .Compare l [op] [r] _ => copB o op && !behindInMarks op r && mE C N a sc l && mE C N b sc r
    | _ => false
  | .chn o p a b c => fun sc e => match e with
    | .Compare l [op, op'] [m, r] _ => copB o op && copB p op' && !lastMarks [op, op'] [m, r] && mE C N a sc l && mE C N b sc m && mE C N c sc r
    | _ => false
  | .yes => fun _ _ => false
def mTs (C : Cfg) (N : List Str) : Ts → Scope → List Expr → Bool
  | .n => fun _ _ => false
  | .c e .n => fun sc xs => match xs with
    | [x] => mT C N e sc x
    | _ => false
  | .c e (.c e' es) => fun sc xs => match xs with
    | x :: y :: ys => mT C N e sc x && mTs C N (.c e' es) sc (y :: ys)
    | _ => false
/-- the condition of a comprehension -/
def mC (C : Cfg) (N : List Str) : T → Scope → List Expr → Bool
  | .yes => fun _ xs => xs.isEmpty
  | .of e => fun sc xs => match xs with | [x] => plainT x && mE C N e sc x | _ => false
  | .nt t => fun sc xs => match xs with | [.UnaryOp .Not y _] => mT C N t sc y | _ => false
  | .bo b ts => fun sc xs => match xs with | [.BoolOp op vs _] => bopT b op && mTs C N ts sc vs | _ => false
  | .cmp o a b => fun sc xs => match xs with
    | [.Compare l [op] [r] _] => copB o op && !behindInMarks op r && mE C N a sc l && mE C N b sc r
    | _ => false
  | .chn o p a b c => fun sc xs => match xs with
    | [.Compare l [op, op'] [m, r] _] => copB o op && copB p op' && !lastMarks [op, op'] [m, r] && mE C N a sc l && mE C N b sc m && mE C N c sc r
    | _ => false
def mI (C : Cfg) (N : List Str) : I → Scope → Expr → Expr → Bool
  | .of e => fun sc _ x => mE C N e sc x
  | .rng es => fun sc _ x => match x with
    | .Call (.Name f _) args [] _ => decide (f = "range") && glB sc "range" && decide (1 ≤ args.length) && decide (args.length ≤ 3) && mEs C N es sc args
    | _ => false
  | .enu e => fun sc tg x => match x with
    | .Call (.Name f _) [y] [] _ => decide (f = "enumerate") && glB sc "enumerate" && isTupT tg && mE C N e sc y
    | _ => false
  | .zip es => fun sc tg x => match x with
    | .Call (.Name f _) [y, y'] [] _ => decide (f = "zip") && glB sc "zip" && isTupT tg && mEs C N es sc [y, y']
    | _ => false
  | .rev e => fun sc _ x => match x with
    | .Call (.Name f _) [y] [] _ => decide (f = "reversed") && glB sc "reversed" && mE C N e sc y
    | _ => false
end
/-! an except clause's suite -/
mutual
def mU (C : Cfg) (N : List Str) : E → Scope → Expr → Bool
  | .var i => fun sc e => match e with
    | .Name x _ => decide (N[i]? = some x) && visB sc x && nameOk x
    | _ => false
  | .con d => fun _ e => match e with
    | .Constant c _ _ => conB c d
    | _ => false
  | .nt a => fun sc e => match e with
    | .UnaryOp .Not x _ => mU C N a sc x
    | _ => false
  | .boo b es => fun sc e => match e with
    | .BoolOp op vs _ => bopT b op && mUBo C N es sc vs
    | _ => false
  | .tup es => fun sc e => match e with
    | .Tuple xs _ _ => decide (xs.length ≤ 1000) && mUs C N es sc xs
    | _ => false
  | .cmp o a b => fun sc e => match e with
    | .Compare l [op] [r] _ => copB o op && !behindInMarks op r && mU C N a sc l && mU C N b sc r
    | _ => false
  | .isc i c => fun sc e => match e with
    | .Call (.Name f _) [.Name n _, .Name k _] [] _ => decide (f = "isinstance") && glB sc "isinstance" && decide (N[i]? = some n) && visB sc n && nameOk n && glB sc k && (match c with
      | none => decide (k = "ValueError")
      | some c => decide (C.cls[c]? = some k) && nameOk k)
    | _ => false
  | .bf _ f es => fun sc e => match e with
    | .Call (.Name g _) [x] [] _ => (match f with | .int => true | _ => false) && decide (g = "int") && glB sc "int" && mUs C N es sc [x]
    | _ => false
  | _ => fun _ _ => false
def mUs (C : Cfg) (N : List Str) : Es → Scope → List Expr → Bool
  | .n => fun _ es => es.isEmpty
  | .c e es => fun sc xs => match xs with
    | x :: xs => mU C N e sc x && mUs C N es sc xs
    | [] => false
def mUBo (C : Cfg) (N : List Str) : Es → Scope → List Expr → Bool
  | .n => fun _ _ => false
  | .c e .n => fun sc xs => match xs with
    | [x] => mU C N e sc x
    | _ => false
  | .c e (.c e' es) => fun sc xs => match xs with
    | x :: y :: ys => mU C N e sc x && mUBo C N (.c e' es) sc (y :: ys)
    | _ => false
end
mutual
def mUT (C : Cfg) (N : List Str) : T → Scope → Expr → Bool
  | .of e => fun sc x => plainT x && mU C N e sc x
  | .nt t => fun sc x => match x with
    | .UnaryOp .Not y _ => mUT C N t sc y
    | _ => false
  | .bo b ts => fun sc x => match x with
    | .BoolOp op vs _ => bopT b op && mUTs C N ts sc vs
    | _ => false
  | _ => fun _ _ => false
def mUTs (C : Cfg) (N : List Str) : Ts → Scope → List Expr → Bool
  | .n => fun _ _ => false
  | .c e .n => fun sc xs => match xs with
    | [x] => mUT C N e sc x
    | _ => false
  | .c e (.c e' es) => fun sc xs => match xs with
    | x :: y :: ys => mUT C N e sc x && mUTs C N (.c e' es) sc (y :: ys)
    | _ => false
end
def mSU (C : Cfg) (N : List Str) (sc : Scope) : SU → List Stmt → Bool
  | .n => fun ss => ss.isEmpty
  | .set i e r => fun ss => match ss with
    | .Assign [.Name x _] v _ :: ss => decide (N[i]? = some x) && locB sc x && !isComp v && mU C N e sc v && mSU C N sc r ss
    | _ => false
  | .ret e => fun ss => match ss with
    | [.Return (some v) _] => mU C N e sc v
    | _ => false
  | .ifr t e r => fun ss => match ss with
    | .If x [.Return (some v) _] [] _ :: ss => mUT C N t sc x && mU C N e sc v && mSU C N sc r ss
    | _ => false
/-- is a comprehension's target swapped in -/
def swB (sc scope : Scope) (x : Str) (px p : Pos) : Bool := (match sc.names.lookup x with | some .local => true | _ => false) && (px.line == p.line) && !(scope.names.any fun (n, k) => n == x && (k == .local || k == .cell))
mutual
def mS (C : Cfg) (N : List Str) (sc : Scope) : S → Stmt → Bool
  | .set i e => fun st => match st with
    | .Assign [.Name x px] v pos => decide (N[i]? = some x) && locB sc x && mE C N e sc v && (match v with
      | .ListComp _ [_] scope p => (match e with | .lc .. => true | _ => false) || !swB sc scope x px p
      | v => !isComp v)
    | _ => false
  | .asg g e => fun st => match st with
    | .Assign [tg] v _ => !isComp v && !isTupE v && mG N sc g tg && mE C N e sc v
    | _ => false
  | .setI o i e => fun st => match st with
    | .Assign [.Subscript ob ix _] v _ => !isSlice ix && !isComp v && mE C N o sc ob && mE C N i sc ix && mE C N e sc v
    | _ => false
  | .setF c o f e => fun st => match st with
    | .Assign [.Attribute ob x _] v _ => decide (f = x) && (match C.ocs[c]? with | some oc => decide (f ∈ oc.fds) | none => false) && !isComp v && mE C N o sc ob && mE C N e sc v
    | _ => false
  | .augF c o f e => fun st => match st with
    | .AugAssign (.Attribute ob x _) .Add v _ => decide (f = x) && (match C.ocs[c]? with | some oc => decide (f ∈ oc.fds) | none => false) && mE C N o sc ob && mE C N e sc v
    | _ => false
  | .aug i o e => fun st => match st with
    | .AugAssign (.Name x _) op v _ => augB o op && decide (N[i]? = some x) && locB sc x && mE C N e sc v
    | _ => false
  | .ex e => fun st => match st with
    | .Expr v _ => !isComp v && mE C N e sc v
    | _ => false
  | .ret e => fun st => match st with
    | .Return (some v) _ => mE C N e sc v
    | _ => false
  | .retN => fun st => match st with
    | .Return none _ => true
    | _ => false
  | .ite t a b => fun st => match st with
    | .If x p q _ => mT C N t sc x && mSs C N sc a p && mSs C N sc b q
    | _ => false
  | .for_ g it b => fun st => match st with
    | .For tg iter body [] _ => notSet iter && mG N sc g tg && mI C N it sc tg iter && mSs C N sc b body
    | _ => false
  | .whl t b => fun st => match st with
    | .While x body [] _ => mT C N t sc x && mSs C N sc b body
    | _ => false
  | .brk => fun st => match st with | .Break _ => true | _ => false
  | .cnt => fun st => match st with | .Continue _ => true | _ => false
  | .pas => fun st => match st with | .Pass _ => true | _ => false
  | .rai i => fun st => match st with
    | .Raise (some (.Call (.Name x _) [.Constant (.str _) _ _] [] _)) none _ => decide (C.cls[i]? = some x) && nameOk x && glB sc x
    | _ => false
  | .fz _ => fun _ => false
  | .tri b x n h => fun st => match st with
    | .Try body [.ExceptHandler (some (.Name y _)) nm (b₀ :: suite) _] [] [] _ => decide (C.cls[x]? = some y) && nameOk y && glB sc y && mSs C N sc b body && mSU C N sc h (b₀ :: suite) && (match n, nm with
      | none, none => true
      | some i, some z => decide (N[i]? = some z) && (match sc.names.lookup z with | some .local => true | _ => false)
      | _, _ => false)
    | _ => false
def mSs (C : Cfg) (N : List Str) (sc : Scope) : Ss → List Stmt → Bool
  | .n => fun ss => ss.isEmpty
  | .c (.fz _) es => fun ss => mSs C N sc es ss
  | .c s es => fun ss => match ss with
    | st :: ss => mS C N sc s st && mSs C N sc es ss
    | [] => false
end
end DL

namespace DL
open PySem PySem.Spec PyProof.Rows L2
section
variable {C : Cfg} {fnm clm : Nat → Option Addr} {Γ : Gam} {N : List Str}
/-! ## 12. What matches is proved -/
theorem gl_by {sc : Scope} {X : Cx} {W : WX} (k : COk C fnm clm Γ N sc X W) {x : Str} (h : glB sc x = true) : Gl X x := gl_of k h
theorem vis_by {sc : Scope} {X : Cx} {W : WX} (k : COk C fnm clm Γ N sc X W) {x : Str} (h : visB sc x = true) : Vis X.env.scope x := vis_of k h
theorem bop_by {b : Bool} {op : BoolOp} (h : bopT b op = true) : op = bopE b := by
  cases b <;> cases op <;> first | rfl | cases h
theorem set_by {iter : Expr} (h : notSet iter = true) : ∀ elts kk p, iter ≠ .Set elts kk p := by
  rintro elts kk p rfl
  cases h
theorem con_by {c : Const} {d : D} : conB c d = true → (match c, d with | .none, .non => True | .bool a, .bl b => a = b | .int i, .int j => i = j | .str s, .str l => s = mkStr l ∧ PyData.strOk s = true ∧ l.length ≤ sizeLine | _, _ => False) := by
  intro h
  cases c <;> cases d <;> first | (cases h; done) | trivial | exact of_decide_eq_true h | skip
  have h : (decide (_ = mkStr _) && PyData.strOk _ && decide (_ ≤ lim)) = true := h
  simp only [Bool.and_eq_true, decide_eq_true_eq] at h
  exact ⟨h.1.1, h.1.2, by rw [lim_eq]; exact h.2⟩
mutual
theorem sG {scope sc : Scope} {X : Cx} {W : WX} (k : COk C fnm clm Γ N sc X W) (hl : ∀ x, locB scope x = true → L2.Loc X.env.scope x ∧ (X.fn x = true ∨ X.env.scope.names.lookup x = some .local)) : ∀ (g : Tgt) (e : Expr), mG N scope g e = true → JG fnm clm X e g ∧ isStar e = false
  | .n i, e, h => by
    unfold mG at h
    split at h
    · rename_i x p
      simp only [Bool.and_eq_true, decide_eq_true_eq] at h
      obtain ⟨h1, h2⟩ := hl x h.2
      exact ⟨jg_name (by rw [k.hN]; exact k.nd) (by rw [k.hN]; exact h.1) h1 h2, rfl⟩
    · cases h
  | .t ts, e, h => by
    unfold mG at h
    split at h
    · rename_i es kk p
      exact ⟨jg_tup k.calm (sGs k hl ts es h), rfl⟩
    · cases h
theorem sGs {scope sc : Scope} {X : Cx} {W : WX} (k : COk C fnm clm Γ N sc X W) (hl : ∀ x, locB scope x = true → L2.Loc X.env.scope x ∧ (X.fn x = true ∨ X.env.scope.names.lookup x = some .local)) : ∀ (g : List Tgt) (es : List Expr), mGs N scope g es = true → JGs fnm clm X es g
  | [], es, h => by
    unfold mGs at h
    cases es with
    | nil => exact jgs_nil
    | cons _ _ => cases h
  | t :: ts, es, h => by
    unfold mGs at h
    split at h
    · rename_i e es
      simp only [Bool.and_eq_true] at h
      obtain ⟨h1, h2⟩ := sG k hl t e h.1
      exact jgs_cons h2 h1 (sGs k hl ts es h.2)
    · cases h
end
theorem comp_loc {sc scope : Scope} {X' : Cx} {W : WX} (k : COk C fnm clm Γ N (relS scope sc) X' W) (hf : X'.fn = fun x => scope.names.lookup x == some .cell) (x : Str) (h : locB scope x = true) : L2.Loc X'.env.scope x ∧ (X'.fn x = true ∨ X'.env.scope.names.lookup x = some .local) := by
  unfold locB at h
  unfold L2.Loc
  rw [k.hsc]
  split at h
  · rename_i e
    have := lookup_relS_keep (sc := sc) (by decide) e
    exact ⟨.inl this, .inr this⟩
  · rename_i e
    have := lookup_relS_keep (sc := sc) (by decide) e
    exact ⟨.inr this, .inl (by rw [hf]; simp [e])⟩
  · cases h
theorem mC_by {c : T} {sc : Scope} {ifs : List Expr} (h : mC C N c sc ifs = true) : (ifs = [] ∧ c = .yes) ∨ ∃ cd, ifs = [cd] ∧ mT C N c sc cd = true := by
  cases c <;> unfold mC at h
  case yes =>
    cases ifs with
    | nil => exact .inl ⟨rfl, rfl⟩
    | cons _ _ => cases h
  all_goals
    split at h
    · exact .inr ⟨_, rfl, by unfold mT; exact h⟩
    · cases h
mutual
theorem sE : ∀ (e : E) {sc : Scope} {X : Cx} {W : WX} (k : COk C fnm clm Γ N sc X W) (x : Expr), mE C N e sc x = true → JE fnm clm X W x (wE Γ e)
  | .var i, sc, X, W, k, x, h => by
    unfold mE at h
    split at h
    · simp only [Bool.and_eq_true, decide_eq_true_eq] at h
      exact je_var k h.1.1 (vis_by k h.1.2) h.2
    · cases h
  | .con d, sc, X, W, k, x, h => by
    unfold mE at h
    split at h
    · exact je_con (con_by h)
    · cases h
  | .glb i, sc, X, W, k, x, h => by
    unfold mE at h
    split at h
    · simp only [Bool.and_eq_true, decide_eq_true_eq] at h
      exact je_glb k h.1.1 (gl_by k h.1.2) h.2
    · cases h
  | .bin z o a b, sc, X, W, k, x, h => by
    unfold mE at h
    split at h
    · simp only [Bool.and_eq_true] at h
      exact je_bin k h.1.1 (sE a k _ h.1.2) (sE b k _ h.2)
    · cases h
  | .neg a, sc, X, W, k, x, h => by
    unfold mE at h
    split at h
    · exact je_neg (sE a k _ h)
    · cases h
  | .nt a, sc, X, W, k, x, h => by
    unfold mE at h
    split at h
    · exact je_nt (sE a k _ h)
    · cases h
  | .isc _ _, sc, X, W, k, x, h => by unfold mE at h; cases h
  | .dix a b, sc, X, W, k, x, h => by
    unfold mE at h
    split at h
    · simp only [Bool.and_eq_true, decide_eq_true_eq, Bool.not_eq_true'] at h
      obtain ⟨⟨⟨⟨rfl, h2⟩, h3⟩, h4⟩, h5⟩ := h
      exact je_dix k (gl_by k h2) h3 (sE a k _ h4) (sE b k _ h5)
    · cases h
  | .boo b es, sc, X, W, k, x, h => by
    unfold mE at h
    split at h
    · simp only [Bool.and_eq_true] at h
      cases bop_by h.1
      exact sBo es k _ h.2 b _
    · cases h
  | .cmp o a b, sc, X, W, k, x, h => by
    unfold mE at h
    split at h
    · simp only [Bool.and_eq_true, Bool.not_eq_true'] at h
      exact je_cmp k h.1.1.1 h.1.1.2 (sE a k _ h.1.2) (sE b k _ h.2)
    · cases h
  | .chn o p a b c, sc, X, W, k, x, h => by
    unfold mE at h
    split at h
    · simp only [Bool.and_eq_true, Bool.not_eq_true'] at h
      exact je_chn k h.1.1.1.1.1 h.1.1.1.1.2 h.1.1.1.2 (sE a k _ h.1.1.2) (sE b k _ h.1.2) (sE c k _ h.2)
    · cases h
  | .ife t a b, sc, X, W, k, x, h => by
    unfold mE at h
    split at h
    · simp only [Bool.and_eq_true] at h
      exact je_ife (sT t k _ h.1.1) (sE a k _ h.1.2) (sE b k _ h.2)
    · cases h
  | .tup es, sc, X, W, k, x, h => by
    unfold mE at h
    split at h
    · simp only [Bool.and_eq_true, decide_eq_true_eq] at h
      exact je_tup h.1 (sEs es k _ h.2)
    · cases h
  | .lst z es, sc, X, W, k, x, h => by
    unfold mE at h
    split at h
    · simp only [Bool.and_eq_true, decide_eq_true_eq] at h
      exact je_lst h.1 (sEs es k _ h.2)
    · cases h
  | .idx a b, sc, X, W, k, x, h => by
    unfold mE at h
    split at h
    · simp only [Bool.and_eq_true, Bool.not_eq_true'] at h
      exact je_idx h.1.1 (sE a k _ h.1.2) (sE b k _ h.2)
    · cases h
  | .sl z a lo hi, sc, X, W, k, x, h => by
    unfold mE at h
    split at h
    · rename_i y l u p p2
      simp only [Bool.and_eq_true] at h
      refine je_sl (sE a k _ h.1.1) ?_ ?_
      · have h1 := h.1.2
        cases l with
        | none => rw [show isNo lo = true from h1]; exact jo_none
        | some e =>
          have h1 : (!isNo lo && mE C N lo sc e) = true := h1
          simp only [Bool.and_eq_true, Bool.not_eq_true'] at h1
          rw [h1.1]
          exact jo_some (sE lo k _ h1.2)
      · have h1 := h.2
        cases u with
        | none => rw [show isNo hi = true from h1]; exact jo_none
        | some e =>
          have h1 : (!isNo hi && mE C N hi sc e) = true := h1
          simp only [Bool.and_eq_true, Bool.not_eq_true'] at h1
          rw [h1.1]
          exact jo_some (sE hi k _ h1.2)
    · cases h
  | .no, sc, X, W, k, x, h => by
    unfold mE at h
    cases h
  | .call f es, sc, X, W, k, x, h => by
    unfold mE at h
    split at h
    · simp only [Bool.and_eq_true, decide_eq_true_eq] at h
      exact je_call k h.1.1.1 rfl h.1.1.2 (gl_by k h.1.2) (sEs es k _ h.2)
    · cases h
  | .bf z f es, sc, X, W, k, x, h => by
    unfold mE at h
    split at h
    · simp only [Bool.and_eq_true, decide_eq_true_eq] at h
      exact je_bf k h.1.1 (gl_by k h.1.2) (sEs es k _ h.2)
    · cases h
  | .isi a ts, sc, X, W, k, x, h => by
    unfold mE at h
    split at h
    · split at h
      · simp only [Bool.and_eq_true, decide_eq_true_eq] at h
        obtain ⟨⟨⟨⟨⟨h1, h2⟩, h3⟩, h4⟩, h5⟩, h6⟩ := h
        subst h1
        exact je_isi k h3 h2 (gl_by k h4) (gl_by k h5) (sE a k _ h6)
      · cases h
    · cases h
  | .mt m o es, sc, X, W, k, x, h => by
    unfold mE at h
    split at h
    · rename_i ob y apos args cpos
      simp only [Bool.and_eq_true, decide_eq_true_eq] at h
      obtain ⟨⟨⟨⟨⟨⟨h1, h2⟩, h3⟩, h4⟩, h5⟩, h6⟩, h7⟩ := h
      have ja := sEs es k _ h7
      match args, h6, h7, ja with
      | [], _, h7, ja =>
        cases es with
        | n => exact je_mt0 h1 h2 h3 h4 (sE o k _ h5)
        | c _ _ => unfold mEs at h7; cases h7
      | [e], _, h7, ja => exact je_mt h1 h2 h3 h4 (sE o k _ h5) ja
      | _ :: _ :: _, h6, _, _ => exact absurd h6 (by simp)
    · cases h
  | .lc z e g it c own, sc, X, W, k, x, h => by
    unfold mE at h
    split at h
    · rename_i elt tg iter ifs a scope pos
      simp only [Bool.and_eq_true, decide_eq_true_eq] at h
      obtain ⟨⟨⟨⟨⟨⟨⟨h0, h1⟩, h2⟩, h3⟩, h4⟩, h5⟩, h6⟩, h7⟩ := h
      subst h0
      exact je_lc k (blkOk_by h1) (set_by h2) h3 (sI it k _ _ h5) (fun X' k' hf _ => (sG k' (comp_loc k' hf) g tg h4).1)
        (fun X' k' _ => by
          rcases mC_by h6 with q | ⟨cd, q, r⟩
          · exact .inl q
          · exact .inr ⟨cd, q, sT c k' _ r⟩) (fun X' k' _ => sE e k' _ h7)
    · cases h
  | .lcl z e g it c own, sc, X, W, k, x, h => by
    unfold mE at h
    split at h
    · rename_i elt tg iter ifs a scope pos
      simp only [Bool.and_eq_true, decide_eq_true_eq] at h
      obtain ⟨⟨⟨⟨⟨⟨⟨h0, h1⟩, h2⟩, h3⟩, h4⟩, h5⟩, h6⟩, h7⟩ := h
      subst h0
      exact je_lcl k (blkOk_by h1) (set_by h2) h3 (sE it k _ h5) (fun X' k' hf _ => (sG k' (comp_loc k' hf) g tg h4).1)
        (fun X' k' _ => by
          rcases mC_by h6 with q | ⟨cd, q, r⟩
          · exact .inl q
          · exact .inr ⟨cd, q, sT c k' _ r⟩) (fun X' k' _ => sE e k' _ h7)
    · cases h
  | .dlen ek ev g it c own, sc, X, W, k, x, h => by
    unfold mE at h
    split at h
    · rename_i f _ kx vx tg iter ifs a scope pos _
      simp only [Bool.and_eq_true, decide_eq_true_eq] at h
      obtain ⟨⟨hf, hgl⟩, ⟨⟨⟨⟨⟨⟨⟨h0, h1⟩, h2⟩, h3⟩, h4⟩, h5⟩, h6⟩, h7⟩, h8⟩ := h
      subst h0
      subst hf
      exact je_dlen k (gl_by k hgl) (blkOk_by h1) (set_by h2) h3 (sI it k _ _ h5) (fun X' k' hf _ => (sG k' (comp_loc k' hf) g tg h4).1)
        (fun X' k' _ => by
          rcases mC_by h6 with q | ⟨cd, q, r⟩
          · exact .inl q
          · exact .inr ⟨cd, q, sT c k' _ r⟩) (fun X' k' _ => sE ek k' _ h7) (fun X' k' _ => sE ev k' _ h8)
    · cases h
  | .fld c a f, sc, X, W, k, x, h => by
    unfold mE at h
    split at h
    · simp only [Bool.and_eq_true, decide_eq_true_eq] at h
      obtain ⟨⟨⟨rfl, h2⟩, h3⟩, h4⟩ := h
      split at h3
      · rename_i oc e
        exact je_fld k e (of_decide_eq_true h3) h2 (sE a k _ h4)
      · cases h3
    · cases h
  | .mcl c m i o es, sc, X, W, k, x, h => by
    unfold mE at h
    split at h
    · rename_i ob y apos args cpos
      simp only [Bool.and_eq_true, decide_eq_true_eq] at h
      obtain ⟨⟨⟨⟨⟨⟨⟨rfl, h2⟩, h3⟩, h4⟩, h5⟩, h6⟩, h7⟩, h8⟩ := h
      split at h4
      · rename_i oc e
        split at h5
        · rename_i z e2
          obtain ⟨zx, zn⟩ := z
          have ja := sEs es k _ h8
          match args, h5, h6, h8, ja with
          | [], h5, _, h8, _ =>
            cases es with
            | n => exact je_mcl0 k e (of_decide_eq_true h4) e2 (of_decide_eq_true h5) h3 h2 (sE o k _ h7)
            | c _ _ => unfold mEs at h8; cases h8
          | a :: as, h5, h6, _, ja => exact je_mcl k e (of_decide_eq_true h4) e2 (of_decide_eq_true h5) h3 h6 h2 (sE o k _ h7) ja
        · cases h5
      · cases h4
    · cases h
  | .mak c i es, sc, X, W, k, x, h => by
    unfold mE at h
    split at h
    · simp only [Bool.and_eq_true] at h
      obtain ⟨⟨⟨⟨h1, h2⟩, h3⟩, h4⟩, h5⟩ := h
      split at h1
      · rename_i oc e
        simp only [Bool.and_eq_true, decide_eq_true_eq] at h1
        obtain ⟨rfl, h1⟩ := h1
        split at h4
        · rename_i z e2
          obtain ⟨zx, zn⟩ := z
          exact je_mak k e h1 e2 (of_decide_eq_true h4) h2 (gl_by k h3) (sEs es k _ h5)
        · cases h4
      · cases h1
    · cases h
  | .rep a, sc, X, W, k, x, h => by
    unfold mE at h
    split at h
    · simp only [Bool.and_eq_true, decide_eq_true_eq] at h
      obtain ⟨⟨⟨h1, h2⟩, h3⟩, h4⟩ := h
      subst h2
      exact je_rep k h1 (gl_by k h3) (sE a k _ h4)
    · cases h
  | .frz a, sc, X, W, k, x, h => by
    unfold mE at h
    exact je_frz (sE a k x h)
  | .rg1 z t a, sc, X, W, k, x, h => by
    unfold mE at h
    split at h
    · simp only [Bool.and_eq_true, decide_eq_true_eq] at h
      obtain ⟨⟨⟨⟨h1, h2⟩, h3⟩, h4⟩, h5⟩ := h
      subst h2
      exact je_rg1 k h1 (gl_by k h3) (gl_by k h4) (sE a k _ h5)
    · cases h
  | .rg2 z t a b, sc, X, W, k, x, h => by
    unfold mE at h
    split at h
    · simp only [Bool.and_eq_true, decide_eq_true_eq] at h
      obtain ⟨⟨⟨⟨⟨h1, h2⟩, h3⟩, h4⟩, h5⟩, h6⟩ := h
      subst h2
      exact je_rg2 k h1 (gl_by k h3) (gl_by k h4) (sE a k _ h5) (sE b k _ h6)
    · cases h
theorem sEs : ∀ (es : Es) {sc : Scope} {X : Cx} {W : WX} (k : COk C fnm clm Γ N sc X W) (xs : List Expr), mEs C N es sc xs = true → JA fnm clm X W xs (wEs Γ es)
  | .n, sc, X, W, k, xs, h => by
    unfold mEs at h
    cases xs with
    | nil => exact ja_nil
    | cons _ _ => cases h
  | .c e es, sc, X, W, k, xs, h => by
    unfold mEs at h
    split at h
    · simp only [Bool.and_eq_true] at h
      exact ja_cons (sE e k _ h.1) (sEs es k _ h.2)
    · cases h
theorem sBo : ∀ (es : Es) {sc : Scope} {X : Cx} {W : WX} (k : COk C fnm clm Γ N sc X W) (xs : List Expr), mBo C N es sc xs = true → ∀ (b : Bool) (pos : Pos), JE fnm clm X W (.BoolOp (bopE b) xs pos) (wBo Γ b es)
  | .n, sc, X, W, k, xs, h, b, pos => by
    unfold mBo at h
    cases h
  | .c e .n, sc, X, W, k, xs, h, b, pos => by
    unfold mBo at h
    split at h
    · exact jb_one (sE e k _ h)
    · cases h
  | .c e (.c e' es), sc, X, W, k, xs, h, b, pos => by
    unfold mBo at h
    split at h
    · simp only [Bool.and_eq_true] at h
      exact jb_cons (sE e k _ h.1) (sBo (.c e' es) k _ h.2 b pos)
    · cases h
theorem sT : ∀ (t : T) {sc : Scope} {X : Cx} {W : WX} (k : COk C fnm clm Γ N sc X W) (x : Expr), mT C N t sc x = true → JT fnm clm X W x (wT Γ t)
  | .of e, sc, X, W, k, x, h => by
    unfold mT at h
    simp only [Bool.and_eq_true] at h
    exact jt_of h.1 (sE e k _ h.2)
  | .nt t, sc, X, W, k, x, h => by
    unfold mT at h
    split at h
    · exact jt_nt (sT t k _ h)
    · cases h
  | .bo b ts, sc, X, W, k, x, h => by
    unfold mT at h
    split at h
    · simp only [Bool.and_eq_true] at h
      cases bop_by h.1
      exact jt_bo (sTs ts k _ h.2 b)
    · cases h
  | .cmp o a b, sc, X, W, k, x, h => by
    unfold mT at h
    split at h
    · simp only [Bool.and_eq_true, Bool.not_eq_true'] at h
      exact jt_cmp k h.1.1.1 h.1.1.2 (sE a k _ h.1.2) (sE b k _ h.2)
    · cases h
  | .chn o p a b c, sc, X, W, k, x, h => by
    unfold mT at h
    split at h
    · simp only [Bool.and_eq_true, Bool.not_eq_true'] at h
      exact jt_chn k h.1.1.1.1.1 h.1.1.1.1.2 h.1.1.1.2 (sE a k _ h.1.1.2) (sE b k _ h.1.2) (sE c k _ h.2)
    · cases h
  | .yes, sc, X, W, k, x, h => by
    unfold mT at h
    cases h
theorem sTs : ∀ (ts : Ts) {sc : Scope} {X : Cx} {W : WX} (k : COk C fnm clm Γ N sc X W) (xs : List Expr), mTs C N ts sc xs = true → ∀ b, JTs fnm clm X W b xs (wTs Γ b ts)
  | .n, sc, X, W, k, xs, h, b => by
    unfold mTs at h
    cases h
  | .c t .n, sc, X, W, k, xs, h, b => by
    unfold mTs at h
    split at h
    · exact jts_one (sT t k _ h)
    · cases h
  | .c t (.c t' ts), sc, X, W, k, xs, h, b => by
    unfold mTs at h
    split at h
    · simp only [Bool.and_eq_true] at h
      exact jts_cons (sT t k _ h.1) (sTs (.c t' ts) k _ h.2 b)
    · cases h
theorem sI : ∀ (it : I) {sc : Scope} {X : Cx} {W : WX} (k : COk C fnm clm Γ N sc X W) (tg x : Expr), mI C N it sc tg x = true → JI fnm clm X W tg x (wI Γ it)
  | .of e, sc, X, W, k, tg, x, h => by
    unfold mI at h
    exact ji_of (sE e k _ h)
  | .rng es, sc, X, W, k, tg, x, h => by
    unfold mI at h
    split at h
    · simp only [Bool.and_eq_true, decide_eq_true_eq] at h
      obtain ⟨⟨⟨⟨h1, h2⟩, h3⟩, h4⟩, h5⟩ := h
      subst h1
      exact ji_rng k ⟨h3, h4⟩ (gl_by k h2) (sEs es k _ h5)
    · cases h
  | .enu e, sc, X, W, k, tg, x, h => by
    unfold mI at h
    split at h
    · simp only [Bool.and_eq_true, decide_eq_true_eq] at h
      obtain ⟨⟨⟨h1, h2⟩, h3⟩, h4⟩ := h
      subst h1
      cases tg <;> first | (cases h3; done) | skip
      exact ji_enu k (gl_by k h2) (sE e k _ h4)
    · cases h
  | .zip es, sc, X, W, k, tg, x, h => by
    unfold mI at h
    split at h
    · simp only [Bool.and_eq_true, decide_eq_true_eq] at h
      obtain ⟨⟨⟨h1, h2⟩, h3⟩, h4⟩ := h
      subst h1
      cases tg <;> first | (cases h3; done) | skip
      exact ji_zip k (gl_by k h2) (sEs es k _ h4)
    · cases h
  | .rev e, sc, X, W, k, tg, x, h => by
    unfold mI at h
    split at h
    · simp only [Bool.and_eq_true, decide_eq_true_eq] at h
      obtain ⟨⟨h1, h2⟩, h3⟩ := h
      subst h1
      exact ji_rev k (gl_by k h2) (sE e k _ h3)
    · cases h
end
end
end DL

namespace DL
open PySem PySem.Spec PyProof.Rows L2
/-! ### try .. except X as e: a short suite -/
section
variable {C : Cfg} {fnm clm : Nat → Option Addr} {Γ : Gam} {N : List Str} {sc : Scope} {X Y : Cx} {W : WX}
/-- what is asked of a context to read a suite in it: a handles the exception at a, of the class y -/
structure SuOk (C : Cfg) (fnm clm : Nat → Option Addr) (Γ : Gam) (N : List Str) (sc : Scope) (Y : Cx) : Prop where
  hN : Y.N = N
  nd : N.Nodup
  hsc : Y.env.scope = sc
  fnT : ∀ x, Y.fn x = true
  hu : Y.A.units + 64 < cLine
  blt : ∀ x ∈ bltNames, Y.mg x = none
  cls : ∀ i x, C.cls[i]? = some x → ∃ c, clm i = some c ∧ Y.mg x = some (.ref c)
  isi : ∃ a y c, Γ.xc = some (a, y) ∧ clm y = some c ∧ CallR Y (.builtin "isinstance") (rIsE Y.K c a) ∧ PySem.W.kitOne Y.K (.ref c) (.type "ValueError") = some true ∧ ∀ j d, clm j = some d → PySem.W.kitOne Y.K (.ref c) (.ref d) = some (Γ.sb y j)
def RefSU (K : PySem.W.Frag) (fnm clm : Nat → Option Addr) (ts : TS) (t : EndsD → StD → HD → Prop) : Prop :=
  ∀ S (σ : St') σD H G D ED, Hel K fnm clm S H G → SlotOk K fnm S H G σ σD → t ED σD G → PostS K fnm clm S H G ED D → ts D σ H
def JSU (fnm clm : Nat → Option Addr) (Y : Cx) (ss : List Stmt) (t : EndsD → StD → HD → Prop) : Prop := ∃ ts, PSs Y ss ts ∧ RefSU Y.K fnm clm ts t
theorem noPX {K : PySem.W.Frag} {σ : St'} {S : Addr → Option Bool} {H : Hp} {G : HD} : PostX K fnm clm W0 σ S H G fun _ _ => False := fun _ _ _ _ _ _ _ _ z => z.elim
theorem jsu_nil : JSU fnm clm Y [] (wSU Γ .n) := ⟨_, pss_nil, fun S σ σD H G D ED R sl h hP => hP.nx σ σD S H G .refl R sl h⟩
theorem jsu_set (k : SuOk C fnm clm Γ N sc Y) {i : Nat} {x : Str} {px pos : Pos} {e : Expr} {ee : E} {ss : List Stmt} {r : SU} (hi : N[i]? = some x) (hx : locB sc x = true) (hs : isComp e = false) (he : JE fnm clm Y W0 e (wE Γ ee)) (hr : JSU fnm clm Y ss (wSU Γ r)) :
    JSU fnm clm Y (.Assign [.Name x px] e pos :: ss) (wSU Γ (.set i ee r)) := by
  obtain ⟨_, ta, pa, ra⟩ := he
  obtain ⟨ts, ps, rs⟩ := hr
  have hl : L2.Loc Y.env.scope x := by
    rw [k.hsc]
    unfold locB at hx
    unfold L2.Loc
    split at hx <;> simp_all
  refine ⟨_, pss_cons (ps_set (by rw [k.hN]; exact k.nd) (by rw [k.hN]; exact hi) hl pa (swap_no hs _ _ _) (.inl (k.fnT x))) ps, fun S σ σD H G D ED R sl h hP => ?_⟩
  refine ra S σ σD H G _ _ _ R sl h (fun v S1 H1 d G1 st1 R1 r1 h1 => ?_) noPX
  exact rs S1 _ _ H1 G1 D ED R1 ((sl.step R st1).set r1 i) h1 (hP.step st1)
theorem jsu_ret {e : Expr} {pos : Pos} {ee : E} (he : JE fnm clm Y W0 e (wE Γ ee)) : JSU fnm clm Y [.Return (some e) pos] (wSU Γ (.ret ee)) := by
  obtain ⟨_, ta, pa, ra⟩ := he
  exact ⟨_, pss_one (ps_ret pa), fun S σ σD H G D ED R sl h hP => ra S σ σD H G _ _ _ R sl h hP.rt noPX⟩
theorem jsu_ifr {t e : Expr} {pos p2 : Pos} {et : T} {ee : E} {ss : List Stmt} {r : SU} (ht : JT fnm clm Y W0 t (wT Γ et)) (he : JE fnm clm Y W0 e (wE Γ ee)) (hr : JSU fnm clm Y ss (wSU Γ r)) :
    JSU fnm clm Y (.If t [.Return (some e) p2] [] pos :: ss) (wSU Γ (.ifr et ee r)) := by
  obtain ⟨tt, pt, rt⟩ := ht
  obtain ⟨_, ta, pa, ra⟩ := he
  obtain ⟨ts, ps, rs⟩ := hr
  refine ⟨_, pss_cons (ps_if pt (pss_one (ps_ret pa)) pss_nil) ps, fun S σ σD H G D ED R sl h hP => ?_⟩
  refine rt S σ σD H G _ _ _ R sl h (fun c S1 H1 G1 st1 R1 h1 => ?_) noPX
  cases c with
  | true => exact ra S1 σ σD H1 G1 _ _ _ R1 (sl.step R st1) h1 (hP.rt.step st1) noPX
  | false => exact rs S1 σ σD H1 G1 D ED R1 (sl.step R st1) h1 (hP.step st1)
theorem visU (k : SuOk C fnm clm Γ N sc Y) {x : Str} (hv : visB sc x = true) : Vis Y.env.scope x := by
  rw [k.hsc]
  unfold visB at hv
  unfold Vis
  split at hv <;> simp_all
theorem glU (k : SuOk C fnm clm Γ N sc Y) {x : Str} (h : glB sc x = true) : Gl Y x := by
  show Y.env.scope.names.lookup x = _
  rw [k.hsc]
  unfold glB at h
  split at h <;> simp_all
theorem jeu_var (k : SuOk C fnm clm Γ N sc Y) {i : Nat} {x : Str} {pos : Pos} (hi : N[i]? = some x) (hv : visB sc x = true) (hx : nameOk x = true) : JE fnm clm Y W (.Name x pos) (wE Γ (.var i)) := by
  obtain ⟨h1, h2, h3⟩ := name_debug hx
  refine ⟨rfl, _, pe_var (by rw [k.hN]; exact hi) (visU k hv) h1 h2, fun S σ σD H G Q QD XD R sl h hQ hX => ?_⟩
  obtain ⟨d, e, h⟩ := ok_of (show ok (σD.getD i none) fun d => QD d G from h)
  obtain ⟨_, v, e1, e2⟩ := slot_get sl e
  exact ⟨v, e1, hQ.here R e2 h⟩
theorem jeu_cmp (k : SuOk C fnm clm Γ N sc Y) {o : COp} {op : CmpOp} {a b : Expr} {pos : Pos} {ea eb : E} (ho : copB o op = true) (hm : behindInMarks op b = false) (ha : JE fnm clm Y W a (wE Γ ea)) (hb : JE fnm clm Y W b (wE Γ eb)) :
    JE fnm clm Y W (.Compare a [op] [b] pos) (wE Γ (.cmp o ea eb)) := by
  obtain ⟨r, h1, h2⟩ := cmp_ok (fnm := fnm) (clm := clm) (X := Y) k.hu ho
  obtain ⟨_, ta, pa, ra⟩ := ha
  obtain ⟨_, tb, pb, rb⟩ := hb
  refine ⟨rfl, _, pe_cmpR h1 pa pb hm, fun S σ σD H G Q QD XD R sl h hQ hX => ?_⟩
  exact ref2 ra rb R sl h (fun v v' S' H' d d' G' st R' r1 r2 h' => h2 v v' d d' S' H' G' Q QD R' r1 r2 h' (hQ.step st)) hX
theorem jeu_int (k : SuOk C fnm clm Γ N sc Y) {z : Bool} {a : Expr} {p pos : Pos} {ea : Es} (hg : Gl Y "int") (ha : JA fnm clm Y W [a] (wEs Γ ea)) : JE fnm clm Y W (.Call (.Name "int" p) [a] [] pos) (wE Γ (.bf z .int ea)) := by
  obtain ⟨ss, ta, pa, ra⟩ := ha
  obtain ⟨r, h1, h2⟩ := bf_int (fnm := fnm) (clm := clm) (X := Y)
  obtain ⟨b1, b2, b3⟩ := bf_names .int
  obtain ⟨n1, n2, n3⟩ := name_debug b2
  exact ⟨rfl, _, pe_callTy h1 hg (k.blt _ (by decide +kernel)) b3 pa n3 n1 (star_no (ss a List.mem_cons_self) _ _) rfl, fun S σ σD H G Q QD XD R sl h hQ hX =>
    ra S σ σD H G _ _ XD R sl h (fun vs S1 H1 ds G1 hl st1 R1 r1 h1 => h2 z vs ds S1 H1 G1 Q QD R1 r1 h1 (hQ.step st1)) hX⟩
theorem jeu_isc (k : SuOk C fnm clm Γ N sc Y) {i : Nat} {c : Option Nat} {n x : Str} {p p1 p2 pos : Pos} (hg : Gl Y "isinstance") (hi : N[i]? = some n) (hv : visB sc n = true) (hn : nameOk n = true) (hx : Gl Y x)
    (hc : match c with | none => x = "ValueError" | some c => C.cls[c]? = some x ∧ nameOk x = true) : JE fnm clm Y W (.Call (.Name "isinstance" p) [.Name n p1, .Name x p2] [] pos) (wE Γ (.isc i c)) := by
  obtain ⟨a, y, cy, hxc, hy, call, kv, ko⟩ := k.isi
  obtain ⟨m1, m2, m3⟩ := name_debug hn
  have pn : PE Y (.Name n p1) (tVar i) := pe_var (by rw [k.hN]; exact hi) (visU k hv) m1 m2
  obtain ⟨cv, u, pt, ru, kit⟩ : ∃ (cv : V) (u : Value), PE Y (.Name x p2) (tC cv) ∧ (∀ w, RelV cv w → w = u) ∧ PySem.W.kitOne Y.K (.ref cy) u = some (Γ.isb y c) := by
    cases c with
    | none =>
      obtain rfl : x = "ValueError" := hc
      exact ⟨.ty "ValueError", .type "ValueError", pe_bltn hx (k.blt _ (by decide +kernel)) (by decide +kernel) rfl, fun w r => r, kv⟩
    | some c =>
      obtain ⟨d, h1, h2⟩ := k.cls c x hc.1
      exact ⟨.ref d, .ref d, pe_glob hx h2 rfl (name_debug hc.2).1, fun w r => r, ko c d h1⟩
  refine ⟨rfl, _, pe_callB call hg (k.blt _ (by decide +kernel)) (by decide +kernel) (pa_cons pn (pa_cons pt pa_nil)), fun S σ σD H G Q QD XD R sl h hQ hX => ?_⟩
  have h : σD.getD i none = some (.ref a) ∧ QD (.bl (Γ.isb y c)) G := by
    have h : (match Γ.xc with | some (a, y) => σD.getD i none = some (D.ref a) ∧ QD (.bl (Γ.isb y c)) G | none => False) := h
    rw [hxc] at h
    exact h
  obtain ⟨_, v, e1, e2⟩ := slot_get sl h.1
  cases dat_ref e2
  exact ⟨_, e1, cv, u, _, rfl, ru, kit, hQ.here R (.bl _) h.2⟩
/-! what matches -/
mutual
theorem sU (k : SuOk C fnm clm Γ N sc Y) : ∀ (e : E) (x : Expr), mU C N e sc x = true → JE fnm clm Y W x (wE Γ e)
  | .var i, x, h => by
    unfold mU at h
    split at h
    · simp only [Bool.and_eq_true, decide_eq_true_eq] at h
      exact jeu_var k h.1.1 h.1.2 h.2
    · cases h
  | .con d, x, h => by
    unfold mU at h
    split at h
    · exact je_con (con_by h)
    · cases h
  | .nt a, x, h => by
    unfold mU at h
    split at h
    · exact je_nt (sU k a _ h)
    · cases h
  | .boo b es, x, h => by
    unfold mU at h
    split at h
    · simp only [Bool.and_eq_true] at h
      rw [bop_by h.1]
      exact sUBo k es _ h.2
    · cases h
  | .tup es, x, h => by
    unfold mU at h
    split at h
    · simp only [Bool.and_eq_true, decide_eq_true_eq] at h
      exact je_tup h.1 (sUs k es _ h.2)
    · cases h
  | .cmp o a b, x, h => by
    unfold mU at h
    split at h
    · simp only [Bool.and_eq_true, Bool.not_eq_true'] at h
      exact jeu_cmp k h.1.1.1 h.1.1.2 (sU k a _ h.1.2) (sU k b _ h.2)
    · cases h
  | .isc i c, x, h => by
    unfold mU at h
    split at h
    · simp only [Bool.and_eq_true, decide_eq_true_eq] at h
      obtain ⟨⟨⟨⟨⟨⟨h1, h2⟩, h3⟩, h4⟩, h5⟩, h6⟩, h7⟩ := h
      subst h1
      refine jeu_isc k (glU k h2) h3 h4 h5 (glU k h6) ?_
      cases c with
      | none => exact of_decide_eq_true h7
      | some c => simpa using h7
    · cases h
  | .bf z f es, x, h => by
    unfold mU at h
    split at h
    · simp only [Bool.and_eq_true, decide_eq_true_eq] at h
      obtain ⟨⟨⟨h1, rfl⟩, h2⟩, h3⟩ := h
      cases f <;> first | cases h1 | skip
      exact jeu_int k (glU k h2) (sUs k es _ h3)
    · cases h
  | .glb _, x, h => by unfold mU at h; cases h
  | .bin _ _ _ _, x, h => by unfold mU at h; cases h
  | .neg _, x, h => by unfold mU at h; cases h
  | .chn _ _ _ _ _, x, h => by unfold mU at h; cases h
  | .ife _ _ _, x, h => by unfold mU at h; cases h
  | .lst _ _, x, h => by unfold mU at h; cases h
  | .idx _ _, x, h => by unfold mU at h; cases h
  | .sl _ _ _ _, x, h => by unfold mU at h; cases h
  | .no, x, h => by unfold mU at h; cases h
  | .call _ _, x, h => by unfold mU at h; cases h
  | .isi _ _, x, h => by unfold mU at h; cases h
  | .mt _ _ _, x, h => by unfold mU at h; cases h
  | .lc _ _ _ _ _ _, x, h => by unfold mU at h; cases h
  | .frz _, x, h => by unfold mU at h; cases h
  | .rg1 _ _ _, x, h => by unfold mU at h; cases h
  | .rg2 _ _ _ _, x, h => by unfold mU at h; cases h
  | .dlen _ _ _ _ _ _, x, h => by unfold mU at h; cases h
  | .rep _, x, h => by unfold mU at h; cases h
  | .dix _ _, x, h => by unfold mU at h; cases h
  | .lcl _ _ _ _ _ _, x, h => by unfold mU at h; cases h
  | .fld _ _ _, x, h => by unfold mU at h; cases h
  | .mcl _ _ _ _ _, x, h => by unfold mU at h; cases h
  | .mak _ _ _, x, h => by unfold mU at h; cases h
theorem sUs (k : SuOk C fnm clm Γ N sc Y) : ∀ (es : Es) (xs : List Expr), mUs C N es sc xs = true → JA fnm clm Y W xs (wEs Γ es)
  | .n, xs, h => by
    unfold mUs at h
    cases xs with
    | nil => exact ja_nil
    | cons _ _ => cases h
  | .c e es, xs, h => by
    unfold mUs at h
    split at h
    · simp only [Bool.and_eq_true] at h
      exact ja_cons (sU k e _ h.1) (sUs k es _ h.2)
    · cases h
theorem sUBo (k : SuOk C fnm clm Γ N sc Y) {b : Bool} {pos : Pos} : ∀ (es : Es) (xs : List Expr), mUBo C N es sc xs = true → JE fnm clm Y W (.BoolOp (bopE b) xs pos) (wBo Γ b es)
  | .n, xs, h => by unfold mUBo at h; cases h
  | .c e .n, xs, h => by
    unfold mUBo at h
    split at h
    · exact jb_one (sU k e _ h)
    · cases h
  | .c e (.c e' es), xs, h => by
    unfold mUBo at h
    split at h
    · simp only [Bool.and_eq_true] at h
      exact jb_cons (sU k e _ h.1) (sUBo k (.c e' es) _ h.2)
    · cases h
end
mutual
theorem sUT (k : SuOk C fnm clm Γ N sc Y) : ∀ (t : T) (x : Expr), mUT C N t sc x = true → JT fnm clm Y W x (wT Γ t)
  | .of e, x, h => by
    unfold mUT at h
    simp only [Bool.and_eq_true] at h
    exact jt_of h.1 (sU k e _ h.2)
  | .nt t, x, h => by
    unfold mUT at h
    split at h
    · exact jt_nt (sUT k t _ h)
    · cases h
  | .bo b ts, x, h => by
    unfold mUT at h
    split at h
    · simp only [Bool.and_eq_true] at h
      rw [bop_by h.1]
      exact jt_bo (sUTs k ts _ h.2)
    · cases h
  | .cmp _ _ _, x, h => by unfold mUT at h; cases h
  | .chn _ _ _ _ _, x, h => by unfold mUT at h; cases h
  | .yes, x, h => by unfold mUT at h; cases h
theorem sUTs (k : SuOk C fnm clm Γ N sc Y) {b : Bool} : ∀ (ts : Ts) (xs : List Expr), mUTs C N ts sc xs = true → JTs fnm clm Y W b xs (wTs Γ b ts)
  | .n, xs, h => by unfold mUTs at h; cases h
  | .c e .n, xs, h => by
    unfold mUTs at h
    split at h
    · exact jts_one (sUT k e _ h)
    · cases h
  | .c e (.c e' es), xs, h => by
    unfold mUTs at h
    split at h
    · simp only [Bool.and_eq_true] at h
      exact jts_cons (sUT k e _ h.1) (sUTs k (.c e' es) _ h.2)
    · cases h
end
theorem sSU (k : SuOk C fnm clm Γ N sc Y) : ∀ (h : SU) (ss : List Stmt), mSU C N sc h ss = true → JSU fnm clm Y ss (wSU Γ h)
  | .n, ss, h => by
    unfold mSU at h
    cases ss with
    | nil => exact jsu_nil
    | cons _ _ => cases h
  | .set i e r, ss, h => by
    unfold mSU at h
    split at h
    · simp only [Bool.and_eq_true, decide_eq_true_eq, Bool.not_eq_true'] at h
      obtain ⟨⟨⟨⟨h1, h2⟩, h3⟩, h4⟩, h5⟩ := h
      exact jsu_set k h1 h2 h3 (sU k e _ h4) (sSU k r _ h5)
    · cases h
  | .ret e, ss, h => by
    unfold mSU at h
    split at h
    · exact jsu_ret (sU k e _ h)
    · cases h
  | .ifr t e r, ss, h => by
    unfold mSU at h
    split at h
    · simp only [Bool.and_eq_true] at h
      exact jsu_ifr (sUT k t _ h.1.1) (sU k e _ h.1.2) (sSU k r _ h.2)
    · cases h
/-! ### the statement -/
/-- a try's body, read in whatever context it stands -/
def tryB (K : PySem.W.Frag) (fnm clm : Nat → Option Addr) (t : EndsD → StD → HD → Prop) : WX → TS := fun W D σ H => ∃ S σD G ED, Hel K fnm clm S H G ∧ SlotOk K fnm S H G σ σD ∧ t ED σD G ∧ PostS K fnm clm S H G ED D ∧ PostXS K fnm clm W S H G ED.ex
/-- its suite, for an exception of a class of ours -/
def tryS (K : PySem.W.Frag) (fnm clm : Nat → Option Addr) (t : Addr → Nat → EndsD → StD → HD → Prop) : Addr → Value → Option Addr → TS := fun a cls d D σ H =>
  ∃ y c S σD G ED, cls = .ref c ∧ d = none ∧ clm y = some c ∧ Hel K fnm clm S H G ∧ SlotOk K fnm S H G σ σD ∧ t a y ED σD G ∧ PostS K fnm clm S H G ED D
theorem suite_ok (k : SOk C fnm clm Γ N sc X W) {h : SU} {b₀ : Stmt} {suite : List Stmt} (hm : mSU C N sc h (b₀ :: suite) = true) (a : Addr) (oe : Obj) (cls : Value) (d : Option Addr) (pn : List (Addr × Obj)) (hz : Zc cls d oe) (hf : ∃ vs, oe.data = .fields vs) :
    PSs (X.suite a ((a, oe) :: pn)) (b₀ :: suite) (tryS X.K fnm clm (fun a y => wSU { Γ with xc := some (a, y) } h) a cls d) := by
  refine ⟨fun pins s σ H D I ⟨y, c, S, σD, G, ED, e1, e2, hc, R, sl, w, hP⟩ => ?_⟩
  subst e1; subst e2
  have su : SuOk C fnm clm { Γ with xc := some (a, y) } N sc (X.suite a ((a, oe) :: pn)) := {
    hN := k.hN, nd := k.nd, hsc := k.hsc, fnT := k.fnT, hu := k.toCOk.hu, blt := k.blt
    cls := fun i x e => by
      obtain ⟨c, h1, h2, _⟩ := k.cls i x e
      exact ⟨c, h1, h2⟩
    isi := by
      obtain ⟨q1, q2, q3⟩ := k.isx y c hc
      exact ⟨a, y, c, rfl, hc, call_isE q1 hz hf, q2, q3⟩ }
  obtain ⟨ts, ps, rs⟩ := sSU su h _ hm
  exact ps.run pins s σ H D I (rs S σ σD H G D ED R sl w hP)
theorem ends_off {K : PySem.W.Frag} {S : Addr → Option Bool} {H : Hp} {G : HD} {ED : EndsD} {D : Ends} {i : Nat} (hP : PostS K fnm clm S H G ED D) :
    PostS K fnm clm S H G (offD (some i) ED) { nx := fun σ' H' => D.nx (σ'.set i none) H', rt := D.rt, bk := fun σ' H' => D.bk (σ'.set i none) H', ct := fun σ' H' => D.ct (σ'.set i none) H' } := by
  have off : ∀ {S' H' G' σ' σD'}, SlotOk K fnm S' H' G' σ' σD' → SlotOk K fnm S' H' G' (σ'.set i none) (σD'.set i none) := fun {S' H' G' σ' σD'} sl => sl.wipe1 i
  exact ⟨fun σ' σD' S' H' G' st R sl q => hP.nx _ _ S' H' G' st R (off sl) q, fun σ' σD' S' H' G' st R sl q => hP.bk _ _ S' H' G' st R (off sl) q, fun σ' σD' S' H' G' st R sl q => hP.ct _ _ S' H' G' st R (off sl) q, hP.rt⟩
theorem js_tri (k : SOk C fnm clm Γ N sc X W) {body suite : List Stmt} {b₀ : Stmt} {x : Str} {xi : Nat} {nm : Option Str} {n : Option Nat} {np pos pos' : Pos} {eb : Ss} {h : SU} (hi : C.cls[xi]? = some x) (hx : nameOk x = true) (hg : Gl X x)
    (hb : ∀ (pn : List (Addr × Obj)) (xe : Value → Shared → Prop) (W' : WX), SOk C fnm clm Γ N sc (X.tr pn xe) W' → JSs fnm clm (X.tr pn xe) W' body (wSs Γ eb)) (hm : mSU C N sc h (b₀ :: suite) = true)
    (hn : match n, nm with | none, none => True | some i, some z => N[i]? = some z ∧ sc.names.lookup z = some .local | _, _ => False) :
    JS fnm clm X W (.Try body [.ExceptHandler (some (.Name x np)) nm (b₀ :: suite) pos'] [] [] pos) (wS Γ (.tri eb xi n h)) := by
  obtain ⟨c, h1, h2, h3, h4, h5⟩ := k.cls xi x hi
  have nms : Names X x (.ref c) := ⟨hg, (name_debug hx).1, .inl h2⟩
  have body_ok : ∀ (W' : WX) (pn : List (Addr × Obj)) (xe : Value → Shared → Prop), Takes (X.tr pn xe) W' → PassesOwn (model X.prog X.w) X.A X.env xe → PSs (X.tr pn xe) body (tryB X.K fnm clm (wSs Γ eb) W') := fun W' pn xe tk po => by
    have k' : SOk C fnm clm Γ N sc (X.tr pn xe) W' := { hN := k.hN, nd := k.nd, hsc := k.hsc, calm := k.calm, tk := tk, po := po, fnk := k.fnk, blt := k.blt, gls := k.gls, cls := k.cls, grd := k.grd, exm := k.exm, ocs := k.ocs, isx := k.isx, fnT := k.fnT, kindF := k.kindF, stk := k.stk, frm := k.frm }
    obtain ⟨tb, pb, rb⟩ := hb pn xe W' k'
    exact ⟨fun pins s σ H D I ⟨S, σD, G, ED, R, sl, w, hP, hX⟩ => pb.run pins s σ H D I (rb S σ σD H G D ED R sl w hP hX)⟩
  have suite_ := fun a oe cls d pn hz hf => suite_ok (W := W) k hm a oe cls d pn hz hf
  cases n with
  | none =>
    cases nm with
    | some _ => exact hn.elim
    | none =>
      refine ⟨_, ps_try_only k.stk k.frm nms k.tk body_ok suite_, fun S σ σD H G D ED R sl w hP hX => ?_⟩
      refine ⟨S, σD, G, _, R, sl, w, ⟨hP.nx, hP.bk, hP.ct, hP.rt⟩, fun y cy σ' σD' S' H' G' st R' sl' hc q => ?_⟩
      have e := k.exm y xi cy c hc h1
      refine ⟨_, e, fun hb a hn' => ?_, fun hb => ?_⟩
      · simp only [hb] at q
        exact ⟨y, cy, S', σD', G', ED, rfl, rfl, hc, R', sl', q a (R'.free hn').1, hP.step st⟩
      · simp only [hb] at q
        exact hX y cy σ' σD' S' H' G' st R' sl' hc q
  | some i =>
    cases nm with
    | none => exact hn.elim
    | some z =>
      obtain ⟨n1, n2⟩ := hn
      refine ⟨_, ps_try_as k.stk k.frm (by rw [k.hN]; exact k.nd) (by rw [k.hN]; exact n1) (by show X.env.scope.names.lookup z = _; rw [k.hsc]; exact n2) nms k.tk body_ok suite_, fun S σ σD H G D ED R sl w hP hX => ?_⟩
      refine ⟨S, σD, G, _, R, sl, w, ⟨hP.nx, hP.bk, hP.ct, hP.rt⟩, fun y cy σ' σD' S' H' G' st R' sl' hc q => ?_⟩
      have e := k.exm y xi cy c hc h1
      refine ⟨_, e, fun hb a hn' => ?_, fun hb => ?_⟩
      · simp only [hb] at q
        exact ⟨y, cy, S', σD'.set i (some (.ref a)), G', offD (some i) ED, rfl, rfl, hc, R', sl'.set (.ref a) i, q a (R'.free hn').1, ends_off (hP.step st)⟩
      · simp only [hb] at q
        exact hX y cy σ' σD' S' H' G' st R' sl' hc q
end
end DL

namespace DL
open PySem PySem.Spec PyProof.Rows L2
section
variable {C : Cfg} {fnm clm : Nat → Option Addr} {Γ : Gam} {N : List Str}
theorem swap_lc {elt : Expr} {gens : List Comprehension} {scope : Scope} {p px : Pos} {x : Str} {l : Nat} {env : Env} (hk : env.scope.kind = .function) :
    swapsWith (.ListComp elt gens scope p) (some (.Name x px)) l env = pure (swB env.scope scope x px p) := by
  have hb : (env.blockKind == ScopeKind.function) = true := by
    unfold Env.blockKind
    rw [hk]
    rfl
  have hl : (env.kindOf x == some NameKind.local) = (match env.scope.names.lookup x with | some .local => true | _ => false) := by
    unfold Env.kindOf
    cases env.scope.names.lookup x with
    | none => rfl
    | some kd => cases kd <;> rfl
  show (pure (env.blockKind == .function && env.kindOf x == some .local && px.line == p.line && !(scope.names.any fun (n, k) => n == x && (k == .local || k == .cell))) : Sem Bool) = _
  unfold swB
  rw [hb, hl, Bool.true_and]
  all_goals rfl
theorem js_setLc {sc : Scope} {X : Cx} {W : WX} (k : SOk C fnm clm Γ N sc X W) {i : Nat} {y : Str} {z : Bool} {elt tg iter : Expr} {ifs : List Expr} {scope : Scope} {own : List (Str × Nat)} {py pos spos : Pos} {e : E} {g : Tgt} {it : I} {c : T}
    (hy : X.N[i]? = some y) (hyl : X.env.scope.names.lookup y = some .local) (hsw : swapsWith (.ListComp elt [⟨tg, iter, ifs, 0⟩] scope pos) (some (.Name y py)) spos.line X.env = pure true)
    (hok : BlkOk N sc scope own) (hset : ∀ elts kk p, iter ≠ .Set elts kk p) (hin : tIn g (own.map (·.2)) = true) (hi : JI fnm clm X W tg iter (wI Γ it))
    (hg : ∀ X', COk C fnm clm Γ N (relS scope sc) X' W0 → (X'.fn = fun x => scope.names.lookup x == some .cell) → X'.K = X.K → JG fnm clm X' tg g)
    (ht : ∀ X', COk C fnm clm Γ N (relS scope sc) X' W0 → X'.K = X.K → (ifs = [] ∧ c = .yes) ∨ ∃ cd, ifs = [cd] ∧ JT fnm clm X' W0 cd (wT Γ c))
    (he : ∀ X', COk C fnm clm Γ N (relS scope sc) X' W0 → X'.K = X.K → JE fnm clm X' W0 elt (wE Γ e)) :
    JS fnm clm X W (.Assign [.Name y py] (.ListComp elt [⟨tg, iter, ifs, 0⟩] scope pos) spos) (wS Γ (.set i (.lc z e g it c own))) := by
  obtain ⟨wi, pi, ri⟩ := hi
  refine ⟨_, ps_setLc (g := canG X.K fnm clm g) (tt := canT X.K fnm clm W0 (wT Γ c)) (te := canE X.K fnm clm W0 (wE Γ e)) k.calm (by rw [k.hN]; exact k.nd) hy hyl hsw pi (by rw [k.hN, k.hsc]; exact hok) (fun s H C' cl fp => (hg _ (k.blk s H scope cl C' fp) rfl rfl).can)
    (fun s H C' cl fp => ?_) (fun s H C' cl fp => (he _ (k.blk s H scope cl C' fp) rfl).can) ?_, fun S σ σD H G D ED R sl h hP hX => ?_⟩
  · rcases ht _ (k.blk s H scope cl C' fp) rfl with ⟨rfl, rfl⟩ | ⟨cd, rfl, h⟩
    · refine ⟨fun pins s σ H Q I ⟨S, σD, G, QD, XD, R, sl, h, hQ, hX⟩ => pts_nil.run pins s σ H Q I (hQ true S H G .refl R h)⟩
    · exact pts_one h.can
  · intro x
    cases iter <;> first | rfl | exact absurd rfl (hset _ _ _)
  · refine lc_ref (z := z) ri hin S σ σD H G _ _ _ R sl h (fun v S1 H1 d G1 st1 R1 r1 h1 => ?_) (hX.at R sl)
    exact hP.nx _ _ S1 H1 G1 st1 R1 ((sl.step R st1).set r1 i) h1
mutual
theorem sS {sc : Scope} {X : Cx} {W : WX} (k : SOk C fnm clm Γ N sc X W) : ∀ (s : S) (x : Stmt), mS C N sc s x = true → JS fnm clm X W x (wS Γ s)
  | .set i e, x, h => by
    unfold mS at h
    split at h
    · rename_i y px v pos
      simp only [Bool.and_eq_true, decide_eq_true_eq] at h
      obtain ⟨⟨⟨h1, h2⟩, h3⟩, h4⟩ := h
      split at h4
      · rename_i elt gen scope p
        have sw := swap_lc (elt := elt) (gens := [gen]) (scope := scope) (p := p) (px := px) (x := y) (l := pos.line) (env := X.env) (by rw [k.hsc]; exact k.kindF)
        cases hs : swB X.env.scope scope y px p with
        | false => rw [hs] at sw; exact js_set k h1 h2 sw (sE e k.toCOk _ h3)
        | true =>
          rw [hs] at sw
          rw [k.hsc] at hs
          rw [hs] at h4
          have hyl : X.env.scope.names.lookup y = some .local := by
            rw [k.hsc]
            unfold swB at hs
            simp only [Bool.and_eq_true] at hs
            have := hs.1.1
            split at this
            · assumption
            · cases this
          cases e <;> first | exact absurd (show false = true from h4) Bool.false_ne_true | skip
          rename_i z e g it c own
          obtain ⟨tg, iter, ifs, a⟩ := gen
          have h3 : (decide (a = 0) && blkC N sc scope own && notSet iter && tIn g (own.map (·.2)) && mG N scope g tg && mI C N it sc tg iter && mC C N c (relS scope sc) ifs && mE C N e (relS scope sc) elt) = true := h3
          · simp only [Bool.and_eq_true, decide_eq_true_eq] at h3
            obtain ⟨⟨⟨⟨⟨⟨⟨h0, m1⟩, m2⟩, m3⟩, m4⟩, m5⟩, m6⟩, m7⟩ := h3
            subst h0
            exact js_setLc k (by rw [k.hN]; exact h1) hyl sw (blkOk_by m1) (set_by m2) m3 (sI it k.toCOk _ _ m5) (fun X' k' hf _ => (sG k' (comp_loc k' hf) g tg m4).1)
              (fun X' k' _ => by
                rcases mC_by m6 with q | ⟨cd, q, r⟩
                · exact .inl q
                · exact .inr ⟨cd, q, sT c k' _ r⟩) (fun X' k' _ => sE e k' _ m7)
      · simp only [Bool.not_eq_true'] at h4
        exact js_set k h1 h2 (swap_no h4 _ _ _) (sE e k.toCOk _ h3)
    · cases h
  | .asg g e, x, h => by
    unfold mS at h
    split at h
    · simp only [Bool.and_eq_true, Bool.not_eq_true'] at h
      obtain ⟨j1, j2⟩ := sG k.toCOk (scope := sc) (fun x hx => ⟨loc_of k.toCOk hx, .inl (k.fnT x)⟩) g _ h.1.2
      exact js_asg k j2 h.1.1.1 h.1.1.2 j1 (sE e k.toCOk _ h.2)
    · cases h
  | .setI o i e, x, h => by
    unfold mS at h
    split at h
    · simp only [Bool.and_eq_true, Bool.not_eq_true'] at h
      obtain ⟨⟨⟨⟨h1, h2⟩, h4⟩, h5⟩, h6⟩ := h
      exact js_setI k h1 h2 (sE o k.toCOk _ h4) (sE i k.toCOk _ h5) (sE e k.toCOk _ h6)
    · cases h
  | .setF c o f e, x, h => by
    unfold mS at h
    split at h
    · simp only [Bool.and_eq_true, decide_eq_true_eq, Bool.not_eq_true'] at h
      obtain ⟨⟨⟨⟨rfl, h2⟩, h3⟩, h4⟩, h5⟩ := h
      split at h2
      · rename_i oc q
        exact js_setF k q (of_decide_eq_true h2) h3 (sE o k.toCOk _ h4) (sE e k.toCOk _ h5)
      · cases h2
    · cases h
  | .augF c o f e, x, h => by
    unfold mS at h
    split at h
    · simp only [Bool.and_eq_true, decide_eq_true_eq] at h
      obtain ⟨⟨⟨rfl, h2⟩, h4⟩, h5⟩ := h
      split at h2
      · rename_i oc q
        exact js_augF k q (of_decide_eq_true h2) (sE o k.toCOk _ h4) (sE e k.toCOk _ h5)
      · cases h2
    · cases h
  | .aug i o e, x, h => by
    unfold mS at h
    split at h
    · simp only [Bool.and_eq_true, decide_eq_true_eq] at h
      obtain ⟨⟨⟨h1, h2⟩, h3⟩, h4⟩ := h
      exact js_aug k h1 h2 h3 (sE e k.toCOk _ h4)
    · cases h
  | .ex e, x, h => by
    unfold mS at h
    split at h
    · simp only [Bool.and_eq_true, Bool.not_eq_true'] at h
      exact js_ex k h.1 (sE e k.toCOk _ h.2)
    · cases h
  | .ret e, x, h => by
    unfold mS at h
    split at h
    · exact js_ret k (sE e k.toCOk _ h)
    · cases h
  | .retN, x, h => by
    unfold mS at h
    split at h
    · exact js_retN
    · cases h
  | .ite t a b, x, h => by
    unfold mS at h
    split at h
    · simp only [Bool.and_eq_true] at h
      exact js_ite (sT t k.toCOk _ h.1.1) (sSs k a _ h.1.2) (sSs k b _ h.2)
    · cases h
  | .for_ g it b, x, h => by
    unfold mS at h
    split at h
    · simp only [Bool.and_eq_true] at h
      obtain ⟨⟨⟨h1, h2⟩, h3⟩, h4⟩ := h
      exact js_for k (set_by h1) (sI it k.toCOk _ _ h3) (sG k.toCOk (scope := sc) (fun x hx => ⟨loc_of k.toCOk hx, .inl (k.fnT x)⟩) g _ h2).1 (sSs k b _ h4)
    · cases h
  | .whl t b, x, h => by
    unfold mS at h
    split at h
    · simp only [Bool.and_eq_true] at h
      exact js_whl k (sT t k.toCOk _ h.1) (sSs k b _ h.2)
    · cases h
  | .brk, x, h => by
    unfold mS at h
    split at h
    · exact js_brk
    · cases h
  | .cnt, x, h => by
    unfold mS at h
    split at h
    · exact js_cnt
    · cases h
  | .pas, x, h => by
    unfold mS at h
    split at h
    · exact js_pas
    · cases h
  | .rai i, x, h => by
    unfold mS at h
    split at h
    · simp only [Bool.and_eq_true, decide_eq_true_eq] at h
      exact js_rai k h.1.1 h.1.2 (gl_by k.toCOk h.2)
    · cases h
  | .fz _, x, h => by
    unfold mS at h
    cases h
  | .tri b xi n hh, x, h => by
    unfold mS at h
    split at h
    · simp only [Bool.and_eq_true, decide_eq_true_eq] at h
      obtain ⟨⟨⟨⟨⟨h1, h2⟩, h3⟩, h4⟩, h5⟩, h6⟩ := h
      refine js_tri k h1 h2 (gl_by k.toCOk h3) (fun pn xe W' k' => sSs k' b _ h4) h5 ?_
      split at h6
      · trivial
      · simp only [Bool.and_eq_true, decide_eq_true_eq] at h6
        refine ⟨h6.1, ?_⟩
        have := h6.2
        split at this
        · assumption
        · cases this
      · cases h6
    · cases h
theorem sSs {sc : Scope} {X : Cx} {W : WX} (k : SOk C fnm clm Γ N sc X W) : ∀ (s : Ss) (x : List Stmt), mSs C N sc s x = true → JSs fnm clm X W x (wSs Γ s)
  | .n, x, h => by
    unfold mSs at h
    cases x with
    | nil => exact jss_nil
    | cons _ _ => cases h
  | .c (.fz i) es, x, h => by
    unfold mSs at h
    exact jss_fz (sSs k es x h)
  | .c (.set i e) es, x, h => by
    unfold mSs at h
    split at h
    · simp only [Bool.and_eq_true] at h; exact jss_cons (sS k _ _ h.1) (sSs k es _ h.2)
    · cases h
  | .c (.asg g e) es, x, h => by
    unfold mSs at h
    split at h
    · simp only [Bool.and_eq_true] at h; exact jss_cons (sS k _ _ h.1) (sSs k es _ h.2)
    · cases h
  | .c (.setI o i e) es, x, h => by
    unfold mSs at h
    split at h
    · simp only [Bool.and_eq_true] at h; exact jss_cons (sS k _ _ h.1) (sSs k es _ h.2)
    · cases h
  | .c (.augF c o f e) es, x, h => by
    unfold mSs at h
    split at h
    · simp only [Bool.and_eq_true] at h; exact jss_cons (sS k _ _ h.1) (sSs k es _ h.2)
    · cases h
  | .c (.setF c o f e) es, x, h => by
    unfold mSs at h
    split at h
    · simp only [Bool.and_eq_true] at h; exact jss_cons (sS k _ _ h.1) (sSs k es _ h.2)
    · cases h
  | .c (.aug i o e) es, x, h => by
    unfold mSs at h
    split at h
    · simp only [Bool.and_eq_true] at h; exact jss_cons (sS k _ _ h.1) (sSs k es _ h.2)
    · cases h
  | .c (.ex e) es, x, h => by
    unfold mSs at h
    split at h
    · simp only [Bool.and_eq_true] at h; exact jss_cons (sS k _ _ h.1) (sSs k es _ h.2)
    · cases h
  | .c (.ret e) es, x, h => by
    unfold mSs at h
    split at h
    · simp only [Bool.and_eq_true] at h; exact jss_cons (sS k _ _ h.1) (sSs k es _ h.2)
    · cases h
  | .c .retN es, x, h => by
    unfold mSs at h
    split at h
    · simp only [Bool.and_eq_true] at h; exact jss_cons (sS k _ _ h.1) (sSs k es _ h.2)
    · cases h
  | .c (.ite t a b) es, x, h => by
    unfold mSs at h
    split at h
    · simp only [Bool.and_eq_true] at h; exact jss_cons (sS k _ _ h.1) (sSs k es _ h.2)
    · cases h
  | .c (.for_ g it b) es, x, h => by
    unfold mSs at h
    split at h
    · simp only [Bool.and_eq_true] at h; exact jss_cons (sS k _ _ h.1) (sSs k es _ h.2)
    · cases h
  | .c (.whl t b) es, x, h => by
    unfold mSs at h
    split at h
    · simp only [Bool.and_eq_true] at h; exact jss_cons (sS k _ _ h.1) (sSs k es _ h.2)
    · cases h
  | .c .brk es, x, h => by
    unfold mSs at h
    split at h
    · simp only [Bool.and_eq_true] at h; exact jss_cons (sS k _ _ h.1) (sSs k es _ h.2)
    · cases h
  | .c .cnt es, x, h => by
    unfold mSs at h
    split at h
    · simp only [Bool.and_eq_true] at h; exact jss_cons (sS k _ _ h.1) (sSs k es _ h.2)
    · cases h
  | .c .pas es, x, h => by
    unfold mSs at h
    split at h
    · simp only [Bool.and_eq_true] at h; exact jss_cons (sS k _ _ h.1) (sSs k es _ h.2)
    · cases h
  | .c (.tri b xi n hh) es, x, h => by
    unfold mSs at h
    split at h
    · simp only [Bool.and_eq_true] at h; exact jss_cons (sS k _ _ h.1) (sSs k es _ h.2)
    · cases h
  | .c (.rai i) es, x, h => by
    unfold mSs at h
    split at h
    · simp only [Bool.and_eq_true] at h; exact jss_cons (sS k _ _ h.1) (sSs k es _ h.2)
    · cases h
end
end
end DL

namespace DL
open PySem PySem.Spec PyProof.Rows L2
/-! ## 12R. One call of a def, told by its body -/
section
variable {CX : CXT} {P : Program} {w : World} {K : PySem.W.Frag} {mg : Str → Option Value} {base : Heap}
/-- one call of a def, told by its body -/
theorem run_at {x qual : Str} {pars : Arguments} {bd : List Stmt} {scp : Scope} {dv : List V} {kw : List (Str × V)} {f : Addr} {fd : FuncData} {N ps : List Str} {k : Nat} {A : Around} {out : List Env} {s : Shared} {H : Hp} {args : Args} {us : List Value} {vs : List V} {Q : VK} {E : XK}
    (F : FunD K x qual pars bd scp dv kw f fd) (S : FnScope N ps scp) (room : Room (k + 1) A) (z : Env0 P w K mg base A out s H) (bind : BindsTo s fd args (ps.zip us)) (r : Vals vs us) (lv : vs.length = ps.length)
    (go : ∀ cdv : Value, ∃ t, PSs (cxOf CX P w K mg base N qual scp f cdv A out s H E) bd t ∧ t { nx := fun _ G => Q .non G, rt := Q } (start N vs) H) :
    codeAny (model P w) A (.call (.ref f) args) (CR CX out P w H s Q E) s := by
  obtain ⟨oc, od, dV, kV, doc, pm, an, cdv, ct, osl, rfl, lk, code, _, _⟩ := F.ex
  have below : ∀ b o, base.get? b = some o → s.heap.get? b = some o := fun b o e => (z.bs b o e).1
  have inS : K.In s.heap := z.mod.kin.keeps below
  refine codeAny_call_function room.depth (inS _ _ lk) rfl S.co S.gen rfl (PySem.W.codeRec_of inS code) (bind _ _ _ _ ?_)
  refine wpAny_newFunctionEnv_cells S.kind (fun p hp => ?_) fun env ee s1 made => ?_
  · rcases S.par p.1 (List.of_mem_zip (a := p.1) (b := p.2) hp).1 with q | q
    · exact .inl q
    · exact .inr ⟨q, PySem.W.cellsFrom_some _ _ _ (.inl q)⟩
  · cases ee
    refine ⟨(z.mod.nolimit.keeps below).keeps made.toInCall.keep, codeAny_func ?_⟩
    obtain ⟨t, walk, h⟩ := go cdv
    have J0 := inv_start (CX := CX) (E := E) S room.hd z lv r made
    refine wpAny_mono (walk.run [] s1 (start N vs) H _ J0 h) (fun fl s2 y => ?_) fun _ _ y => y
    have back : ∀ {σ : L2.St} {G : Hp} {v : V} {u : Value}, Inv (cxOf CX P w K mg base N qual scp f cdv A out s H E) [] σ G s2 → RelV v u → Q v G → CE out P w H s Q u s2 :=
      fun J rv q => ⟨_, _, J.os, J.bare, J.base, J.hok, rv, q⟩
    match fl, y with
    | .ret _, ⟨_, _, _, J, rv, q⟩ => exact back J rv q
    | .next, ⟨_, _, J, q⟩ => exact back (v := V.non) (u := Value.none) J rfl q
    | .brk, ⟨_, _, _, q⟩ => exact False.elim q
    | .cont, ⟨_, _, _, q⟩ => exact False.elim q
end
end DL

namespace DL
open PySem PySem.Spec PyProof.Rows L2
/-! ## 13. Defs -/
def startD (n : Nat) (ds : List D) : StD := ds.map some ++ List.replicate (n - ds.length) none
/-- a def: its names, its body in the short language -/
structure Df where
  x : Str
  ps : List Str
  N : List Str
  st : Stmt
  b : Ss
/-- a method's x is class.name: its class, its name there -/
def Df.m (d : Df) : Option (Str × Str) := match dotted d.x with
  | false => none
  | true => some (⟨(d.x.cps.toList.takeWhile fun c => c != 46).toArray⟩, ⟨((d.x.cps.toList.dropWhile fun c => c != 46).drop 1).toArray⟩)
def Df.nm (d : Df) : Str := match d.m with | none => d.x | some p => p.2
def Df.at_ (d : Df) : Str × Option Str := match d.m with | none => (d.x, none) | some p => (p.1, some p.2)
/-- what the world holds besides defs -/
structure Wd (P : Program) (w : World) (K : PySem.W.Frag) (mg : Str → Option Value) (clm : Nat → Option Addr) (gl : Nat → D) (sb : Nat → Nat → Bool) (gls cls : List Str) : Prop where
  exm : ∀ i j c d, clm i = some c → clm j = some d → PySem.W.exmOne K (.ref c) (.ref d) = some (sb i j)
  isx : ∀ i c, clm i = some c → L2.ExcC K c ∧ PySem.W.kitOne K (.ref c) (.type "ValueError") = some true ∧ ∀ j d, clm j = some d → PySem.W.kitOne K (.ref c) (.ref d) = some (sb i j)
  blt : ∀ x ∈ bltNames, mg x = none
  gls : ∀ i x, gls[i]? = some x → ∃ u v, mg x = some u ∧ RelV v u ∧ ∀ fnm S H G, Dat K fnm S H G v (gl i)
  cls : ∀ i x, cls[i]? = some x → ∃ c, clm i = some c ∧ mg x = some (.ref c) ∧ PySem.W.excIn K c He.veBase "ValueError.__new__" = true ∧ PySem.W.keepIn K (.ref c) = true ∧ PySem.W.subIn K (.ref c) (.type "BaseException") = some true ∧ PySem.W.typeIn K (.ref c) = some (.type "type")
section
variable {P : Program} {w : World} {K : PySem.W.Frag} {mg : Str → Option Value} {base : Heap} {fnm clm : Nat → Option Addr} {C : Cfg} {Γ : Gam}
theorem start_ok {S : Addr → Option Bool} {H : Hp} {G : HD} {N : List Str} {vs : List V} {ds : List D} (r : DatAll K fnm S H G vs ds) : SlotOk K fnm S H G (L2.start N vs) (startD N.length ds) := by
  have hl := r.length
  refine ⟨by unfold L2.start startD; simp [hl], fun i d e => ?_⟩
  unfold startD at e
  unfold L2.start
  by_cases h : i < ds.length
  · rw [List.getElem?_append_left (by simpa using h), List.getElem?_map] at e
    obtain ⟨d', e1, e2⟩ := Option.map_eq_some_iff.mp e
    cases e2
    obtain ⟨v, e3, rv⟩ := r.get e1
    refine ⟨v, ?_, rv⟩
    rw [List.getElem?_append_left (by simpa using (List.getElem?_eq_some_iff.mp e3).1), List.getElem?_map, e3]
    rfl
  · rw [List.getElem?_append_right (by simpa using h)] at e
    have := (List.getElem?_eq_some_iff.mp e).2
    simp at this
theorem fn_good (W : Wd P w K mg clm Γ.gl Γ.sb C.gls C.cls) {k : Nat} {d : Df} {f : Addr} {fd : FuncData} {sp : SpD} (F : FunD K d.nm d.x (defArgs d.st) (defBody d.st) (defScope d.st) [] [] f fd) (S : FnScope d.N d.ps (defScope d.st)) (hm : mSs C.no d.N (defScope d.st) d.b (defBody d.st) = true)
    (hoc : ∀ j o, C.ocs[j]? = some o → OcAt K mg fnm j o) (hfn : ∀ base : Heap, K.In base → base.Ns mainGlobals mg → ∀ i x, C.fns[i]? = some x → FnGood P w K mg base fnm clm k i x (Γ.sp i))
    (hsp : ∀ ds G QD XD, ds.length = d.ps.length → sp ds G QD XD → wSs Γ d.b { nx := fun _ H => QD .non H, rt := QD, ex := fun x _ H => XD x H } (startD d.N.length ds) G)
    (hb : K.In base) (hg : base.Ns mainGlobals mg) : FnOk P w K mg base (L2.CX P w) (k + 1) f fd d.ps (lift K fnm clm d.ps.length sp) := by
  refine ⟨fun vs H Q E h => h.1, fun A outer s H args us vs Q E room e0 bind rv ⟨hl, S0, G, ds, QD, XD, R, r, h, hQ, hX⟩ => run_at F S room e0 bind rv hl fun cdv => ?_⟩
  have k0 : SOk C.no fnm clm Γ d.N (defScope d.st) (cxOf (L2.CX P w) P w K mg base d.N d.x (defScope d.st) f cdv A outer s H E) (fun cls d _ H => E cls d H) := {
    hN := rfl, nd := S.nd, hsc := rfl, calm := rfl, tk := takes_of rfl rfl rfl rfl, po := passes_of rfl, fnk := ⟨k, RoomM.of room _, hfn base hb hg⟩, ocs := hoc, blt := W.blt,
    gls := fun i x e => by
      obtain ⟨u, v, h1, h2, h3⟩ := W.gls i x e
      exact ⟨u, v, h1, h2, h3 fnm⟩
    cls := fun i x e => by
      obtain ⟨c, h1, h2, h3, h4, h5, h6⟩ := W.cls i x e
      exact ⟨c, h1, h2, h3, h4, raises_own h5 h6⟩
    grd := fun z => absurd (show false = true from z) (by decide), exm := W.exm, isx := W.isx, fnT := fun _ => rfl, kindF := S.kind, stk := rfl, frm := rfl }
  obtain ⟨t, p, rf⟩ := sSs k0 d.b _ hm
  refine ⟨t, p, rf S0 _ _ H G _ _ R (start_ok r) (hsp ds G QD XD (by rw [← r.length]; exact hl) h) ?_ fun x c σ' σD' S' H' G' st R' sl hc hx => hX x c S' H' G' st R' hc hx⟩
  exact ⟨fun σ' σD' S' H' G' st R' sl h => hQ _ S' H' _ G' st R' .non h, fun _ _ _ _ _ _ _ _ h => h.elim, fun _ _ _ _ _ _ _ _ h => h.elim, hQ⟩
end
end DL

namespace DL
open PySem PySem.Spec PyProof.Rows L2
/-! ## 14. The defs of a world, one behind another -/
/-- does a def's text match? -/
def defC (C : Cfg) (d : Df) : Bool := mSs C.no d.N (defScope d.st) d.b (defBody d.st) && C8.scC d.N d.ps (defScope d.st)
def bot : SpD := fun _ _ _ _ => False
def upS (f : Nat → SpD) (i : Nat) (s : SpD) : Nat → SpD := fun j => bif Nat.beq j i then s else f j
def Gam.up (Γ : Gam) (i : Nat) (s : SpD) : Gam := { Γ with sp := upS Γ.sp i s }
theorem up_same {Γ : Gam} {i : Nat} {s : SpD} : (Γ.up i s).sp i = s := by
  show (bif Nat.beq i i then s else Γ.sp i) = s
  rw [Nat.beq_refl]; rfl
theorem up_ne {Γ : Gam} {i j : Nat} {s : SpD} (h : j ≠ i) : (Γ.up i s).sp j = Γ.sp j := by
  show (bif Nat.beq j i then s else Γ.sp j) = Γ.sp j
  cases e : Nat.beq j i with
  | true => exact absurd (Nat.eq_of_beq_eq_true e) h
  | false => rfl
theorem up_up {Γ : Gam} {i : Nat} {s t : SpD} : (Γ.up i s).up i t = Γ.up i t := by
  show Gam.mk _ _ _ _ = Gam.mk _ _ _ _
  congr 1
  funext j
  show (bif Nat.beq j i then t else (bif Nat.beq j i then s else Γ.sp j)) = (bif Nat.beq j i then t else Γ.sp j)
  cases Nat.beq j i <;> rfl
theorem up_comm {Γ : Gam} {i j : Nat} {s t : SpD} (h : i ≠ j) : (Γ.up i s).up j t = (Γ.up j t).up i s := by
  show Gam.mk _ _ _ _ = Gam.mk _ _ _ _
  congr 1
  funext k
  show (bif Nat.beq k j then t else (bif Nat.beq k i then s else Γ.sp k)) = (bif Nat.beq k i then s else (bif Nat.beq k j then t else Γ.sp k))
  cases e : Nat.beq k j with
  | false => rfl
  | true =>
    cases e2 : Nat.beq k i with
    | false => rfl
    | true => exact absurd ((Nat.eq_of_beq_eq_true e2).symm.trans (Nat.eq_of_beq_eq_true e)) h
/-- a def stands in the world -/
def DfAt (K : PySem.W.Frag) (mg : Str → Option Value) (fnm : Nat → Option Addr) (i : Nat) (d : Df) : Prop :=
  ∃ f fd, fnm i = some f ∧ (dotted d.x = false → mg d.x = some (.ref f)) ∧ Binds K fd d.ps [] ∧ FunD K d.nm d.x (defArgs d.st) (defBody d.st) (defScope d.st) [] [] f fd
def AllOk (P : Program) (w : World) (K : PySem.W.Frag) (mg : Str → Option Value) (fnm clm : Nat → Option Addr) (C : Cfg) (Γ : Gam) (k : Nat) : Prop :=
  (∀ base : Heap, K.In base → base.Ns mainGlobals mg → ∀ i x, C.fns[i]? = some x → FnGood P w K mg base fnm clm k i x (Γ.sp i)) ∧ ∀ j o, C.ocs[j]? = some o → OcAt K mg fnm j o
section
variable {P : Program} {w : World} {K : PySem.W.Frag} {mg : Str → Option Value} {fnm clm : Nat → Option Addr} {C : Cfg} {Γ : Gam} {k : Nat}
theorem all_bot {gl : Nat → D} {sb : Nat → Nat → Bool} (hd : ∀ i x, C.fns[i]? = some x → ∃ d : Df, x = (d.x, d.ps.length) ∧ DfAt K mg fnm i d) (ho : ∀ j o, C.ocs[j]? = some o → OcAt K mg fnm j o) : AllOk P w K mg fnm clm C { sp := fun _ => bot, gl := gl, sb := sb } 0 := by
  refine ⟨fun base hb hg i x e => ?_, ho⟩
  obtain ⟨d, rfl, f, fd, h1, h2, h3, h4⟩ := hd i x e
  exact ⟨f, fd, d.ps, rfl, h1, h2, h4.kp, h3, fun vs H Q E h => h.1, fun _ _ _ _ _ _ _ _ _ _ _ _ _ ⟨_, _, _, _, _, _, _, _, h, _⟩ => h.elim⟩
theorem FnGood.mono {base : Heap} {k' i : Nat} {x : Str × Nat} {sp : SpD} (h : FnGood P w K mg base fnm clm k i x sp) (hk : k ≤ k') : FnGood P w K mg base fnm clm k' i x sp := by
  obtain ⟨f, fd, ps, h1, h2, h3, h4, h5, h6⟩ := h.ex
  exact ⟨f, fd, ps, h1, h2, h3, h4, h5, h6.mono hk⟩
theorem AllOk.mono {k' : Nat} (h : AllOk P w K mg fnm clm C Γ k) (hk : k ≤ k') : AllOk P w K mg fnm clm C Γ k' := ⟨fun base hb hg i x e => (h.1 base hb hg i x e).mono hk, h.2⟩
/-- one def more, by whatever proof -/
theorem all_raw {k' i : Nat} {d : Df} {s : SpD} (h : AllOk P w K mg fnm clm C Γ k) (hk : k ≤ k') (hx : C.fns[i]? = some (d.x, d.ps.length)) (hd : DfAt K mg fnm i d)
    (F : ∀ f fd, FunD K d.nm d.x (defArgs d.st) (defBody d.st) (defScope d.st) [] [] f fd → ∀ base : Heap, K.In base → base.Ns mainGlobals mg → FnOk P w K mg base (L2.CX P w) k' f fd d.ps (lift K fnm clm d.ps.length s)) :
    AllOk P w K mg fnm clm C (Γ.up i s) k' := by
  refine ⟨fun base hb hg j x e => ?_, h.2⟩
  by_cases q : j = i
  · subst q
    rw [hx] at e; cases e
    obtain ⟨f, fd, h1, h2, h3, h4⟩ := hd
    rw [up_same]
    exact ⟨f, fd, d.ps, rfl, h1, h2, h4.kp, h3, F f fd h4 base hb hg⟩
  · rw [up_ne q]
    exact (h.1 base hb hg j x e).mono hk
/-- one def more, by its text -/
theorem all_up {i : Nat} {d : Df} {s : SpD} (h : AllOk P w K mg fnm clm C Γ k) (W : Wd P w K mg clm Γ.gl Γ.sb C.gls C.cls) (hx : C.fns[i]? = some (d.x, d.ps.length)) (hd : DfAt K mg fnm i d) (hm : defC C d = true)
    (hsp : ∀ ds G QD XD, ds.length = d.ps.length → s ds G QD XD → wSs Γ d.b { nx := fun _ H => QD .non H, rt := QD, ex := fun x _ H => XD x H } (startD d.N.length ds) G) :
    AllOk P w K mg fnm clm C (Γ.up i s) (k + 1) := by
  have hm2 : (mSs C.no d.N (defScope d.st) d.b (defBody d.st) && C8.scC d.N d.ps (defScope d.st)) = true := hm
  rw [Bool.and_eq_true] at hm2
  exact all_raw h (Nat.le_succ _) hx hd fun f fd F base hb hg => fn_good (Γ := Γ) W F (C8.fnScope_by hm2.2) hm2.1 h.2 h.1 hsp hb hg
/-- a def that calls itself: s n, what it promises with so much fuel -/
theorem all_rec {i : Nat} {d : Df} {s : Nat → SpD} (h : AllOk P w K mg fnm clm C Γ k) (W : Wd P w K mg clm Γ.gl Γ.sb C.gls C.cls) (hx : C.fns[i]? = some (d.x, d.ps.length)) (hd : DfAt K mg fnm i d) (hm : defC C d = true)
    (h0 : ∀ ds G QD XD, ¬ s 0 ds G QD XD)
    (hsp : ∀ n ds G QD XD, ds.length = d.ps.length → s (n + 1) ds G QD XD → wSs (Γ.up i (s n)) d.b { nx := fun _ H => QD .non H, rt := QD, ex := fun x _ H => XD x H } (startD d.N.length ds) G) :
    ∀ n, AllOk P w K mg fnm clm C (Γ.up i (s n)) (k + n)
  | 0 => all_raw h (Nat.le_refl _) hx hd fun f fd F base hb hg => ⟨fun vs H Q E h => h.1, fun _ _ _ _ _ _ _ _ _ _ _ _ _ ⟨_, _, _, _, _, _, _, _, h, _⟩ => (h0 _ _ _ _ h).elim⟩
  | n + 1 => by
    have := all_up (s := s (n + 1)) (all_rec h W hx hd hm h0 hsp n) W hx hd hm (hsp n)
    rw [up_up] at this
    exact this
end
section
variable {P : Program} {w : World} {K : PySem.W.Frag} {mg : Str → Option Value} {fnm clm : Nat → Option Addr} {C : Cfg} {Γ : Gam} {k : Nat}
/-- a promise that is never asked -/
theorem all_void {i : Nat} {d : Df} {s : SpD} (h : AllOk P w K mg fnm clm C Γ k) (hx : C.fns[i]? = some (d.x, d.ps.length)) (hd : DfAt K mg fnm i d) (h0 : ∀ ds G QD XD, ¬ s ds G QD XD) : AllOk P w K mg fnm clm C (Γ.up i s) k :=
  all_raw h (Nat.le_refl _) hx hd fun f fd F base hb hg => ⟨fun vs H Q E h => h.1, fun _ _ _ _ _ _ _ _ _ _ _ _ _ ⟨_, _, _, _, _, _, _, _, h, _⟩ => (h0 _ _ _ _ h).elim⟩
/-- three defs: k's n-th promise leans on i's and j's n-th, j's next on those and k's next, i's next on j's and k's next -/
theorem all_rec3 {i j l : Nat} {d e g : Df} {s t r : Nat → SpD} (hij : i ≠ j) (hil : i ≠ l) (hjl : j ≠ l) (h : AllOk P w K mg fnm clm C Γ k) (W : Wd P w K mg clm Γ.gl Γ.sb C.gls C.cls) (hx : C.fns[i]? = some (d.x, d.ps.length)) (hd : DfAt K mg fnm i d) (hm : defC C d = true)
    (hy : C.fns[j]? = some (e.x, e.ps.length)) (he : DfAt K mg fnm j e) (hn : defC C e = true) (hz : C.fns[l]? = some (g.x, g.ps.length)) (hg : DfAt K mg fnm l g) (ho : defC C g = true)
    (h0 : ∀ ds G QD XD, ¬ s 0 ds G QD XD) (h1 : ∀ ds G QD XD, ¬ t 0 ds G QD XD) (h2 : ∀ ds G QD XD, ¬ r 0 ds G QD XD)
    (hs : ∀ n ds G QD XD, ds.length = d.ps.length → s (n + 1) ds G QD XD → wSs (((Γ.up i (s n)).up j (t n)).up l (r n)) d.b { nx := fun _ H => QD .non H, rt := QD, ex := fun x _ H => XD x H } (startD d.N.length ds) G)
    (ht : ∀ n ds G QD XD, ds.length = e.ps.length → t (n + 1) ds G QD XD → wSs (((Γ.up i (s (n + 1))).up j (t n)).up l (r n)) e.b { nx := fun _ H => QD .non H, rt := QD, ex := fun x _ H => XD x H } (startD e.N.length ds) G)
    (hr : ∀ n ds G QD XD, ds.length = g.ps.length → r (n + 1) ds G QD XD → wSs (((Γ.up i (s (n + 1))).up j (t (n + 1))).up l (r n)) g.b { nx := fun _ H => QD .non H, rt := QD, ex := fun x _ H => XD x H } (startD g.N.length ds) G) :
    ∀ n, AllOk P w K mg fnm clm C (((Γ.up i (s n)).up j (t n)).up l (r n)) (k + 3 * n)
  | 0 => all_void (all_void (all_void h hx hd h0) hy he h1) hz hg h2
  | n + 1 => by
    have a1 := all_up (s := s (n + 1)) (all_rec3 hij hil hjl h W hx hd hm hy he hn hz hg ho h0 h1 h2 hs ht hr n) W hx hd hm (hs n)
    rw [up_comm (Γ := (Γ.up i (s n)).up j (t n)) hil.symm, up_comm (Γ := Γ.up i (s n)) hij.symm, up_up] at a1
    have a2 := all_up (s := t (n + 1)) a1 W hy he hn (ht n)
    rw [up_comm (Γ := (Γ.up i (s (n + 1))).up j (t n)) hjl.symm, up_up] at a2
    have a3 := all_up (s := r (n + 1)) a2 W hz hg ho (hr n)
    rw [up_up] at a3
    exact a3
end
/-! ### the walk over data: helps -/
theorem wFor_ind {g : Tgt} {body : EndsD → StD → HD → Prop} {E : EndsD} (I : List D → StD → HD → Prop) (stop : ∀ σ H, I [] σ H → E.nx σ H)
    (step : ∀ x xs, (∀ σ H, I xs σ H → wFor g body E xs σ H) → ∀ σ H, I (x :: xs) σ H → ok (asg g x σ) fun σ' => body { E with nx := wFor g body E xs, ct := wFor g body E xs, bk := E.nx } σ' H) :
    ∀ xs σ H, I xs σ H → wFor g body E xs σ H
  | [], σ, H, h => stop σ H h
  | x :: xs, σ, H, h => step x xs (wFor_ind I stop step xs) σ H h
theorem lcD_ind {step : D → HD → (Option D → HD → Prop) → Prop} {Q : List D → HD → Prop} (I : List D → List D → HD → Prop) (stop : ∀ acc H, I [] acc H → Q acc H)
    (turn : ∀ x xs acc, (∀ acc H, I xs acc H → lcD step Q xs acc H) → ∀ H, I (x :: xs) acc H → step x H fun r H1 => lcD step Q xs (match r with | some d => acc ++ [d] | none => acc) H1) :
    ∀ xs acc H, I xs acc H → lcD step Q xs acc H
  | [], acc, H, h => stop acc H h
  | x :: xs, acc, H, h => turn x xs acc (lcD_ind I stop turn xs) H h
end DL

namespace DL
open PySem PySem.Spec PyProof.Rows L2
/-! ## 15. Equations, for simp -/
/-! what is known of lists, tests, truths -/
section
variable {α β : Type} {x y d : α} {xs ys : List α} {n : Nat}
theorem c_getD0 : (x :: xs).getD 0 d = x := rfl
theorem c_getDS : (x :: xs).getD (n + 1) d = xs.getD n d := rfl
theorem c_set0 : (x :: xs).set 0 y = y :: xs := rfl
theorem c_setS : (x :: xs).set (n + 1) y = x :: xs.set n y := rfl
theorem c_lenC : (x :: xs).length = xs.length + 1 := rfl
theorem c_lenN : ([] : List α).length = 0 := rfl
theorem c_mapC {f : α → β} : (x :: xs).map f = f x :: xs.map f := rfl
theorem c_mapN {f : α → β} : ([] : List α).map f = [] := rfl
theorem c_get0 : (x :: xs)[0]? = some x := rfl
theorem c_getS : (x :: xs)[n + 1]? = xs[n]? := rfl
theorem c_appC : (x :: xs) ++ ys = x :: (xs ++ ys) := rfl
theorem c_appN : [] ++ ys = ys := rfl
theorem c_repS : List.replicate (n + 1) x = x :: List.replicate n x := rfl
theorem c_rep0 : List.replicate 0 x = [] := rfl
theorem c_anyC {f : α → Bool} : (x :: xs).any f = (f x || xs.any f) := rfl
theorem c_anyN {f : α → Bool} : ([] : List α).any f = false := rfl
theorem c_decT (h : Decidable True) : @decide True h = true := decide_true h
theorem c_decF (h : Decidable False) : @decide False h = false := decide_false h
theorem c_orF (b : Bool) : (b || false) = b := Bool.or_false b
theorem c_orT (b : Bool) : (b || true) = true := Bool.or_true b
theorem c_Tor (b : Bool) : (true || b) = true := rfl
theorem c_For (b : Bool) : (false || b) = b := Bool.false_or b
theorem c_nT : (!true) = false := rfl
theorem c_nF : (!false) = true := rfl
theorem c_Tand (p : Prop) : (True ∧ p) = p := true_and p
theorem c_andT (p : Prop) : (p ∧ True) = p := and_true p
theorem c_decE {p : Prop} [Decidable p] : (decide p = true) = p := decide_eq_true_eq
theorem c_oms {f : α → β} : Option.map f (some x) = some (f x) := rfl
theorem c_ifT {h : Decidable True} : @ite α True h x y = x := if_true x y
theorem c_ifF {h : Decidable False} : @ite α False h x y = y := if_false x y
theorem c_fT : (false = true) = False := Bool.false_eq_true
end
section
variable {z : Bool} {i j : Int} {s t : List Nat} {ds es : List D} {x y d : D} {H : HD} {Q : KD} {a : Addr} {b c : Bool} {n : Nat}
theorem q_add_ii : binD z .add (.int i) (.int j) H Q = Q (.int (i + j)) H := rfl
theorem q_add_ss : binD z .add (.str s) (.str t) H Q = (s.length + t.length ≤ lim ∧ Q (.str (s ++ t)) H) := rfl
theorem q_add_tt : binD z .add (.tup ds) (.tup es) H Q = (ds.length + es.length ≤ lim ∧ Q (.tup (ds ++ es)) H) := rfl
theorem q_add_l : binD z .add (.lst ds) y H Q = ok (seqH (.lst ds) H) fun a => ok (seqH y H) fun b => a.length + b.length ≤ lim ∧ newL z (a ++ b) H Q := by cases y <;> rfl
theorem q_add_r : binD z .add (.ref a) y H Q = ok (seqH (.ref a) H) fun a => ok (seqH y H) fun b => a.length + b.length ≤ lim ∧ newL z (a ++ b) H Q := by cases y <;> rfl
theorem q_sub : binD z .sub (.int i) (.int j) H Q = Q (.int (i - j)) H := rfl
theorem q_mul : binD z .mul (.int i) (.int j) H Q = (((-18446744073709551616 < i ∧ i < 18446744073709551616) ∨ (-18446744073709551616 < j ∧ j < 18446744073709551616)) ∧ Q (.int (i * j)) H) := rfl
theorem q_mul_l : binD z .mul (.lst ds) (.int j) H Q = ((0 ≤ j ∧ j ≤ lim) ∧ ds.length * j.toNat ≤ lim ∧ newL z (List.replicate j.toNat ds).flatten H Q) := rfl
theorem q_mul_s : binD z .mul (.str s) (.int j) H Q = ((0 ≤ j ∧ j ≤ lim) ∧ s.length * j.toNat ≤ lim ∧ Q (.str (List.replicate j.toNat s).flatten) H) := rfl
theorem q_fdiv : binD z .fdiv (.int i) (.int j) H Q = ((0 < j ∧ j < 2 ^ 200) ∧ Q (.int (i / j)) H) := rfl
theorem q_mod : binD z .mod (.int i) (.int j) H Q = (0 < j ∧ Q (.int (i % j)) H) := rfl
theorem q_pow : binD z .pow (.int i) (.int j) H Q = ((0 ≤ j ∧ j ≤ 1000000 ∧ i.natAbs < 2 ^ 64) ∧ Q (.int (i ^ j.toNat)) H) := rfl
theorem q_xor : binD z .xor (.int i) (.int j) H Q = Q (.int (Builtin.bitXor i j)) H := rfl
theorem q_bor : binD z .bor (.int i) (.int j) H Q = Q (.int (Builtin.bitOr i j)) H := rfl
theorem q_band : binD z .band (.int i) (.int j) H Q = Q (.int (Builtin.bitAnd i j)) H := rfl
theorem q_seqH_l : seqH (.lst ds) H = some ds := rfl
theorem q_seqH_r : seqH (.ref a) H = (match H a with | some (.lst ds) => some ds | _ => none) := rfl
theorem q_seq_l : seqOf (.lst ds) H = some ds := rfl
theorem q_seq_s : seqOf (.scr ds) H = some ds := rfl
theorem q_seq_r : seqOf (.ref a) H = (match H a with | some (.lst ds) => some ds | _ => none) := rfl
theorem q_seq_t : seqOf (.tup ds) H = none := rfl
theorem q_itm_t : itms (.tup ds) H = some ds := rfl
theorem q_itm_l : itms (.lst ds) H = some ds := rfl
theorem q_itm_s : itms (.scr ds) H = some ds := rfl
theorem q_itm_r : itms (.ref a) H = (match H a with | some (.lst ds) => some ds | _ => none) := rfl
theorem q_len_str : lenD (.str s) H = some s.length := rfl
theorem q_len_t : lenD (.tup ds) H = some ds.length := rfl
theorem q_len_l : lenD (.lst ds) H = some ds.length := rfl
theorem q_len_s : lenD (.scr ds) H = some ds.length := rfl
theorem q_len_r : lenD (.ref a) H = (match H a with | some (.lst ds) => some ds.length | some (.dct kvs) => some kvs.length | _ => none) := by
  simp only [lenD, seqOf]; cases H a with
  | none => rfl
  | some c => cases c <;> rfl
theorem q_tr_n : truth .non H = some false := rfl
theorem q_tr_b : truth (.bl b) H = some b := rfl
theorem q_tr_i : truth (.int i) H = some (i != 0) := rfl
theorem q_tr_str : truth (.str s) H = some (s.length != 0) := rfl
theorem q_tr_t : truth (.tup ds) H = some (ds.length != 0) := rfl
theorem q_tr_l : truth (.lst ds) H = some (ds.length != 0) := rfl
theorem q_tr_s : truth (.scr ds) H = some (ds.length != 0) := rfl
theorem q_tr_r : truth (.ref a) H = (match H a with | some (.lst ds) => some (ds.length != 0) | some (.dct kvs) => some (kvs.length != 0) | _ => none) := by
  simp only [truth, q_len_r]; cases H a with
  | none => rfl
  | some c => cases c <;> rfl
theorem q_eq : cmpD .eq x y H = eqD x y H := rfl
theorem q_ne : cmpD .ne x y H = (eqD x y H).map (!·) := rfl
theorem q_lt : cmpD .lt (.int i) (.int j) H = some (decide (i < j)) := rfl
theorem q_le : cmpD .le (.int i) (.int j) H = some (decide (i ≤ j)) := rfl
theorem q_gt : cmpD .gt (.int i) (.int j) H = some (decide (j < i)) := rfl
theorem q_ge : cmpD .ge (.int i) (.int j) H = some (decide (j ≤ i)) := rfl
theorem q_inn : cmpD .inn x y H = inD x y H := rfl
theorem q_nin : cmpD .nin x y H = (inD x y H).map (!·) := rfl
theorem q_is_n : cmpD .isn .non .non H = some true := rfl
theorem q_is_b : cmpD .isn (.bl b) .non H = some false := rfl
theorem q_is_i : cmpD .isn (.int i) .non H = some false := rfl
theorem q_is_str : cmpD .isn (.str s) .non H = some false := rfl
theorem q_is_t : cmpD .isn (.tup ds) .non H = some false := rfl
theorem q_is_l : cmpD .isn (.lst ds) .non H = some false := rfl
theorem q_is_r : cmpD .isn (.ref a) .non H = some false := rfl
theorem q_is_bb : cmpD .isn (.bl b) (.bl c) H = some (decide (b = c)) := rfl
theorem q_ns_bb : cmpD .nisn (.bl b) (.bl c) H = some (!decide (b = c)) := rfl
theorem q_ns_n : cmpD .nisn .non .non H = some false := rfl
theorem q_ns_b : cmpD .nisn (.bl b) .non H = some true := rfl
theorem q_ns_i : cmpD .nisn (.int i) .non H = some true := rfl
theorem q_ns_str : cmpD .nisn (.str s) .non H = some true := rfl
theorem q_ns_t : cmpD .nisn (.tup ds) .non H = some true := rfl
theorem q_ns_l : cmpD .nisn (.lst ds) .non H = some true := rfl
theorem q_ns_r : cmpD .nisn (.ref a) .non H = some true := rfl
theorem mkStr_eq : (mkStr s == mkStr t) = (s == t) := str_beq s t
theorem q_eq_ii : eqD (.int i) (.int j) H = some (i == j) := by simp [eqD, pyT, py, PyData.eqv, PyData.depth]
theorem q_eq_ss : eqD (.str s) (.str t) H = some (s == t) := by simp [eqD, pyT, py, PyData.eqv, PyData.depth, mkStr_eq]
theorem q_eq_bb : eqD (.bl b) (.bl c) H = some (b == c) := by cases b <;> cases c <;> simp [eqD, pyT, py, PyData.eqv, PyData.depth]
theorem q_eq_nn : eqD .non .non H = some true := by simp [eqD, pyT, py, PyData.eqv, PyData.depth]
theorem q_idx_t : idxD (.tup ds) (.int i) H = atI ds i := rfl
theorem q_idx_l : idxD (.lst ds) (.int i) H = atI ds i := rfl
theorem q_idx_s : idxD (.scr ds) (.int i) H = atI ds i := rfl
theorem q_idx_str : idxD (.str s) (.int i) H = (atI s i).map fun c => .str [c] := rfl
theorem q_idx_r : idxD (.ref a) (.int i) H = (match H a with | some (.lst ds) => atI ds i | _ => none) := by
  simp only [idxD, q_itm_r]; cases H a with
  | none => rfl
  | some c => cases c <;> rfl
theorem at_nat {α : Type} {xs : List α} {k : Nat} : atI xs (k : Int) = xs[k]? := by
  unfold atI ixN
  rw [if_pos (Int.natCast_nonneg k)]
  by_cases h : k < xs.length
  · rw [if_pos (by exact_mod_cast h)]; rfl
  · rw [if_neg (by intro q; exact h (by exact_mod_cast q)), List.getElem?_eq_none (by omega)]; rfl
theorem at_0 {α : Type} {xs : List α} : atI xs 0 = xs[0]? := at_nat (k := 0)
theorem at_1 {α : Type} {xs : List α} : atI xs 1 = xs[1]? := at_nat (k := 1)
theorem at_2 {α : Type} {xs : List α} : atI xs 2 = xs[2]? := at_nat (k := 2)
theorem at_3 {α : Type} {xs : List α} : atI xs 3 = xs[3]? := at_nat (k := 3)
theorem at_4 {α : Type} {xs : List α} : atI xs 4 = xs[4]? := at_nat (k := 4)
theorem at_5 {α : Type} {xs : List α} : atI xs 5 = xs[5]? := at_nat (k := 5)
theorem at_pos {α : Type} {xs : List α} {i : Int} (h0 : 0 ≤ i) : atI xs i = xs[i.toNat]? := by
  obtain ⟨k, rfl⟩ := Int.eq_ofNat_of_zero_le h0
  exact at_nat
theorem q_bf_len : bfD z .len [x] H Q = ok (lenD x H) fun n => Q (.int n) H := rfl
theorem q_bf_abs : bfD z .abs [.int i] H Q = Q (.int i.natAbs) H := rfl
theorem q_bf_int : bfD z .int [.int i] H Q = Q (.int i) H := rfl
theorem q_bf_intb : bfD z .int [.bl b] H Q = Q (.int (if b then 1 else 0)) H := rfl
theorem q_bf_bool : bfD z .bool [.bl b] H Q = Q (.bl b) H := rfl
theorem q_bf_tup : bfD z .tuple [x] H Q = ok (itmT x H) fun ds => Q (.tup ds) H := rfl
theorem q_imT_t : itmT (.tup ds) H = some ds := rfl
theorem q_imT_l : itmT (.lst ds) H = some ds := rfl
theorem q_imT_s : itmT (.scr ds) H = some ds := rfl
theorem q_imT_r : itmT (.ref a) H = (match H a with | some (.lst ds) => some ds | _ => none) := rfl
theorem q_itm_p : itms (.tpl ds) H = some ds := rfl
theorem q_len_p : lenD (.tpl ds) H = some ds.length := rfl
theorem q_idx_p : idxD (.tpl ds) (.int i) H = atI ds i := rfl
theorem q_walk_p : walkD (.tpl ds) = some ds := rfl
theorem q_asg_p {σ : StD} {ts : List Tgt} : asg (.t ts) (.tpl ds) σ = asgs ts ds σ := rfl
theorem q_bf_lst : bfD z .list [x] H Q = ok (itms x H) fun ds => newL z ds H Q := rfl
theorem q_bf_all : bfD z .all [x] H Q = ok (seqOf x H) fun ds => ok (blsOf ds) fun bs => Q (.bl (bs.all id)) H := rfl
theorem q_bf_any : bfD z .any [x] H Q = ok (seqOf x H) fun ds => ok (blsOf ds) fun bs => Q (.bl (bs.any id)) H := rfl
theorem q_bf_min2 : bfD z .min [.int i, .int j] H Q = Q (.int (if j < i then j else i)) H := rfl
theorem q_bf_max2 : bfD z .max [.int i, .int j] H Q = Q (.int (if j > i then j else i)) H := rfl
theorem q_bf_sum : bfD z .sum [x] H Q = ok (seqOf x H) fun ds => ok (intsOf ds) fun ns => Q (.int ns.sum) H := rfl
theorem q_bf_ord {c : Nat} : bfD z .ord [.str [c]] H Q = Q (.int c) H := rfl
theorem q_ty_n : tyD .non H = some .non := rfl
theorem q_ty_b : tyD (.bl b) H = some .bool := rfl
theorem q_ty_i : tyD (.int i) H = some .int := rfl
theorem q_ty_str : tyD (.str s) H = some .str := rfl
theorem q_ty_t : tyD (.tup ds) H = some .tuple := rfl
theorem q_ty_l : tyD (.lst ds) H = some .list := rfl
theorem q_ty_s : tyD (.scr ds) H = some .list := rfl
theorem q_ty_r : tyD (.ref a) H = (match H a with | some (.lst _) => some .list | some (.dct _) => some .dict | _ => none) := rfl
theorem q_app : mtD .append (.ref a) [d] H Q = (match H a with | some (.lst ds) => ds.length < lim ∧ Q .non (updD H a (.lst (ds ++ [d]))) | _ => False) := rfl
theorem q_ext : mtD .extend (.ref a) [x] H Q = (match H a with | some (.lst ds) => ok (seqH x H) fun es => ds.length + es.length ≤ lim ∧ Q .non (updD H a (.lst (ds ++ es))) | _ => False) := rfl
theorem q_pop : mtD .pop (.ref a) [] H Q = (match H a with | some (.lst ds) => ok ds.getLast? fun d => Q d (updD H a (.lst ds.dropLast)) | _ => False) := rfl
theorem q_popI : mtD .pop (.ref a) [.int i] H Q = (match H a with | some (.lst ds) => (0 ≤ i ∧ i < ds.length) ∧ ok (ds[i.toNat]?) fun d => Q d (updD H a (.lst (ds.eraseIdx i.toNat))) | _ => False) := rfl
theorem q_join : mtD .join (.str s) [x] H Q = ok (itms x H) fun ds => ok (strsOf ds) fun ss => (ss.map List.length).sum + ss.length * s.length ≤ lim ∧ Q (.str (joinL s ss)) H := rfl
theorem q_rcv_app : (rcv .append (.ref a) H = true) = (match H a with | some (.lst _) => True | _ => False) := by
  simp only [rcv, seqOf]; cases H a with
  | none => simp
  | some c => cases c <;> simp
theorem q_rcv_ext : (rcv .extend (.ref a) H = true) = (match H a with | some (.lst _) => True | _ => False) := by
  simp only [rcv, seqOf]; cases H a with
  | none => simp
  | some c => cases c <;> simp
theorem q_rcv_pop : (rcv .pop (.ref a) H = true) = (match H a with | some (.lst _) => True | _ => False) := by
  simp only [rcv, seqOf]; cases H a with
  | none => simp
  | some c => cases c <;> simp
theorem q_rcv_join : (rcv .join (.str s) H = true) = True := by simp [rcv]
theorem q_rcv_sidx : (rcv .sindex (.str s) H = true) = True := by simp [rcv]
theorem q_rcv_scnt : (rcv .scount (.str s) H = true) = True := by simp [rcv]
theorem q_rcv_sfnd : (rcv .sfind (.str s) H = true) = True := by simp [rcv]
theorem q_sidx : mtD .sindex (.str s) [.str t] H Q = ok (Txt.index0 (mkStr s) (mkStr t)) fun i => Q (.int (i : Nat)) H := rfl
theorem q_scnt : mtD .scount (.str s) [.str t] H Q = Q (.int (Txt.count (mkStr s) (mkStr t))) H := rfl
theorem q_sfnd : mtD .sfind (.str s) [.str t] H Q = Q (.int (Txt.find (mkStr s) (mkStr t))) H := rfl
theorem q_sl_str {lo hi : Option Int} : slD z (.str s) lo hi H Q = Q (.str (cutL s lo hi)) H := rfl
theorem q_sl_t {lo hi : Option Int} : slD z (.tup ds) lo hi H Q = Q (.tup (cutL ds lo hi)) H := rfl
theorem q_sl_l {lo hi : Option Int} : slD z (.lst ds) lo hi H Q = newL z (cutL ds lo hi) H Q := rfl
theorem q_sl_r {lo hi : Option Int} : slD z (.ref a) lo hi H Q = (match H a with | some (.lst ds) => newL z (cutL ds lo hi) H Q | _ => False) := by
  show ok (match H a with | some (.lst ds) => some ds | _ => none) _ = _
  cases H a with
  | none => rfl
  | some c => cases c <;> rfl
theorem q_sl_s {lo hi : Option Int} : slD z (.scr ds) lo hi H Q = newL z (cutL ds lo hi) H Q := rfl
theorem q_frz_r : frzD (.ref a) H Q = (match H a with | some (.lst ds) => Q (.lst ds) (delD H a) | _ => False) := rfl
theorem q_frz_l : frzD (.lst ds) H Q = Q (.lst ds) H := rfl
theorem q_frz_str : frzD (.str s) H Q = Q (.str s) H := rfl
theorem q_frz_t : frzD (.tup ds) H Q = Q (.tup ds) H := rfl
theorem q_frz_b : frzD (.bl b) H Q = Q (.bl b) H := rfl
theorem q_frz_n : frzD .non H Q = Q .non H := rfl
theorem q_frz_i : frzD (.int i) H Q = Q (.int i) H := rfl
theorem q_walk_t : walkD (.tup ds) = some ds := rfl
theorem q_walk_l : walkD (.lst ds) = some ds := rfl
theorem q_walk_s : walkD (.scr ds) = some ds := rfl
theorem q_walk_str : walkD (.str s) = some (s.map fun c => .str [c]) := rfl
theorem q_fix_t : fixD (.tup ds) = some ds := rfl
theorem q_fix_l : fixD (.lst ds) = some ds := rfl
theorem q_asg_n {σ : StD} {k : Nat} : asg (.n k) d σ = some (σ.set k (some d)) := rfl
theorem q_asg_t {σ : StD} {ts : List Tgt} : asg (.t ts) (.tup ds) σ = asgs ts ds σ := rfl
theorem q_asgs_n {σ : StD} : asgs [] [] σ = some σ := rfl
theorem q_asgs_c {σ : StD} {g : Tgt} {gs : List Tgt} : asgs (g :: gs) (d :: ds) σ = (match asg g d σ with | some σ' => asgs gs ds σ' | none => none) := rfl
theorem q_rg_t {i j : Int} : rgD z true i j H Q = (((-4611686018427387904 ≤ i ∧ i < 4611686018427387904) ∧ (-4611686018427387904 ≤ j ∧ j < 4611686018427387904)) ∧ (j - i).toNat ≤ lim ∧ Q (.tup (rngL (i, (j - i).toNat, 1))) H) := rfl
theorem q_rg_f {i j : Int} : rgD z false i j H Q = (((-4611686018427387904 ≤ i ∧ i < 4611686018427387904) ∧ (-4611686018427387904 ≤ j ∧ j < 4611686018427387904)) ∧ (j - i).toNat ≤ lim ∧ newL z (rngL (i, (j - i).toNat, 1)) H Q) := rfl
/-- range -/
theorem q_rng1 {j : Int} (h : -4611686018427387904 ≤ j ∧ j < 4611686018427387904) : rngD [.int j] = some (0, j.toNat, 1) := by simp only [rngD, h, and_self, if_true]
end
end DL

local macro_rules
  | `(tactic| simp_arith [$ls,*]) => `(tactic| simp -implicitDefEqProofs only [DL.Gam.isb, DL.ok_some, DL.ok_none, DL.newL_t, DL.newL_f, DL.isTy, DL.wipeD, DL.isNo, DL.wPart, DL.wE, DL.wEs, DL.wBo, DL.wT, DL.wTs, DL.wI, DL.wSU, DL.offD, DL.onD, DL.wS, DL.wSs, DL.startD, DL.c_getD0, DL.c_getDS, DL.c_set0, DL.c_setS, DL.c_lenC, DL.c_lenN, DL.c_mapC, DL.c_mapN, DL.c_get0, DL.c_getS, DL.c_appC, DL.c_appN, DL.c_repS, DL.c_rep0, DL.c_anyC, DL.c_anyN, DL.c_decT, DL.c_decF, DL.c_orF, DL.c_orT, DL.c_Tor, DL.c_For, DL.c_nT, DL.c_nF, DL.c_Tand, DL.c_andT, DL.c_decE, DL.c_oms, DL.c_ifT, DL.c_ifF, DL.c_fT, DL.q_add_ii, DL.q_add_ss, DL.q_add_tt, DL.q_add_l, DL.q_add_r, DL.q_sub, DL.q_mul, DL.q_mul_l, DL.q_mul_s, DL.q_fdiv, DL.q_mod, DL.q_pow, DL.q_xor, DL.q_bor, DL.q_band, DL.q_seqH_l, DL.q_seqH_r, DL.q_seq_l, DL.q_seq_s, DL.q_seq_r, DL.q_seq_t, DL.q_itm_t, DL.q_itm_l, DL.q_itm_s, DL.q_itm_r, DL.q_len_str, DL.q_len_t, DL.q_len_l, DL.q_len_s, DL.q_len_r, DL.q_tr_n, DL.q_tr_b, DL.q_tr_i, DL.q_tr_str, DL.q_tr_t, DL.q_tr_l, DL.q_tr_s, DL.q_tr_r, DL.q_eq, DL.q_ne, DL.q_lt, DL.q_le, DL.q_gt, DL.q_ge, DL.q_inn, DL.q_nin, DL.q_is_n, DL.q_is_b, DL.q_is_i, DL.q_is_str, DL.q_is_t, DL.q_is_l, DL.q_is_r, DL.q_is_bb, DL.q_ns_bb, DL.q_ns_n, DL.q_ns_b, DL.q_ns_i, DL.q_ns_str, DL.q_ns_t, DL.q_ns_l, DL.q_ns_r, DL.q_eq_ii, DL.q_eq_ss, DL.q_eq_bb, DL.q_eq_nn, DL.q_idx_t, DL.q_idx_l, DL.q_idx_s, DL.q_idx_str, DL.q_idx_r, DL.at_0, DL.at_1, DL.at_2, DL.at_3, DL.at_4, DL.at_5, DL.q_bf_len, DL.q_bf_abs, DL.q_bf_int, DL.q_bf_intb, DL.q_bf_bool, DL.q_bf_tup, DL.q_imT_t, DL.q_imT_l, DL.q_imT_s, DL.q_imT_r, DL.q_itm_p, DL.q_len_p, DL.q_idx_p, DL.q_walk_p, DL.q_asg_p, DL.q_bf_lst, DL.q_bf_all, DL.q_bf_any, DL.q_bf_min2, DL.q_bf_max2, DL.q_bf_sum, DL.q_bf_ord, DL.q_ty_n, DL.q_ty_b, DL.q_ty_i, DL.q_ty_str, DL.q_ty_t, DL.q_ty_l, DL.q_ty_s, DL.q_ty_r, DL.q_app, DL.q_ext, DL.q_pop, DL.q_popI, DL.q_join, DL.q_rcv_app, DL.q_rcv_ext, DL.q_rcv_pop, DL.q_rcv_join, DL.q_rcv_sidx, DL.q_rcv_scnt, DL.q_rcv_sfnd, DL.q_sidx, DL.q_scnt, DL.q_sfnd, DL.q_sl_str, DL.q_sl_t, DL.q_sl_l, DL.q_sl_r, DL.q_sl_s, DL.q_frz_r, DL.q_frz_l, DL.q_frz_str, DL.q_frz_t, DL.q_frz_b, DL.q_frz_n, DL.q_frz_i, DL.q_walk_t, DL.q_walk_l, DL.q_walk_s, DL.q_walk_str, DL.q_fix_t, DL.q_fix_l, DL.q_asg_n, DL.q_asg_t, DL.q_asgs_n, DL.q_asgs_c, DL.q_rg_t, DL.q_rg_f, Nat.reduceAdd, Nat.reduceSub, reduceCtorEq, Int.reduceToNat, Int.reduceLT, Int.reduceLE, Int.reduceNeg, $ls,*])
  | `(tactic| simp_arith [$ls,*] $loc:location) => `(tactic| simp -implicitDefEqProofs only [DL.Gam.isb, DL.ok_some, DL.ok_none, DL.newL_t, DL.newL_f, DL.isTy, DL.wipeD, DL.isNo, DL.wPart, DL.wE, DL.wEs, DL.wBo, DL.wT, DL.wTs, DL.wI, DL.wSU, DL.offD, DL.onD, DL.wS, DL.wSs, DL.startD, DL.c_getD0, DL.c_getDS, DL.c_set0, DL.c_setS, DL.c_lenC, DL.c_lenN, DL.c_mapC, DL.c_mapN, DL.c_get0, DL.c_getS, DL.c_appC, DL.c_appN, DL.c_repS, DL.c_rep0, DL.c_anyC, DL.c_anyN, DL.c_decT, DL.c_decF, DL.c_orF, DL.c_orT, DL.c_Tor, DL.c_For, DL.c_nT, DL.c_nF, DL.c_Tand, DL.c_andT, DL.c_decE, DL.c_oms, DL.c_ifT, DL.c_ifF, DL.c_fT, DL.q_add_ii, DL.q_add_ss, DL.q_add_tt, DL.q_add_l, DL.q_add_r, DL.q_sub, DL.q_mul, DL.q_mul_l, DL.q_mul_s, DL.q_fdiv, DL.q_mod, DL.q_pow, DL.q_xor, DL.q_bor, DL.q_band, DL.q_seqH_l, DL.q_seqH_r, DL.q_seq_l, DL.q_seq_s, DL.q_seq_r, DL.q_seq_t, DL.q_itm_t, DL.q_itm_l, DL.q_itm_s, DL.q_itm_r, DL.q_len_str, DL.q_len_t, DL.q_len_l, DL.q_len_s, DL.q_len_r, DL.q_tr_n, DL.q_tr_b, DL.q_tr_i, DL.q_tr_str, DL.q_tr_t, DL.q_tr_l, DL.q_tr_s, DL.q_tr_r, DL.q_eq, DL.q_ne, DL.q_lt, DL.q_le, DL.q_gt, DL.q_ge, DL.q_inn, DL.q_nin, DL.q_is_n, DL.q_is_b, DL.q_is_i, DL.q_is_str, DL.q_is_t, DL.q_is_l, DL.q_is_r, DL.q_is_bb, DL.q_ns_bb, DL.q_ns_n, DL.q_ns_b, DL.q_ns_i, DL.q_ns_str, DL.q_ns_t, DL.q_ns_l, DL.q_ns_r, DL.q_eq_ii, DL.q_eq_ss, DL.q_eq_bb, DL.q_eq_nn, DL.q_idx_t, DL.q_idx_l, DL.q_idx_s, DL.q_idx_str, DL.q_idx_r, DL.at_0, DL.at_1, DL.at_2, DL.at_3, DL.at_4, DL.at_5, DL.q_bf_len, DL.q_bf_abs, DL.q_bf_int, DL.q_bf_intb, DL.q_bf_bool, DL.q_bf_tup, DL.q_imT_t, DL.q_imT_l, DL.q_imT_s, DL.q_imT_r, DL.q_itm_p, DL.q_len_p, DL.q_idx_p, DL.q_walk_p, DL.q_asg_p, DL.q_bf_lst, DL.q_bf_all, DL.q_bf_any, DL.q_bf_min2, DL.q_bf_max2, DL.q_bf_sum, DL.q_bf_ord, DL.q_ty_n, DL.q_ty_b, DL.q_ty_i, DL.q_ty_str, DL.q_ty_t, DL.q_ty_l, DL.q_ty_s, DL.q_ty_r, DL.q_app, DL.q_ext, DL.q_pop, DL.q_popI, DL.q_join, DL.q_rcv_app, DL.q_rcv_ext, DL.q_rcv_pop, DL.q_rcv_join, DL.q_rcv_sidx, DL.q_rcv_scnt, DL.q_rcv_sfnd, DL.q_sidx, DL.q_scnt, DL.q_sfnd, DL.q_sl_str, DL.q_sl_t, DL.q_sl_l, DL.q_sl_r, DL.q_sl_s, DL.q_frz_r, DL.q_frz_l, DL.q_frz_str, DL.q_frz_t, DL.q_frz_b, DL.q_frz_n, DL.q_frz_i, DL.q_walk_t, DL.q_walk_l, DL.q_walk_s, DL.q_walk_str, DL.q_fix_t, DL.q_fix_l, DL.q_asg_n, DL.q_asg_t, DL.q_asgs_n, DL.q_asgs_c, DL.q_rg_t, DL.q_rg_f, Nat.reduceAdd, Nat.reduceSub, reduceCtorEq, Int.reduceToNat, Int.reduceLT, Int.reduceLE, Int.reduceNeg, $ls,*] $loc)

namespace DL
open PySem PySem.Spec PyProof.Rows L2
/-! ## 16. A law's stream -/
def b_draw : Ss :=
 (.c (.ite (.bo true (.c (.cmp .eq (.idx (.var 0) (.con (.int 1))) (.con (.int 0))) (.c (.cmp .lt (.idx (.var 0) (.con (.int 2))) (.bf true .len (.c (.idx (.var 0) (.con (.int 0))) .n))) .n))) (.c (.setI (.var 0) (.con (.int 1)) (.bf true .abs (.c (.bf true .int (.c (.idx (.idx (.var 0) (.con (.int 0))) (.idx (.var 0) (.con (.int 2)))) .n)) .n)))
 (.c (.setI (.var 0) (.con (.int 2)) (.bin true .add (.idx (.var 0) (.con (.int 2))) (.con (.int 1))))
 .n)) .n)
 (.c (.ite (.cmp .eq (.idx (.var 0) (.con (.int 1))) (.con (.int 0))) (.c (.setI (.var 0) (.con (.int 3)) (.bin true .mod (.bf true .int (.c (.bin true .add (.bin true .mul (.idx (.var 0) (.con (.int 3))) (.con (.int 48271))) (.con (.int 11))) .n)) (.con (.int 2147483647))))
 (.c (.ret (.bin true .mod (.bf true .int (.c (.bin true .fdiv (.idx (.var 0) (.con (.int 3))) (.con (.int 97))) .n)) (.var 1)))
 .n)) .n)
 (.c (.set 2 (.bin true .mod (.bf true .int (.c (.idx (.var 0) (.con (.int 1))) .n)) (.var 1)))
 (.c (.setI (.var 0) (.con (.int 1)) (.bin true .fdiv (.idx (.var 0) (.con (.int 1))) (.var 1)))
 (.c (.ret (.var 2))
 .n)))))
def b_stream : Ss :=
 (.c (.set 1 (.con (.int 17)))
 (.c (.for_ (.n 2) (.of (.var 0)) (.c (.set 1 (.bin true .mod (.bf true .int (.c (.bin true .add (.bin true .add (.bin true .mul (.var 1) (.con (.int 48271))) (.bin true .mod (.bf true .int (.c (.var 2) .n)) (.con (.int 65521)))) (.con (.int 1))) .n)) (.con (.int 2147483647))))
 .n))
 (.c (.ret (.lst false (.c (.bf false .list (.c (.var 0) .n)) (.c (.con (.int 0)) (.c (.con (.int 0)) (.c (.var 1) .n))))))
 .n)))
/-- a stream laid bare -/
def rawG (a q : Addr) (ns : List D) (x k m : Int) : HD := updD (updD emp q (.lst ns)) a (.lst [.ref q, .int x, .int k, .int m])
theorem draw_run {Γ : Gam} {a q : Addr} {ns : List D} {x k m n : Int} {E : EndsD} (hq : q ≠ a) (hns : ∀ d ∈ ns, ∃ i, d = .int i) (hn : 0 < n ∧ n < 2 ^ 200) (hx : 0 ≤ x) (hk : 0 ≤ k ∧ k ≤ ns.length) (hm : 0 ≤ m ∧ m < 2147483647)
    (h : ∀ (r x' k' m' : Int), 0 ≤ r → r < n → 0 ≤ x' → 0 ≤ k' → k' ≤ ns.length → 0 ≤ m' → m' < 2147483647 → E.rt (.int r) (rawG a q ns x' k' m')) :
    wSs Γ b_draw E [some (.ref a), some (.int n), none] (rawG a q ns x k m) := by
  have ga : ∀ x k m, rawG a q ns x k m a = some (.lst [.ref q, .int x, .int k, .int m]) := fun x k m => updD_same
  have gq : ∀ x k m, rawG a q ns x k m q = some (.lst ns) := fun x k m => (updD_ne hq).trans updD_same
  have gu : ∀ x k m x' k' m', updD (rawG a q ns x k m) a (.lst [.ref q, .int x', .int k', .int m']) = rawG a q ns x' k' m' := fun x k m x' k' m' => updD_updD
  have rest : ∀ (x k : Int), 0 ≤ x → 0 ≤ k → k ≤ ns.length → wSs Γ (match b_draw with | .c _ r => r | .n => .n) E [some (.ref a), some (.int n), none] (rawG a q ns x k m) := by
    intro x k hx hk hk2
    simp only [b_draw, Gam.isb, ok_some, ok_none, newL_t, newL_f, isTy, wipeD, isNo, wPart, wE, wEs, wBo, wT, wTs, wI, wSU, offD, onD, wS, wSs, startD, c_getD0, c_getDS, c_set0, c_setS, c_lenC, c_lenN, c_mapC, c_mapN, c_get0, c_getS, c_appC, c_appN, c_repS, c_rep0, c_anyC, c_anyN, c_decT, c_decF, c_orF, c_orT, c_Tor, c_For, c_nT, c_nF, c_Tand, c_andT, c_decE, c_oms, c_ifT, c_ifF, c_fT, q_add_ii, q_add_ss, q_add_tt, q_add_l, q_add_r, q_sub, q_mul, q_mul_l, q_mul_s, q_fdiv, q_mod, q_pow, q_xor, q_bor, q_band, q_seqH_l, q_seqH_r, q_seq_l, q_seq_s, q_seq_r, q_seq_t, q_itm_t, q_itm_l, q_itm_s, q_itm_r, q_len_str, q_len_t, q_len_l, q_len_s, q_len_r, q_tr_n, q_tr_b, q_tr_i, q_tr_str, q_tr_t, q_tr_l, q_tr_s, q_tr_r, q_eq, q_ne, q_lt, q_le, q_gt, q_ge, q_inn, q_nin, q_is_n, q_is_b, q_is_i, q_is_str, q_is_t, q_is_l, q_is_r, q_is_bb, q_ns_bb, q_ns_n, q_ns_b, q_ns_i, q_ns_str, q_ns_t, q_ns_l, q_ns_r, q_eq_ii, q_eq_ss, q_eq_bb, q_eq_nn, q_idx_t, q_idx_l, q_idx_s, q_idx_str, q_idx_r, at_0, at_1, at_2, at_3, at_4, at_5, q_bf_len, q_bf_abs, q_bf_int, q_bf_intb, q_bf_bool, q_bf_tup, q_imT_t, q_imT_l, q_imT_s, q_imT_r, q_itm_p, q_len_p, q_idx_p, q_walk_p, q_asg_p, q_bf_lst, q_bf_all, q_bf_any, q_bf_min2, q_bf_max2, q_bf_sum, q_bf_ord, q_ty_n, q_ty_b, q_ty_i, q_ty_str, q_ty_t, q_ty_l, q_ty_s, q_ty_r, q_app, q_ext, q_pop, q_popI, q_join, q_rcv_app, q_rcv_ext, q_rcv_pop, q_rcv_join, q_rcv_sidx, q_rcv_scnt, q_rcv_sfnd, q_sidx, q_scnt, q_sfnd, q_sl_str, q_sl_t, q_sl_l, q_sl_r, q_sl_s, q_frz_r, q_frz_l, q_frz_str, q_frz_t, q_frz_b, q_frz_n, q_frz_i, q_walk_t, q_walk_l, q_walk_s, q_walk_str, q_fix_t, q_fix_l, q_asg_n, q_asg_t, q_asgs_n, q_asgs_c, q_rg_t, q_rg_f, Nat.reduceAdd, Nat.reduceSub, reduceCtorEq, Int.reduceToNat, Int.reduceLT, Int.reduceLE, Int.reduceNeg, ga, gq, gu]
    cases h0 : (x == 0) with
    | true =>
      have hm2 : 0 ≤ (m * 48271 + 11) % 2147483647 ∧ (m * 48271 + 11) % 2147483647 < 2147483647 := ⟨Int.emod_nonneg _ (by decide), Int.emod_lt_of_pos _ (by decide)⟩
      have : 0 < n := hn.1
      refine ⟨by omega, by decide, by decide, this, ?_⟩
      exact h _ _ _ _ (Int.emod_nonneg _ (by omega)) (Int.emod_lt_of_pos _ this) hx hk hk2 hm2.1 hm2.2
    | false =>
      exact ⟨hn.1, hn, by omega, h _ _ _ _ (Int.emod_nonneg _ (by omega)) (Int.emod_lt_of_pos _ hn.1) (Int.ediv_nonneg hx (by omega)) hk hk2 hm.1 hm.2⟩
  simp only [b_draw, Gam.isb, ok_some, ok_none, newL_t, newL_f, isTy, wipeD, isNo, wPart, wE, wEs, wBo, wT, wTs, wI, wSU, offD, onD, wS, wSs, startD, c_getD0, c_getDS, c_set0, c_setS, c_lenC, c_lenN, c_mapC, c_mapN, c_get0, c_getS, c_appC, c_appN, c_repS, c_rep0, c_anyC, c_anyN, c_decT, c_decF, c_orF, c_orT, c_Tor, c_For, c_nT, c_nF, c_Tand, c_andT, c_decE, c_oms, c_ifT, c_ifF, c_fT, q_add_ii, q_add_ss, q_add_tt, q_add_l, q_add_r, q_sub, q_mul, q_mul_l, q_mul_s, q_fdiv, q_mod, q_pow, q_xor, q_bor, q_band, q_seqH_l, q_seqH_r, q_seq_l, q_seq_s, q_seq_r, q_seq_t, q_itm_t, q_itm_l, q_itm_s, q_itm_r, q_len_str, q_len_t, q_len_l, q_len_s, q_len_r, q_tr_n, q_tr_b, q_tr_i, q_tr_str, q_tr_t, q_tr_l, q_tr_s, q_tr_r, q_eq, q_ne, q_lt, q_le, q_gt, q_ge, q_inn, q_nin, q_is_n, q_is_b, q_is_i, q_is_str, q_is_t, q_is_l, q_is_r, q_is_bb, q_ns_bb, q_ns_n, q_ns_b, q_ns_i, q_ns_str, q_ns_t, q_ns_l, q_ns_r, q_eq_ii, q_eq_ss, q_eq_bb, q_eq_nn, q_idx_t, q_idx_l, q_idx_s, q_idx_str, q_idx_r, at_0, at_1, at_2, at_3, at_4, at_5, q_bf_len, q_bf_abs, q_bf_int, q_bf_intb, q_bf_bool, q_bf_tup, q_imT_t, q_imT_l, q_imT_s, q_imT_r, q_itm_p, q_len_p, q_idx_p, q_walk_p, q_asg_p, q_bf_lst, q_bf_all, q_bf_any, q_bf_min2, q_bf_max2, q_bf_sum, q_bf_ord, q_ty_n, q_ty_b, q_ty_i, q_ty_str, q_ty_t, q_ty_l, q_ty_s, q_ty_r, q_app, q_ext, q_pop, q_popI, q_join, q_rcv_app, q_rcv_ext, q_rcv_pop, q_rcv_join, q_rcv_sidx, q_rcv_scnt, q_rcv_sfnd, q_sidx, q_scnt, q_sfnd, q_sl_str, q_sl_t, q_sl_l, q_sl_r, q_sl_s, q_frz_r, q_frz_l, q_frz_str, q_frz_t, q_frz_b, q_frz_n, q_frz_i, q_walk_t, q_walk_l, q_walk_s, q_walk_str, q_fix_t, q_fix_l, q_asg_n, q_asg_t, q_asgs_n, q_asgs_c, q_rg_t, q_rg_f, Nat.reduceAdd, Nat.reduceSub, reduceCtorEq, Int.reduceToNat, Int.reduceLT, Int.reduceLE, Int.reduceNeg, ga, gq, gu]
  simp only [b_draw, Gam.isb, ok_some, ok_none, newL_t, newL_f, isTy, wipeD, isNo, wPart, wE, wEs, wBo, wT, wTs, wI, wSU, offD, onD, wS, wSs, startD, c_getD0, c_getDS, c_set0, c_setS, c_lenC, c_lenN, c_mapC, c_mapN, c_get0, c_getS, c_appC, c_appN, c_repS, c_rep0, c_anyC, c_anyN, c_decT, c_decF, c_orF, c_orT, c_Tor, c_For, c_nT, c_nF, c_Tand, c_andT, c_decE, c_oms, c_ifT, c_ifF, c_fT, q_add_ii, q_add_ss, q_add_tt, q_add_l, q_add_r, q_sub, q_mul, q_mul_l, q_mul_s, q_fdiv, q_mod, q_pow, q_xor, q_bor, q_band, q_seqH_l, q_seqH_r, q_seq_l, q_seq_s, q_seq_r, q_seq_t, q_itm_t, q_itm_l, q_itm_s, q_itm_r, q_len_str, q_len_t, q_len_l, q_len_s, q_len_r, q_tr_n, q_tr_b, q_tr_i, q_tr_str, q_tr_t, q_tr_l, q_tr_s, q_tr_r, q_eq, q_ne, q_lt, q_le, q_gt, q_ge, q_inn, q_nin, q_is_n, q_is_b, q_is_i, q_is_str, q_is_t, q_is_l, q_is_r, q_is_bb, q_ns_bb, q_ns_n, q_ns_b, q_ns_i, q_ns_str, q_ns_t, q_ns_l, q_ns_r, q_eq_ii, q_eq_ss, q_eq_bb, q_eq_nn, q_idx_t, q_idx_l, q_idx_s, q_idx_str, q_idx_r, at_0, at_1, at_2, at_3, at_4, at_5, q_bf_len, q_bf_abs, q_bf_int, q_bf_intb, q_bf_bool, q_bf_tup, q_imT_t, q_imT_l, q_imT_s, q_imT_r, q_itm_p, q_len_p, q_idx_p, q_walk_p, q_asg_p, q_bf_lst, q_bf_all, q_bf_any, q_bf_min2, q_bf_max2, q_bf_sum, q_bf_ord, q_ty_n, q_ty_b, q_ty_i, q_ty_str, q_ty_t, q_ty_l, q_ty_s, q_ty_r, q_app, q_ext, q_pop, q_popI, q_join, q_rcv_app, q_rcv_ext, q_rcv_pop, q_rcv_join, q_rcv_sidx, q_rcv_scnt, q_rcv_sfnd, q_sidx, q_scnt, q_sfnd, q_sl_str, q_sl_t, q_sl_l, q_sl_r, q_sl_s, q_frz_r, q_frz_l, q_frz_str, q_frz_t, q_frz_b, q_frz_n, q_frz_i, q_walk_t, q_walk_l, q_walk_s, q_walk_str, q_fix_t, q_fix_l, q_asg_n, q_asg_t, q_asgs_n, q_asgs_c, q_rg_t, q_rg_f, Nat.reduceAdd, Nat.reduceSub, reduceCtorEq, Int.reduceToNat, Int.reduceLT, Int.reduceLE, Int.reduceNeg, ga, gq, gu] at rest
  by_cases h0 : (x == 0) = true
  · rw [if_pos h0]
    by_cases h1 : k < ns.length
    · rw [decide_eq_true h1]
      obtain ⟨i, hi⟩ : ∃ i, atI ns k = some (.int i) := by
        rw [at_pos hk.1]
        have hl : k.toNat < ns.length := by omega
        obtain ⟨i, hi⟩ := hns _ (List.getElem_mem hl)
        exact ⟨i, by rw [List.getElem?_eq_getElem hl, hi]⟩
      simp only [hi, Gam.isb, ok_some, ok_none, newL_t, newL_f, isTy, wipeD, isNo, wPart, wE, wEs, wBo, wT, wTs, wI, wSU, offD, onD, wS, wSs, startD, c_getD0, c_getDS, c_set0, c_setS, c_lenC, c_lenN, c_mapC, c_mapN, c_get0, c_getS, c_appC, c_appN, c_repS, c_rep0, c_anyC, c_anyN, c_decT, c_decF, c_orF, c_orT, c_Tor, c_For, c_nT, c_nF, c_Tand, c_andT, c_decE, c_oms, c_ifT, c_ifF, c_fT, q_add_ii, q_add_ss, q_add_tt, q_add_l, q_add_r, q_sub, q_mul, q_mul_l, q_mul_s, q_fdiv, q_mod, q_pow, q_xor, q_bor, q_band, q_seqH_l, q_seqH_r, q_seq_l, q_seq_s, q_seq_r, q_seq_t, q_itm_t, q_itm_l, q_itm_s, q_itm_r, q_len_str, q_len_t, q_len_l, q_len_s, q_len_r, q_tr_n, q_tr_b, q_tr_i, q_tr_str, q_tr_t, q_tr_l, q_tr_s, q_tr_r, q_eq, q_ne, q_lt, q_le, q_gt, q_ge, q_inn, q_nin, q_is_n, q_is_b, q_is_i, q_is_str, q_is_t, q_is_l, q_is_r, q_is_bb, q_ns_bb, q_ns_n, q_ns_b, q_ns_i, q_ns_str, q_ns_t, q_ns_l, q_ns_r, q_eq_ii, q_eq_ss, q_eq_bb, q_eq_nn, q_idx_t, q_idx_l, q_idx_s, q_idx_str, q_idx_r, at_0, at_1, at_2, at_3, at_4, at_5, q_bf_len, q_bf_abs, q_bf_int, q_bf_intb, q_bf_bool, q_bf_tup, q_imT_t, q_imT_l, q_imT_s, q_imT_r, q_itm_p, q_len_p, q_idx_p, q_walk_p, q_asg_p, q_bf_lst, q_bf_all, q_bf_any, q_bf_min2, q_bf_max2, q_bf_sum, q_bf_ord, q_ty_n, q_ty_b, q_ty_i, q_ty_str, q_ty_t, q_ty_l, q_ty_s, q_ty_r, q_app, q_ext, q_pop, q_popI, q_join, q_rcv_app, q_rcv_ext, q_rcv_pop, q_rcv_join, q_rcv_sidx, q_rcv_scnt, q_rcv_sfnd, q_sidx, q_scnt, q_sfnd, q_sl_str, q_sl_t, q_sl_l, q_sl_r, q_sl_s, q_frz_r, q_frz_l, q_frz_str, q_frz_t, q_frz_b, q_frz_n, q_frz_i, q_walk_t, q_walk_l, q_walk_s, q_walk_str, q_fix_t, q_fix_l, q_asg_n, q_asg_t, q_asgs_n, q_asgs_c, q_rg_t, q_rg_f, Nat.reduceAdd, Nat.reduceSub, reduceCtorEq, Int.reduceToNat, Int.reduceLT, Int.reduceLE, Int.reduceNeg, ga, gq, gu]
      refine ⟨by omega, by omega, ?_⟩
      exact rest _ _ (by omega) (by omega) (by omega)
    · rw [decide_eq_false h1]
      exact rest _ _ hx hk.1 hk.2
  · rw [if_neg h0]
    exact rest _ _ hx hk.1 hk.2
theorem allInts {ns : List Int} : ∀ d ∈ ns.map D.int, ∃ i, d = .int i := by
  intro d h
  obtain ⟨i, _, rfl⟩ := List.mem_map.mp h
  exact ⟨i, rfl⟩
theorem stream_run {Γ : Gam} {ns : List D} {G : HD} {E : EndsD} (hns : ∀ d ∈ ns, ∃ i, d = .int i)
    (h : ∀ p q m, G q = none → (updD G q (.lst ns)) p = none → 0 ≤ m → m < 2147483647 → E.rt (.ref p) (updD (updD G q (.lst ns)) p (.lst [.ref q, .int 0, .int 0, .int m]))) :
    wSs Γ b_stream E [some (.scr ns), none, none] G := by
  simp only [b_stream, Gam.isb, ok_some, ok_none, newL_t, newL_f, isTy, wipeD, isNo, wPart, wE, wEs, wBo, wT, wTs, wI, wSU, offD, onD, wS, wSs, startD, c_getD0, c_getDS, c_set0, c_setS, c_lenC, c_lenN, c_mapC, c_mapN, c_get0, c_getS, c_appC, c_appN, c_repS, c_rep0, c_anyC, c_anyN, c_decT, c_decF, c_orF, c_orT, c_Tor, c_For, c_nT, c_nF, c_Tand, c_andT, c_decE, c_oms, c_ifT, c_ifF, c_fT, q_add_ii, q_add_ss, q_add_tt, q_add_l, q_add_r, q_sub, q_mul, q_mul_l, q_mul_s, q_fdiv, q_mod, q_pow, q_xor, q_bor, q_band, q_seqH_l, q_seqH_r, q_seq_l, q_seq_s, q_seq_r, q_seq_t, q_itm_t, q_itm_l, q_itm_s, q_itm_r, q_len_str, q_len_t, q_len_l, q_len_s, q_len_r, q_tr_n, q_tr_b, q_tr_i, q_tr_str, q_tr_t, q_tr_l, q_tr_s, q_tr_r, q_eq, q_ne, q_lt, q_le, q_gt, q_ge, q_inn, q_nin, q_is_n, q_is_b, q_is_i, q_is_str, q_is_t, q_is_l, q_is_r, q_is_bb, q_ns_bb, q_ns_n, q_ns_b, q_ns_i, q_ns_str, q_ns_t, q_ns_l, q_ns_r, q_eq_ii, q_eq_ss, q_eq_bb, q_eq_nn, q_idx_t, q_idx_l, q_idx_s, q_idx_str, q_idx_r, at_0, at_1, at_2, at_3, at_4, at_5, q_bf_len, q_bf_abs, q_bf_int, q_bf_intb, q_bf_bool, q_bf_tup, q_imT_t, q_imT_l, q_imT_s, q_imT_r, q_itm_p, q_len_p, q_idx_p, q_walk_p, q_asg_p, q_bf_lst, q_bf_all, q_bf_any, q_bf_min2, q_bf_max2, q_bf_sum, q_bf_ord, q_ty_n, q_ty_b, q_ty_i, q_ty_str, q_ty_t, q_ty_l, q_ty_s, q_ty_r, q_app, q_ext, q_pop, q_popI, q_join, q_rcv_app, q_rcv_ext, q_rcv_pop, q_rcv_join, q_rcv_sidx, q_rcv_scnt, q_rcv_sfnd, q_sidx, q_scnt, q_sfnd, q_sl_str, q_sl_t, q_sl_l, q_sl_r, q_sl_s, q_frz_r, q_frz_l, q_frz_str, q_frz_t, q_frz_b, q_frz_n, q_frz_i, q_walk_t, q_walk_l, q_walk_s, q_walk_str, q_fix_t, q_fix_l, q_asg_n, q_asg_t, q_asgs_n, q_asgs_c, q_rg_t, q_rg_f, Nat.reduceAdd, Nat.reduceSub, reduceCtorEq, Int.reduceToNat, Int.reduceLT, Int.reduceLE, Int.reduceNeg]
  refine wFor_ind (fun xs σ H => (∀ d ∈ xs, ∃ i, d = .int i) ∧ H = G ∧ ∃ m o, σ = [some (.scr ns), some (.int m), o] ∧ 0 ≤ m ∧ m < 2147483647) ?_ ?_ _ _ _ ⟨hns, rfl, 17, none, rfl, by decide, by decide⟩
  · rintro σ H ⟨_, rfl, m, o, rfl, h1, h2⟩
    simp only [Gam.isb, ok_some, ok_none, newL_t, newL_f, isTy, wipeD, isNo, wPart, wE, wEs, wBo, wT, wTs, wI, wSU, offD, onD, wS, wSs, startD, c_getD0, c_getDS, c_set0, c_setS, c_lenC, c_lenN, c_mapC, c_mapN, c_get0, c_getS, c_appC, c_appN, c_repS, c_rep0, c_anyC, c_anyN, c_decT, c_decF, c_orF, c_orT, c_Tor, c_For, c_nT, c_nF, c_Tand, c_andT, c_decE, c_oms, c_ifT, c_ifF, c_fT, q_add_ii, q_add_ss, q_add_tt, q_add_l, q_add_r, q_sub, q_mul, q_mul_l, q_mul_s, q_fdiv, q_mod, q_pow, q_xor, q_bor, q_band, q_seqH_l, q_seqH_r, q_seq_l, q_seq_s, q_seq_r, q_seq_t, q_itm_t, q_itm_l, q_itm_s, q_itm_r, q_len_str, q_len_t, q_len_l, q_len_s, q_len_r, q_tr_n, q_tr_b, q_tr_i, q_tr_str, q_tr_t, q_tr_l, q_tr_s, q_tr_r, q_eq, q_ne, q_lt, q_le, q_gt, q_ge, q_inn, q_nin, q_is_n, q_is_b, q_is_i, q_is_str, q_is_t, q_is_l, q_is_r, q_is_bb, q_ns_bb, q_ns_n, q_ns_b, q_ns_i, q_ns_str, q_ns_t, q_ns_l, q_ns_r, q_eq_ii, q_eq_ss, q_eq_bb, q_eq_nn, q_idx_t, q_idx_l, q_idx_s, q_idx_str, q_idx_r, at_0, at_1, at_2, at_3, at_4, at_5, q_bf_len, q_bf_abs, q_bf_int, q_bf_intb, q_bf_bool, q_bf_tup, q_imT_t, q_imT_l, q_imT_s, q_imT_r, q_itm_p, q_len_p, q_idx_p, q_walk_p, q_asg_p, q_bf_lst, q_bf_all, q_bf_any, q_bf_min2, q_bf_max2, q_bf_sum, q_bf_ord, q_ty_n, q_ty_b, q_ty_i, q_ty_str, q_ty_t, q_ty_l, q_ty_s, q_ty_r, q_app, q_ext, q_pop, q_popI, q_join, q_rcv_app, q_rcv_ext, q_rcv_pop, q_rcv_join, q_rcv_sidx, q_rcv_scnt, q_rcv_sfnd, q_sidx, q_scnt, q_sfnd, q_sl_str, q_sl_t, q_sl_l, q_sl_r, q_sl_s, q_frz_r, q_frz_l, q_frz_str, q_frz_t, q_frz_b, q_frz_n, q_frz_i, q_walk_t, q_walk_l, q_walk_s, q_walk_str, q_fix_t, q_fix_l, q_asg_n, q_asg_t, q_asgs_n, q_asgs_c, q_rg_t, q_rg_f, Nat.reduceAdd, Nat.reduceSub, reduceCtorEq, Int.reduceToNat, Int.reduceLT, Int.reduceLE, Int.reduceNeg]
    intro q hq p hp
    exact h p q m hq hp h1 h2
  · rintro x xs ih σ H ⟨hx, rfl, m, o, rfl, h1, h2⟩
    obtain ⟨i, rfl⟩ := hx x List.mem_cons_self
    simp only [Gam.isb, ok_some, ok_none, newL_t, newL_f, isTy, wipeD, isNo, wPart, wE, wEs, wBo, wT, wTs, wI, wSU, offD, onD, wS, wSs, startD, c_getD0, c_getDS, c_set0, c_setS, c_lenC, c_lenN, c_mapC, c_mapN, c_get0, c_getS, c_appC, c_appN, c_repS, c_rep0, c_anyC, c_anyN, c_decT, c_decF, c_orF, c_orT, c_Tor, c_For, c_nT, c_nF, c_Tand, c_andT, c_decE, c_oms, c_ifT, c_ifF, c_fT, q_add_ii, q_add_ss, q_add_tt, q_add_l, q_add_r, q_sub, q_mul, q_mul_l, q_mul_s, q_fdiv, q_mod, q_pow, q_xor, q_bor, q_band, q_seqH_l, q_seqH_r, q_seq_l, q_seq_s, q_seq_r, q_seq_t, q_itm_t, q_itm_l, q_itm_s, q_itm_r, q_len_str, q_len_t, q_len_l, q_len_s, q_len_r, q_tr_n, q_tr_b, q_tr_i, q_tr_str, q_tr_t, q_tr_l, q_tr_s, q_tr_r, q_eq, q_ne, q_lt, q_le, q_gt, q_ge, q_inn, q_nin, q_is_n, q_is_b, q_is_i, q_is_str, q_is_t, q_is_l, q_is_r, q_is_bb, q_ns_bb, q_ns_n, q_ns_b, q_ns_i, q_ns_str, q_ns_t, q_ns_l, q_ns_r, q_eq_ii, q_eq_ss, q_eq_bb, q_eq_nn, q_idx_t, q_idx_l, q_idx_s, q_idx_str, q_idx_r, at_0, at_1, at_2, at_3, at_4, at_5, q_bf_len, q_bf_abs, q_bf_int, q_bf_intb, q_bf_bool, q_bf_tup, q_imT_t, q_imT_l, q_imT_s, q_imT_r, q_itm_p, q_len_p, q_idx_p, q_walk_p, q_asg_p, q_bf_lst, q_bf_all, q_bf_any, q_bf_min2, q_bf_max2, q_bf_sum, q_bf_ord, q_ty_n, q_ty_b, q_ty_i, q_ty_str, q_ty_t, q_ty_l, q_ty_s, q_ty_r, q_app, q_ext, q_pop, q_popI, q_join, q_rcv_app, q_rcv_ext, q_rcv_pop, q_rcv_join, q_rcv_sidx, q_rcv_scnt, q_rcv_sfnd, q_sidx, q_scnt, q_sfnd, q_sl_str, q_sl_t, q_sl_l, q_sl_r, q_sl_s, q_frz_r, q_frz_l, q_frz_str, q_frz_t, q_frz_b, q_frz_n, q_frz_i, q_walk_t, q_walk_l, q_walk_s, q_walk_str, q_fix_t, q_fix_l, q_asg_n, q_asg_t, q_asgs_n, q_asgs_c, q_rg_t, q_rg_f, Nat.reduceAdd, Nat.reduceSub, reduceCtorEq, Int.reduceToNat, Int.reduceLT, Int.reduceLE, Int.reduceNeg]
    refine ⟨.inr trivial, ih _ _ ⟨fun d hd => hx d (List.mem_cons_of_mem _ hd), rfl, _, _, rfl, Int.emod_nonneg _ (by decide), Int.emod_lt_of_pos _ (by decide)⟩⟩
def spDraw : SpD := fun ds G Q _ => ∃ n : Int, ds = [.rnd, .int n] ∧ (0 < n ∧ n < 2 ^ 200) ∧ ∀ r, 0 ≤ r → r < n → Q (.int r) G
def spStream : SpD := fun ds G Q _ => ∃ ns : List Int, ds = [.scr (ns.map .int)] ∧ Q .rnd G
def spDraw0 : SpD := fun ds G Q _ => ∃ (a q : Addr) (ns : List Int) (x k m n : Int), ds = [.ref a, .int n] ∧ q ≠ a ∧ G = rawG a q (ns.map .int) x k m ∧ (0 < n ∧ n < 2 ^ 200) ∧ 0 ≤ x ∧ (0 ≤ k ∧ k ≤ (ns.map D.int).length) ∧ (0 ≤ m ∧ m < 2147483647) ∧
  ∀ (r x' k' m' : Int), 0 ≤ r → r < n → 0 ≤ x' → 0 ≤ k' → k' ≤ (ns.map D.int).length → 0 ≤ m' → m' < 2147483647 → Q (.int r) (rawG a q (ns.map .int) x' k' m')
def spStream0 : SpD := fun ds G Q _ => ∃ ns : List Int, ds = [.scr (ns.map .int)] ∧ G = emp ∧ ∀ p q m, p ≠ q → 0 ≤ m → m < 2147483647 → Q (.ref p) (rawG p q (ns.map .int) 0 0 m)
def d_stream (st : Stmt) : Df := ⟨"_law_stream", ["script"], ["script", "mixed", "cell"], st, b_stream⟩
def d_draw (st : Stmt) : Df := ⟨"_law_draw", ["stream", "many"], ["stream", "many", "value"], st, b_draw⟩
theorem draw0_ok {Γ : Gam} {st : Stmt} (ds : List D) (G : HD) (QD : KD) (XD : KX) (h : spDraw0 ds G QD XD) :
    wSs Γ (d_draw st).b { nx := fun _ H => QD .non H, rt := QD, ex := fun x _ H => XD x H } (startD (d_draw st).N.length ds) G := by
  obtain ⟨a, q, ns, x, k, m, n, rfl, h1, rfl, h2, h3, h4, h5, h6⟩ := h
  exact draw_run h1 allInts h2 h3 h4 h5 h6
theorem stream0_ok {Γ : Gam} {st : Stmt} (ds : List D) (G : HD) (QD : KD) (XD : KX) (h : spStream0 ds G QD XD) :
    wSs Γ (d_stream st).b { nx := fun _ H => QD .non H, rt := QD, ex := fun x _ H => XD x H } (startD (d_stream st).N.length ds) G := by
  obtain ⟨ns, rfl, rfl, h⟩ := h
  exact stream_run allInts fun p q m hq hp h1 h2 => h p q m (fun e => by rw [e, updD_same] at hp; cases hp) h1 h2
section
variable {K : PySem.W.Frag} {fnm clm : Nat → Option Addr} {S S' : Addr → Option Bool} {H H' : Hp} {G G' : HD}
abbrev noS : Addr → Option Bool := fun _ => none
theorem ints_dat : ∀ {ns : List Int}, DatAll K fnm S H G (ns.map V.int) (ns.map D.int)
  | [] => .nil
  | n :: ns => .cons (.int n) ints_dat
theorem ints_back : ∀ {ns : List Int} {vs : List V}, DatAll K fnm S H G vs (ns.map D.int) → vs = ns.map V.int
  | [], _, .nil => rfl
  | n :: ns, _, .cons r t => by cases r; rw [ints_back t]; rfl
/-- a piece of code that saw the stream bare: back into the whole -/
theorem frame_draw {a q : Addr} {ns : List Int} {x k m : Int} (R : Hel K fnm clm S H G) (ha : S a = some true) (hq : G q = none) (sq : S q = none) (hz : ns.length ≤ sizeLine)
    {x' k' m' : Int} (hx : 0 ≤ x') (hk : 0 ≤ k') (hk2 : k' ≤ (ns.map D.int).length) (hm : 0 ≤ m') (hm2 : m' < 2147483647) (hqa : q ≠ a) (Hq : H q = some (.lst (ns.map V.int)))
    (st : Step noS H (rawG a q (ns.map .int) x k m) S' H' (rawG a q (ns.map .int) x' k' m')) (R' : Hel K fnm clm S' H' (rawG a q (ns.map .int) x' k' m')) : Step S H G S H' G ∧ Hel K fnm clm S H' G := by
  have g0 : ∀ b, b ≠ a → b ≠ q → rawG a q (ns.map .int) x k m b = none := fun b h1 h2 => (updD_ne h1).trans ((updD_ne h2).trans rfl)
  have stay : ∀ b o, b ≠ a → H b = some o → H' b = some o := fun b o h1 e => by
    by_cases h2 : b = q
    · subst h2
      obtain ⟨vs, e1, e2, e3⟩ := R'.cell b (.lst (ns.map .int)) ((updD_ne h1).trans updD_same)
      rw [e1, ints_back e3, ← Hq, e]
    · exact st.stay b o e (g0 b h1 h2) (by simp [noS])
  have S0 : Step S H G S H' G := ⟨fun b o e g s => stay b o (fun z => by rw [z] at s; exact s ha) e, fun _ _ h => h, fun _ h => h.elim .inl fun x => .inr (.inl x), fun _ h => .inl h, st.there⟩
  refine ⟨S0, fun b c e => ?_, fun b e => ?_, fun b e => ?_⟩
  · have h1 : b ≠ a := fun z => by rw [z, (R.rnd a ha).1] at e; cases e
    have hb := R.there (a := b) (.inl (by rw [e]; simp))
    refine (R.cell b c e).step R S0 ?_
    cases hh : H b with
    | none => exact absurd hh hb
    | some o => rw [stay b o h1 hh]
  · refine ⟨(R.rnd b e).1, ?_⟩
    by_cases h1 : b = a
    · subst h1
      obtain ⟨vs, e1, e2, e3⟩ := R'.cell b _ updD_same
      cases e3 with
      | cons r1 t =>
        cases t with
        | cons r2 t =>
          cases t with
          | cons r3 t =>
            cases t with
            | cons r4 t =>
              cases t
              cases r1; cases r2; cases r3; cases r4
              refine ⟨q, ns, x', k', m', e1, stay q _ hqa Hq, hq, sq, hx, hk, by simpa using hk2, hm, hm2, hz⟩
    · have hb := R.there (a := b) (.inr (by rw [e]; simp))
      refine (R.rnd b e).2.step R S0 ?_
      cases hh : H b with
      | none => exact absurd hh hb
      | some o => rw [stay b o h1 hh]
  · obtain ⟨g, r⟩ := R.res b e
    exact ⟨g, fun z => r (st.there b z)⟩
def addS (S : Addr → Option Bool) (p : Addr) : Addr → Option Bool := fun a => if a = p then some true else S a
theorem frame_stream {p q : Addr} {ns : List Int} {m : Int} (R : Hel K fnm clm S H G) (hz : ns.length ≤ sizeLine) (hm : 0 ≤ m) (hm2 : m < 2147483647) (hpq : p ≠ q)
    (st : Step noS H emp S' H' (rawG p q (ns.map .int) 0 0 m)) (R' : Hel K fnm clm S' H' (rawG p q (ns.map .int) 0 0 m)) : Step S H G (addS S p) H' G ∧ Hel K fnm clm (addS S p) H' G := by
  have Hp : H p = none := by
    rcases st.own p (.inl (by rw [show rawG p q (ns.map .int) 0 0 m p = _ from updD_same]; simp)) with h | h | h
    · exact absurd rfl h
    · cases h
    · exact h
  have Hq : H q = none := by
    rcases st.own q (.inl (by rw [show rawG p q (ns.map .int) 0 0 m q = _ from (updD_ne hpq.symm).trans updD_same]; simp)) with h | h | h
    · exact absurd rfl h
    · cases h
    · exact h
  have fp := R.free Hp
  have fq := R.free Hq
  have stay : ∀ b o, H b = some o → H' b = some o := fun b o e => st.stay b o e rfl (by simp [noS])
  have S0 : Step S H G (addS S p) H' G := by
    refine ⟨fun b o e g s => stay b o e, fun b v h => ?_, fun b h => ?_, fun b h => ?_, st.there⟩
    · unfold addS; rw [if_neg (fun z => by rw [z, fp.2] at h; cases h)]; exact h
    · rcases h with h | h
      · exact .inl h
      · unfold addS at h
        split at h
        · rename_i z; exact .inr (.inr (by rw [z]; exact Hp))
        · exact .inr (.inl h)
    · unfold addS at h
      split at h
      · cases h
      · exact .inl h
  have same : ∀ b, H b ≠ none → H' b = H b := fun b h => by
    cases hh : H b with
    | none => exact absurd hh h
    | some o => exact stay b o hh
  refine ⟨S0, fun b c e => (R.cell b c e).step R S0 (same b (R.there (.inl (by rw [e]; simp)))), fun b e => ?_, fun b e => ?_⟩
  · by_cases h1 : b = p
    · subst h1
      refine ⟨fp.1, ?_⟩
      obtain ⟨vs, e1, e2, e3⟩ := R'.cell b _ updD_same
      obtain ⟨ws, j1, j2, j3⟩ := R'.cell q (.lst (ns.map .int)) ((updD_ne hpq.symm).trans updD_same)
      cases e3 with
      | cons r1 t =>
        cases t with
        | cons r2 t =>
          cases t with
          | cons r3 t =>
            cases t with
            | cons r4 t =>
              cases t
              cases r1; cases r2; cases r3; cases r4
              rw [ints_back j3] at j1
              refine ⟨q, ns, 0, 0, m, e1, j1, fq.1, by unfold addS; rw [if_neg hpq.symm]; exact fq.2, by decide, by decide, by omega, hm, hm2, hz⟩
    · have e' : S b = some true := by unfold addS at e; rw [if_neg h1] at e; exact e
      exact ⟨(R.rnd b e').1, (R.rnd b e').2.step R S0 (same b (R.there (.inr (by rw [e']; simp))))⟩
  · have h1 : b ≠ p := fun z => by unfold addS at e; rw [if_pos z] at e; cases e
    have e' : S b = some false := by unfold addS at e; rw [if_neg h1] at e; exact e
    obtain ⟨g, r⟩ := R.res b e'
    exact ⟨g, fun z => r (st.there b z)⟩
theorem draw_imp {vs : List V} {Q : VK} {E : XK} (h : lift K fnm clm 2 spDraw vs H Q E) : lift K fnm clm 2 spDraw0 vs H Q E := by
  obtain ⟨hl, S, G, ds, QD, XD, R, r, ⟨n, rfl, hn, h⟩, hQ, hX⟩ := h
  cases r with
  | cons r1 t =>
    cases t with
    | cons r2 t =>
      cases t
      cases r1; cases r2
      rename_i a ha
      obtain ⟨g, q, ns, x, k, m, e1, e2, gq, sq, hx, hk, hk2, hm, hm2, hz⟩ := R.rnd a ha
      have hqa : q ≠ a := fun z => by rw [z, ha] at sq; cases sq
      refine ⟨hl, noS, rawG a q (ns.map .int) x k m, [.ref a, .int n], fun d G' => ∃ (r x' k' m' : Int), d = .int r ∧ G' = rawG a q (ns.map .int) x' k' m' ∧ 0 ≤ r ∧ r < n ∧ 0 ≤ x' ∧ 0 ≤ k' ∧ k' ≤ (ns.map D.int).length ∧ 0 ≤ m' ∧ m' < 2147483647, fun _ _ => False,
        ⟨fun b c e => ?_, fun b e => (by cases e), fun b e => (by cases e)⟩, .cons (.ref a) (.cons (.int n) .nil), ⟨a, q, ns, x, k, m, n, rfl, hqa, rfl, hn, hx, ⟨hk, by simpa using hk2⟩, ⟨hm, hm2⟩, fun r x' k' m' h1 h2 h3 h4 h5 h6 h7 => ⟨r, x', k', m', rfl, rfl, h1, h2, h3, h4, h5, h6, h7⟩⟩, ?_, fun x c S' H' G' _ _ _ z => z.elim⟩
      · by_cases h1 : b = a
        · subst h1
          rw [show rawG b q (ns.map .int) x k m b = _ from updD_same] at e
          cases e
          exact ⟨_, e1, by rw [lim_eq]; show 4 ≤ lim; decide, .cons (.ref q) (.cons (.int _) (.cons (.int _) (.cons (.int _) .nil)))⟩
        · have e : updD emp q (.lst (ns.map .int)) b = some c := (updD_ne h1).symm.trans e
          by_cases h2 : b = q
          · subst h2
            rw [updD_same] at e
            cases e
            exact ⟨_, e2, by rw [List.length_map]; exact hz, ints_dat⟩
          · rw [updD_ne h2] at e; cases e
      · rintro v S' H' d G' st R' rv ⟨r, x', k', m', rfl, rfl, h1, h2, h3, h4, h5, h6, h7⟩
        cases rv
        obtain ⟨k1, k2⟩ := frame_draw R ha gq sq hz h3 h4 h5 h6 h7 hqa e2 st R'
        exact hQ _ S H' _ G k1 k2 (.int r) (h r h1 h2)
theorem stream_imp {vs : List V} {Q : VK} {E : XK} (h : lift K fnm clm 1 spStream vs H Q E) : lift K fnm clm 1 spStream0 vs H Q E := by
  obtain ⟨hl, S, G, ds, QD, XD, R, r, ⟨ns, rfl, h⟩, hQ, hX⟩ := h
  cases r with
  | cons r1 t =>
    cases t
    obtain ⟨a, vs, rfl, e1, e2, e3⟩ := dat_scr r1
    have ev := ints_back e3
    subst ev
    have hz : ns.length ≤ sizeLine := by rw [List.length_map] at e2; exact e2
    have r1' : Dat K fnm noS H emp (.ref a) (.scr (ns.map .int)) := by
      cases r1 with
      | scr h1 h2 h3 => exact .scr h1 h2 (by cases ints_back h3; exact ints_dat)
    refine ⟨hl, noS, emp, [.scr (ns.map .int)], fun d G' => ∃ p q m, d = .ref p ∧ G' = rawG p q (ns.map .int) 0 0 m ∧ p ≠ q ∧ 0 ≤ m ∧ m < 2147483647, fun _ _ => False,
      ⟨fun b c e => (by cases e), fun b e => (by cases e), fun b e => (by cases e)⟩, .cons r1' .nil, ⟨ns, rfl, rfl, fun p q m h1 h2 h3 => ⟨p, q, m, rfl, rfl, h1, h2, h3⟩⟩, ?_, fun x c S' H' G' _ _ _ z => z.elim⟩
    rintro v S' H' d G' st R' rv ⟨p, q, m, rfl, rfl, h1, h2, h3⟩
    cases rv
    obtain ⟨k1, k2⟩ := frame_stream R hz h2 h3 h1 st R'
    exact hQ _ _ H' _ G k1 k2 (.rnd p (by unfold addS; rw [if_pos rfl])) h
end
section
variable {P : Program} {w : World} {K : PySem.W.Frag} {mg : Str → Option Value} {fnm clm : Nat → Option Addr} {C : Cfg} {Γ : Gam} {k : Nat}
theorem all_draw {i : Nat} {st : Stmt} (h : AllOk P w K mg fnm clm C Γ k) (W : Wd P w K mg clm Γ.gl Γ.sb C.gls C.cls) (hx : C.fns[i]? = some (("_law_draw" : Str), 2)) (hd : DfAt K mg fnm i (d_draw st)) (hm : defC C (d_draw st) = true) :
    AllOk P w K mg fnm clm C (Γ.up i spDraw) (k + 1) := by
  have hm2 : (mSs C (d_draw st).N (defScope st) (d_draw st).b (defBody st) && C8.scC (d_draw st).N (d_draw st).ps (defScope st)) = true := hm
  rw [Bool.and_eq_true] at hm2
  exact all_raw (d := d_draw st) h (Nat.le_succ _) hx hd fun f fd F base hb hg => (fn_good (Γ := Γ) (sp := spDraw0) W F (C8.fnScope_by hm2.2) hm2.1 h.2 h.1 (fun ds G QD XD _ h => draw0_ok ds G QD XD h) hb hg).imp fun vs H Q E h => draw_imp h
theorem all_stream {i : Nat} {st : Stmt} (h : AllOk P w K mg fnm clm C Γ k) (W : Wd P w K mg clm Γ.gl Γ.sb C.gls C.cls) (hx : C.fns[i]? = some (("_law_stream" : Str), 1)) (hd : DfAt K mg fnm i (d_stream st)) (hm : defC C (d_stream st) = true) :
    AllOk P w K mg fnm clm C (Γ.up i spStream) (k + 1) := by
  have hm2 : (mSs C (d_stream st).N (defScope st) (d_stream st).b (defBody st) && C8.scC (d_stream st).N (d_stream st).ps (defScope st)) = true := hm
  rw [Bool.and_eq_true] at hm2
  exact all_raw (d := d_stream st) h (Nat.le_succ _) hx hd fun f fd F base hb hg => (fn_good (Γ := Γ) (sp := spStream0) W F (C8.fnScope_by hm2.2) hm2.1 h.2 h.1 (fun ds G QD XD _ h => stream0_ok ds G QD XD h) hb hg).imp fun vs H Q E h => stream_imp h
end
end DL

namespace DL
open PySem PySem.Spec PyProof.Rows L2
/-! ## 17. The head -/
mutual
/-- is what stands at u this? -/
def datB (K : PySem.W.Frag) : D → Value → Bool
  | .non => fun u => match u with | .none => true | _ => false
  | .bl b => fun u => match u with | .bool c => b == c | _ => false
  | .int i => fun u => match u with | .int j _ => decide (j = i) | _ => false
  | .str s => fun u => match u with | .str x _ => decide (x = mkStr s) && PyData.strOk x && decide (s.length ≤ lim) | _ => false
  | .tup ds => fun u => match u with
    | .ref a => (match K.lookup a with
      | some ⟨.type c, none, .seq its _, _⟩ => decide (c = "tuple") && (decide (its.size ≤ 1000) && datsB K ds its.toList)
      | _ => false)
    | _ => false
  | .scr ds => fun u => match u with
    | .ref a => (match K.lookup a with
      | some ⟨.type c, none, .seq its _, _⟩ => decide (c = "list") && (decide (its.size ≤ 1000) && datsB K ds its.toList)
      | _ => false)
    | _ => false
  | _ => fun _ => false
def datsB (K : PySem.W.Frag) : List D → List Value → Bool
  | [] => fun us => us.isEmpty
  | d :: ds => fun us => match us with
    | u :: us => datB K d u && datsB K ds us
    | [] => false
end
section
variable {K : PySem.W.Frag}
theorem size_lim {n : Nat} (h : n ≤ 1000) : n ≤ sizeLine := by rw [lim_eq]; unfold lim; omega
mutual
theorem datB_ok : ∀ (d : D) (u : Value), datB K d u = true → ∃ v, RelV v u ∧ ∀ fnm S H G, Dat K fnm S H G v d
  | .non, u, h => by
    unfold datB at h
    split at h
    · exact ⟨.non, rfl, fun _ _ _ _ => .non⟩
    · cases h
  | .bl b, u, h => by
    unfold datB at h
    split at h
    · exact ⟨.bl b, by rw [beq_iff_eq] at h; subst h; rfl, fun _ _ _ _ => .bl b⟩
    · cases h
  | .int i, u, h => by
    unfold datB at h
    split at h
    · cases of_decide_eq_true h
      exact ⟨.int i, ⟨_, rfl⟩, fun _ _ _ _ => .int i⟩
    · cases h
  | .str s, u, h => by
    unfold datB at h
    split at h
    · simp only [Bool.and_eq_true, decide_eq_true_eq] at h
      obtain ⟨⟨rfl, h2⟩, h3⟩ := h
      exact ⟨.str (mkStr s), ⟨_, rfl⟩, fun _ _ _ _ => .str s h2 (by rw [lim_eq]; exact h3)⟩
    · cases h
  | .tup ds, u, h => by
    unfold datB at h
    split at h
    · split at h
      · rename_i a _ c its n sl e
        simp only [Bool.and_eq_true, decide_eq_true_eq] at h
        obtain ⟨h1, h2, h3⟩ := h
        subst h1
        obtain ⟨vs, r, q⟩ := datsB_ok ds its.toList h3
        have hl : vs.length ≤ 1000 := by rw [r.length]; simpa using h2
        exact ⟨.ref a, rfl, fun fnm S H G => .tup (.inr ⟨_, its, n, e, rfl, rfl, rfl, size_lim h2, r⟩) (size_lim hl) (q fnm S H G)⟩
      · cases h
    · cases h
  | .scr ds, u, h => by
    unfold datB at h
    split at h
    · split at h
      · rename_i a _ c its n sl e
        simp only [Bool.and_eq_true, decide_eq_true_eq] at h
        obtain ⟨h1, h2, h3⟩ := h
        subst h1
        obtain ⟨vs, r, q⟩ := datsB_ok ds its.toList h3
        have hl : vs.length ≤ 1000 := by rw [r.length]; simpa using h2
        exact ⟨.ref a, rfl, fun fnm S H G => .scr (.inr ⟨_, its, n, e, rfl, rfl, rfl, size_lim h2, r⟩) (size_lim hl) (q fnm S H G)⟩
      · cases h
    · cases h
  | .lst _, u, h => by unfold datB at h; cases h
  | .ref _, u, h => by unfold datB at h; cases h
  | .rnd, u, h => by unfold datB at h; cases h
  | .ty _, u, h => by unfold datB at h; cases h
  | .fn _, u, h => by unfold datB at h; cases h
theorem datsB_ok : ∀ (ds : List D) (us : List Value), datsB K ds us = true → ∃ vs, Vals vs us ∧ ∀ fnm S H G, DatAll K fnm S H G vs ds
  | [], us, h => by
    unfold datsB at h
    cases us with
    | nil => exact ⟨[], .nil, fun _ _ _ _ => .nil⟩
    | cons _ _ => cases h
  | d :: ds, us, h => by
    unfold datsB at h
    split at h
    · rename_i u us
      simp only [Bool.and_eq_true] at h
      obtain ⟨v, r, q⟩ := datB_ok d u h.1
      obtain ⟨vs, rs, qs⟩ := datsB_ok ds us h.2
      exact ⟨v :: vs, .cons r rs, fun fnm S H G => .cons (q fnm S H G) (qs fnm S H G)⟩
    · cases h
end
end
/-- is this an own exception class, plain in all that isinstance asks? -/
def excB (K : PySem.W.Frag) (c : Addr) : Bool :=
  He.eqO (PySem.W.findIn K (.ref c) "__getattribute__") (some (some (.builtin "BaseException.__getattribute__"))) && (He.eqO (PySem.W.findIn K (.ref c) "__getattr__") (some none) &&
  (decide (PySem.W.subIn K (.ref c) (.type "BaseException") = some true) && (PySem.W.hasDictIn K c && (He.eqO (PySem.W.findIn K (.ref c) "__class__") (some (some (.builtin "object.__class__"))) &&
  (He.eqO (PySem.W.specialIn K (.builtin "object.__class__") "__get__") (some (some (.builtin "getset_descriptor.__get__"))) && (decide (PySem.W.takesIn K (.builtin "object.__class__") = some true) && (decide (PySem.W.mroIn K c (.type "object") = some true) &&
  decide (PySem.W.kitOne K (.ref c) (.type "ValueError") = some true))))))))
theorem excB_ok {K : PySem.W.Frag} {c : Addr} (h : excB K c = true) : L2.ExcC K c ∧ PySem.W.kitOne K (.ref c) (.type "ValueError") = some true := by
  unfold excB at h
  simp only [Bool.and_eq_true, decide_eq_true_eq] at h
  obtain ⟨h1, h2, h3, h4, h5, h6, h7, h8, h9⟩ := h
  exact ⟨⟨He.eqO_ok h1, He.eqO_ok h2, h3, h4, He.eqO_ok h5, He.eqO_ok h6, h7, h8⟩, h9⟩
/-- the exception classes, each below which -/
def xcB (cls : List Str) (sb : Nat → Nat → Bool) (K : PySem.W.Frag) : Bool := cls.all (fun x => excB K (He.ga K x)) && (List.range cls.length).all fun i => (List.range cls.length).all fun j =>
  decide (PySem.W.exmOne K (.ref (He.ga K (cls.getD i ""))) (.ref (He.ga K (cls.getD j ""))) = some (sb i j)) && decide (PySem.W.kitOne K (.ref (He.ga K (cls.getD i ""))) (.ref (He.ga K (cls.getD j ""))) = some (sb i j))
def glsB (gl : List (Str × D)) (K : PySem.W.Frag) : Bool := gl.all fun p => match PySem.W.nsIn K mainGlobals p.1 with
  | some (some u) => datB K p.2 u
  | _ => false
abbrev AlX : Type := He.AlD × Bool
def obX (n : Nat) (fa : List He.Fa) (fn : List He.DefD) (gl : List (Str × D)) (cls : List Str) (sb : Nat → Nat → Bool) (g : Addr → Option Obj) : AlX := (fun K => (He.obsD fa fn K, glsB gl K && xcB cls sb K)) (He.frG g (He.asD g n))
def hookX (n : Nat) (fa : List He.Fa) (fn : List He.DefD) (gl : List (Str × D)) (cls : List Str) (sb : Nat → Nat → Bool) : PySem.W.Hook where
  α := AlX
  obs := fun s => obX n fa fn gl cls sb s.heap.get?
  val := fun _ => (He.valD fn, true)
  says := fun _ h => ∃ K : PySem.W.Frag, K.In h ∧ He.SaysD fa fn K ∧ (glsB gl K && xcB cls sb K) = true
  of := fun _ _ e => ⟨_, He.frG_in, congrArg Prod.fst e, congrArg Prod.snd e⟩
  keeps := fun _ _ _ ⟨K, hK, c⟩ k => ⟨K, PySem.W.Frag.In.keeps hK k, c⟩
theorem obX_eq {n : Nat} {fa : List He.Fa} {fn : List He.DefD} {gl : List (Str × D)} {cls : List Str} {sb : Nat → Nat → Bool} {g : Addr → Option Obj} {s : Shared} (h : ∀ a, g a = s.heap.get? a) : obX n fa fn gl cls sb g = (hookX n fa fn gl cls sb).obs s := by
  have e : g = s.heap.get? := funext h
  rw [e] <;> rfl
/-- a def as the head looks at it -/
def Df.he (d : Df) : He.DefD := ⟨d.at_, d.nm, d.x, defArgs d.st, defBody d.st, defScope d.st, [], []⟩
def Df.fa (d : Df) : He.Fa := match d.m with | none => .glo d.x | some p => .meth p.1 p.2
def Oc.fa (o : Oc) : List He.Fa := .glo o.x :: .cls o.x :: (o.fds.map (He.Fa.noat o.x) ++ (o.mts.map (fun p => He.Fa.meth o.x p.1) ++ (match o.ini with | none => [] | some _ => [.mkr o.x])))
def faOf (dfs : List Df) (cls : List Str) (ocs : List Oc) : List He.Fa := (dfs.map Df.fa) ++ (bltNames.map He.Fa.free ++ (cls.map He.Fa.glo ++ (cls.map He.Fa.exc ++ ocs.flatMap Oc.fa)))
/-- the methods' defs stand where the classes say -/
def ocsB (dfs : List Df) (ocs : List Oc) : Bool := decide (dfs.length < 1000) && (ocs.all fun o => o.mts.all (fun p => decide ((dfs[p.2]?).map Df.m = some (some (o.x, p.1)))) && (match o.ini with | none => true | some i => decide ((dfs[i]?).map Df.m = some (some (o.x, ("__init__" : Str))))))
def BindsH (d : Df) : Prop := ∀ (kV doc pm : Value) (an : Option Addr) (cdv ct : Value) (us : List Value), us.length = d.ps.length →
  bindArgs (PySem.W.fnOf d.nm d.x (defArgs d.st) (defBody d.st) (defScope d.st) .none kV doc pm an cdv ct) ⟨us, []⟩ = pure (d.ps.zip us)
def fnmOf (K : PySem.W.Frag) (dfs : List Df) (ocs : List Oc) (i : Nat) : Option Addr := match dfs[i]? with | some d => some (He.fAd K d.at_) | none => (ocs[i - 1000]?).map fun o => He.ga K o.x
def clmOf (K : PySem.W.Frag) (cls : List Str) (i : Nat) : Option Addr := (cls[i]?).map (He.ga K)
section
variable {P : Program} {w : World} {K : PySem.W.Frag} {h : Heap} {mg : Str → Option Value} {dfs : List Df} {cls : List Str} {ocs : List Oc} {gl : List (Str × D)} {sb : Nat → Nat → Bool} {n : Nat}
theorem fact_in (c : He.SaysD (faOf dfs cls ocs) (dfs.map Df.he) K) {f : He.Fa} (hf : f ∈ faOf dfs cls ocs) : f.ok K = true := by
  obtain ⟨i, hi, e⟩ := List.mem_iff_getElem.mp hf
  exact c.fact i (f := f) (by rw [List.getElem?_eq_getElem hi, e])
theorem glv_of (p : Nat → D) (i : Nat) {x : Str} {gl : List (Str × D)} (e : (gl.map (·.1))[i]? = some x) : ∃ d, gl[i]? = some (x, d) := by
  rw [List.getElem?_map] at e
  obtain ⟨q, h1, h2⟩ := Option.map_eq_some_iff.mp e
  exact ⟨q.2, by rw [h1, ← h2]⟩
def glD (gl : List (Str × D)) (i : Nat) : D := match gl[i]? with | some p => p.2 | none => .non
theorem wd_of (X : K.In h) (G : h.Ns mainGlobals mg) (c : He.SaysD (faOf dfs cls ocs) (dfs.map Df.he) K) (gx : (glsB gl K && xcB cls sb K) = true) : Wd P w K mg (clmOf K cls) (glD gl) sb (gl.map (·.1)) cls := by
  rw [Bool.and_eq_true] at gx
  obtain ⟨g, gc⟩ := gx
  unfold xcB at gc
  rw [Bool.and_eq_true] at gc
  have at_ : ∀ {i : Nat} {c : Addr}, clmOf K cls i = some c → i < cls.length ∧ cls.getD i "" ∈ cls ∧ c = He.ga K (cls.getD i "") := fun {i c} e => by
    unfold clmOf at e
    obtain ⟨x, h1, h2⟩ := Option.map_eq_some_iff.mp e
    have hd : cls.getD i "" = x := by rw [List.getD_eq_getElem?_getD, h1]; rfl
    rw [hd]
    exact ⟨(List.getElem?_eq_some_iff.mp h1).1, List.mem_of_getElem? h1, h2.symm⟩
  have pair : ∀ {i j : Nat} {c d : Addr}, clmOf K cls i = some c → clmOf K cls j = some d → PySem.W.exmOne K (.ref c) (.ref d) = some (sb i j) ∧ PySem.W.kitOne K (.ref c) (.ref d) = some (sb i j) := fun {i j c d} e1 e2 => by
    obtain ⟨l1, _, rfl⟩ := at_ e1
    obtain ⟨l2, _, rfl⟩ := at_ e2
    have q := List.all_eq_true.mp (List.all_eq_true.mp gc.2 i (List.mem_range.mpr l1)) j (List.mem_range.mpr l2)
    simp only [Bool.and_eq_true, decide_eq_true_eq] at q
    exact q
  refine ⟨fun i j c d e1 e2 => (pair e1 e2).1, fun i c e => ?_, fun x hx => He.free_ok X G (fact_in c (List.mem_append_right _ (List.mem_append_left _ (List.mem_map_of_mem hx)))), fun i x e => ?_, fun i x e => ?_⟩
  · obtain ⟨_, m, rfl⟩ := at_ e
    obtain ⟨q1, q2⟩ := excB_ok (List.all_eq_true.mp gc.1 _ m)
    exact ⟨q1, q2, fun j d e2 => (pair e e2).2⟩
  · obtain ⟨d, e2⟩ := glv_of (glD gl) i e
    have q := List.all_eq_true.mp g _ (List.mem_of_getElem? e2)
    cases e3 : PySem.W.nsIn K mainGlobals x with
    | none => simp [e3] at q
    | some o =>
      cases o with
      | none => simp [e3] at q
      | some u =>
        simp only [e3] at q
        obtain ⟨v, r, hd⟩ := datB_ok d u q
        refine ⟨u, v, PySem.W.mg_of X G e3, r, fun fnm S H G => ?_⟩
        unfold glD
        rw [e2]
        exact hd fnm S H G
  · have m : x ∈ cls := List.mem_of_getElem? e
    obtain ⟨h1, h2, h3, h4⟩ := He.exc_ok (fact_in c (List.mem_append_right _ (List.mem_append_right _ (List.mem_append_right _ (List.mem_append_left _ (List.mem_map_of_mem m))))))
    refine ⟨He.ga K x, by unfold clmOf; rw [e]; rfl, He.glo_ok X G (fact_in c (List.mem_append_right _ (List.mem_append_right _ (List.mem_append_left _ (List.mem_map_of_mem m))))), h1, h2, h3, h4⟩
theorem df_at (X : K.In h) (G : h.Ns mainGlobals mg) (c : He.SaysD (faOf dfs cls ocs) (dfs.map Df.he) K) (ob : ocsB dfs ocs = true) (b : ∀ d ∈ dfs, BindsH d) {i : Nat} {d : Df} (e : dfs[i]? = some d) : DfAt K mg (fnmOf K dfs ocs) i d := by
  have m : d ∈ dfs := List.mem_of_getElem? e
  obtain ⟨fd, F⟩ := c.def_ i (d := d.he) (by rw [List.getElem?_map, e]; rfl)
  have F : FunD K d.nm d.x (defArgs d.st) (defBody d.st) (defScope d.st) [] [] (He.fAd K d.at_) fd := F
  refine ⟨_, fd, by unfold fnmOf; rw [e], fun nd => ?_, F.bindsN (b d m), F⟩
  have hf := fact_in c (List.mem_append_left _ (List.mem_map_of_mem (f := Df.fa) m))
  have q : d.m = none := by unfold Df.m; rw [nd]
  have e1 : d.fa = .glo d.x := by unfold Df.fa; rw [q]
  have e2 : d.at_ = (d.x, none) := by unfold Df.at_; rw [q]
  rw [e1] at hf
  rw [e2]
  exact He.glo_ok X G hf
theorem oc_at (X : K.In h) (G : h.Ns mainGlobals mg) (c : He.SaysD (faOf dfs cls ocs) (dfs.map Df.he) K) (ob : ocsB dfs ocs = true) {j : Nat} {o : Oc} (e : ocs[j]? = some o) : OcAt K mg (fnmOf K dfs ocs) j o := by
  have m : o ∈ ocs := List.mem_of_getElem? e
  have fs : ∀ f ∈ o.fa, f.ok K = true := fun f hf => fact_in c (List.mem_append_right _ (List.mem_append_right _ (List.mem_append_right _ (List.mem_append_right _ (List.mem_flatMap.mpr ⟨o, m, hf⟩)))))
  unfold ocsB at ob
  simp only [Bool.and_eq_true, decide_eq_true_eq] at ob
  obtain ⟨o1, o3⟩ := ob
  have o4 := List.all_eq_true.mp o3 o m
  simp only [Bool.and_eq_true] at o4
  have meth : ∀ (i : Nat) (s : Str), (dfs[i]?).map Df.m = some (some (o.x, s)) → fnmOf K dfs ocs i = some (He.ma K (He.ga K o.x) s) := fun i s q => by
    obtain ⟨d, q1, q2⟩ := Option.map_eq_some_iff.mp q
    unfold fnmOf
    rw [q1]
    show some (He.fAd K d.at_) = _
    have : d.at_ = (o.x, some s) := by unfold Df.at_; rw [q2]
    rw [this]
    rfl
  refine ⟨He.ga K o.x, ?_, He.glo_ok X G (fs _ List.mem_cons_self), He.cls_ok (fs _ (List.mem_cons_of_mem _ List.mem_cons_self)), fun f hf => He.noat_ok (fs _ (List.mem_cons_of_mem _ (List.mem_cons_of_mem _ (List.mem_append_left _ (List.mem_map_of_mem hf))))), fun p hp => ?_, fun i hi => ?_⟩
  · unfold fnmOf
    rw [List.getElem?_eq_none (by omega)]
    show (ocs[1000 + j - 1000]?).map _ = _
    rw [Nat.add_sub_cancel_left, e]
    rfl
  · exact ⟨_, meth p.2 p.1 (of_decide_eq_true (List.all_eq_true.mp o4.1 p hp)), He.meth_ok (fs _ (List.mem_cons_of_mem _ (List.mem_cons_of_mem _ (List.mem_append_right _ (List.mem_append_left _ (List.mem_map_of_mem (f := fun p => He.Fa.meth o.x p.1) hp))))))⟩
  · have o5 := o4.2
    rw [hi] at o5
    refine ⟨_, meth i "__init__" (of_decide_eq_true o5), He.mkr_ok (fs _ (List.mem_cons_of_mem _ (List.mem_cons_of_mem _ (List.mem_append_right _ (List.mem_append_right _ ?_)))))⟩
    rw [hi]
    exact List.mem_cons_self
theorem bot_of (X : K.In h) (G : h.Ns mainGlobals mg) (c : He.SaysD (faOf dfs cls ocs) (dfs.map Df.he) K) (b : ∀ d ∈ dfs, BindsH d) (ob : ocsB dfs ocs = true) {C : Cfg} (hC : C.fns = dfs.map fun d => (d.x, d.ps.length)) (hO : C.ocs = ocs) {g : Nat → D} :
    AllOk P w K mg (fnmOf K dfs ocs) (clmOf K cls) C { sp := fun _ => bot, gl := g, sb := sb } 0 := by
  refine all_bot (fun i x e => ?_) fun j o e => oc_at X G c ob (by rw [← hO]; exact e)
  rw [hC, List.getElem?_map] at e
  obtain ⟨d, e1, e2⟩ := Option.map_eq_some_iff.mp e
  exact ⟨d, e2.symm, df_at X G c ob b e1⟩
end
/-! ### the end -/
def spLaw : SpD := fun ds G Q _ => ∃ ns : List Int, ds = [.scr (ns.map .int)] ∧ G = emp ∧ ∀ G', Q (.bl true) G'
theorem noX {P : Program} {w : World} {K : PySem.W.Frag} {mg : Str → Option Value} {base : Heap} {k : Nat} {f : Addr} {fd : FuncData} {ps : List Str} {sp : Sp} (F : FnOk P w K mg base (L2.CX P w) k f fd ps sp) :
    FnOk P w K mg base CX0 k f fd ps (fun vs H Q _ => sp vs H Q fun _ _ _ => False) :=
  ⟨fun vs H Q E h => F.len _ _ _ _ h, fun A outer s H args us vs Q E hr he hb hv hs => codeAny_mono (F.run A outer s H args us vs Q (fun _ _ _ => False) hr he hb hv hs) fun r s' c => by
    cases r with
    | ok x => cases x <;> first | exact c | exact c.elim
    | error e => obtain ⟨_, _, _, _, _, _, _, _, _, _, _, _, z⟩ := c; exact z⟩
theorem law_sp {K : PySem.W.Frag} {fnm clm : Nat → Option Addr} (H : Hp) (a : Addr) (ns : List Int) (hl : ns.length ≤ 63) (hO : Only H) (hS : SqL K H a (ns.map V.int)) : lift K fnm clm 1 spLaw [.ref a] H (fun v _ => v = .bl true) fun _ _ _ => False := by
  have hz : (ns.map V.int).length ≤ sizeLine := by rw [List.length_map, lim_eq]; unfold lim; omega
  have r : Dat K fnm noS H emp (.ref a) (.scr (ns.map .int)) := by
    rcases hS with (h | ⟨o, h⟩) | h
    · rcases hO a with q | ⟨o, xs, q⟩ <;> (rw [q] at h; cases h)
    · exact .scr (.inl ⟨o, h⟩) hz ints_dat
    · exact .scr (.inr h) hz ints_dat
  refine ⟨rfl, noS, emp, [.scr (ns.map .int)], fun d _ => d = .bl true, fun _ _ => False, ⟨fun b c e => (by cases e), fun b e => (by cases e), fun b e => (by cases e)⟩, .cons r .nil, ⟨ns, rfl, rfl, fun _ => rfl⟩, ?_, fun _ _ _ _ _ _ _ _ z => z.elim⟩
  rintro v S' H' d G' st R' rv rfl
  cases rv
  rfl
end DL

namespace DL
open PySem PySem.Spec PyProof.Rows L2
/-! ## 18. Helps for laws -/
theorem get_in {rows : List D} {r : Int} (h0 : 0 ≤ r) (h1 : r < rows.length) : ∃ d ∈ rows, atI rows r = some d := by
  have hl : r.toNat < rows.length := by omega
  exact ⟨rows[r.toNat], List.getElem_mem hl, by rw [at_pos h0, List.getElem?_eq_getElem hl]⟩
theorem rngF_mem : ∀ {n : Nat} {lo : Int} {x : D}, x ∈ rngF 1 n lo → ∃ k : Nat, x = .int (lo + k) ∧ k < n
  | 0, _, _, h => by cases h
  | n + 1, lo, x, h => by
    rcases List.mem_cons.mp h with rfl | h
    · exact ⟨0, by simp, by omega⟩
    · obtain ⟨k, rfl, hk⟩ := rngF_mem h
      exact ⟨k + 1, by congr 1; omega, by omega⟩
theorem rng_mem {n : Nat} {x : D} (h : x ∈ rngL (0, n, 1)) : ∃ k : Nat, x = .int k ∧ k < n := by
  obtain ⟨k, rfl, hk⟩ := rngF_mem h
  exact ⟨k, by congr 1; omega, hk⟩
theorem all_true : ∀ {ds : List D}, (∀ d ∈ ds, d = .bl true) → ∃ bs, blsOf ds = some bs ∧ bs.all id = true
  | [], _ => ⟨[], rfl, rfl⟩
  | d :: ds, h => by
    obtain ⟨bs, h1, h2⟩ := all_true (ds := ds) fun x hx => h x (List.mem_cons_of_mem _ hx)
    have := h d List.mem_cons_self
    subst this
    exact ⟨true :: bs, by show (blsOf ds).map (true :: ·) = _; rw [h1]; rfl, by simpa using h2⟩
theorem cut_pre {α : Type} {xs : List α} {i : Int} (h : 0 ≤ i ∧ i ≤ xs.length) : cutL xs none (some i) = xs.take i.toNat := by
  obtain ⟨k, rfl⟩ := Int.eq_ofNat_of_zero_le h.1
  unfold cutL
  rw [HT.sIx_none, HT.sIx_nat, List.drop_zero, Nat.sub_zero, Nat.min_eq_left (by omega)]
  rfl
theorem cut_suf {α : Type} {xs : List α} {i : Int} (h : 0 ≤ i ∧ i ≤ xs.length) : cutL xs (some i) none = xs.drop i.toNat := by
  obtain ⟨k, rfl⟩ := Int.eq_ofNat_of_zero_le h.1
  unfold cutL
  rw [HT.sIx_none, HT.sIx_nat, Nat.min_eq_left (by omega)]
  show (xs.drop k).take _ = xs.drop k
  rw [List.take_of_length_le (by rw [List.length_drop]; omega)]
/-! ### pick -/
def spPick : SpD := fun ds G Q _ => ∃ rows, ds = [.rnd, .lst rows] ∧ (0 < rows.length ∧ rows.length < 1000) ∧ ∀ d ∈ rows, Q d G
def b_pick (dr : Nat) : Ss := (.c (.ret (.idx (.var 1) (.call dr (.c (.var 0) (.c (.bf true .len (.c (.var 1) .n)) .n))))) .n)
theorem pick_ok {Γ : Gam} {dr : Nat} (h2 : Γ.sp dr = spDraw) (ds : List D) (G : HD) (QD : KD) (XD : KX) (h : spPick ds G QD XD) : wSs Γ (b_pick dr) { nx := fun _ H => QD .non H, rt := QD, ex := fun x _ H => XD x H } (startD 2 ds) G := by
  obtain ⟨rows, rfl, hl, h⟩ := h
  simp_arith [b_pick, h2]
  refine ⟨_, rfl, ⟨by omega, by omega⟩, fun r h0 h1 => ?_⟩
  obtain ⟨d, hd, e⟩ := get_in h0 h1
  simp_arith [e]
  exact h d hd
/-! ### same -/
def Pl : Nat → D → Prop
  | 0, _ => False
  | n + 1, d => match d with
    | .non | .bl _ | .int _ | .str _ => True
    | .tup ds => ds.length ≤ lim ∧ ∀ x ∈ ds, Pl n x
    | .lst ds => ds.length ≤ lim ∧ ∀ x ∈ ds, Pl n x
    | _ => False
theorem Pl.mono : ∀ {n m : Nat} {d : D}, n ≤ m → Pl n d → Pl m d
  | 0, _, _, _, h => h.elim
  | n + 1, 0, _, hm, _ => by omega
  | n + 1, m + 1, d, hm, h => by
    cases d <;> first | trivial | exact h.elim | exact ⟨h.1, fun x hx => Pl.mono (by omega) (h.2 x hx)⟩
/-- _law_same, where both are the same -/
def spSame (n : Nat) : SpD := fun ds G Q _ => ∃ t d, ds = [t, d] ∧ Pl n d ∧ (t = d ∨ ∃ a xs, t = .ref a ∧ G a = some (.lst xs) ∧ d = .lst xs) ∧ Q (.bl true) G
def b_same (sm : Nat) : Ss :=
 (.c (.ite (.of (.isi (.var 1) [.list])) (.c (.ite (.bo false (.c (.nt (.of (.isi (.var 0) [.list]))) (.c (.cmp .ne (.bf true .len (.c (.var 0) .n)) (.bf true .len (.c (.var 1) .n))) .n))) (.c (.ret (.con (.bl false)))
 .n) .n)
 (.c (.ret (.bf true .all (.c (.lc true (.call sm (.c (.idx (.var 0) (.var 2)) (.c (.idx (.var 1) (.var 2)) .n))) (.n 2) (.rng (.c (.bf true .len (.c (.var 1) .n)) .n)) .yes [("k", 2)]) .n)))
 .n)) .n)
 (.c (.ite (.of (.isi (.var 1) [.tuple])) (.c (.ite (.bo false (.c (.nt (.of (.isi (.var 0) [.tuple]))) (.c (.cmp .ne (.bf true .len (.c (.var 0) .n)) (.bf true .len (.c (.var 1) .n))) .n))) (.c (.ret (.con (.bl false)))
 .n) .n)
 (.c (.ret (.bf true .all (.c (.lc true (.call sm (.c (.idx (.var 0) (.var 2)) (.c (.idx (.var 1) (.var 2)) .n))) (.n 2) (.rng (.c (.bf true .len (.c (.var 1) .n)) .n)) .yes [("k", 2)]) .n)))
 .n)) .n)
 (.c (.ite (.cmp .isn (.var 1) (.con .non)) (.c (.ret (.cmp .isn (.var 0) (.con .non)))
 .n) .n)
 (.c (.ite (.of (.isi (.var 1) [.bool])) (.c (.ret (.boo true (.c (.isi (.var 0) [.bool]) (.c (.cmp .eq (.var 0) (.var 1)) .n))))
 .n) .n)
 (.c (.ite (.of (.isi (.var 1) [.str])) (.c (.ret (.boo true (.c (.isi (.var 0) [.str]) (.c (.cmp .eq (.var 0) (.var 1)) .n))))
 .n) .n)
 (.c (.ret (.boo true (.c (.isi (.var 0) [.int]) (.c (.nt (.isi (.var 0) [.bool])) (.c (.cmp .eq (.var 0) (.var 1)) .n)))))
 .n))))))
theorem same_ok {Γ : Gam} {sm n : Nat} (h4 : Γ.sp sm = spSame n) (ds : List D) (G : HD) (QD : KD) (XD : KX) (h : spSame (n + 1) ds G QD XD) : wSs Γ (b_same sm) { nx := fun _ H => QD .non H, rt := QD, ex := fun x _ H => XD x H } (startD 3 ds) G := by
  obtain ⟨t, d, rfl, hp, ht, hQ⟩ := h
  have seqs : ∀ (t : D) (ds : List D), (∀ r : Int, idxD t (.int r) G = atI ds r) → (∀ x ∈ ds, Pl n x) → ∀ (d : D), (∀ r : Int, idxD d (.int r) G = atI ds r) → ∀ (own : List Nat) (σ : StD), 
      lcD (fun x H2 K => ok (idxD t x H2) fun u => ok (idxD d x H2) fun v => spSame n [u, v] H2 (fun w H4 => K (some w) H4) fun _ _ => False) (fun acc H2 => ok (blsOf acc) fun bs => QD (.bl (bs.all id)) H2) (rngL (0, ds.length, 1)) [] G := by
    intro t ds e1 hp d e2 _ _
    refine lcD_ind (fun xs acc H => H = G ∧ (∀ d ∈ acc, d = .bl true) ∧ ∀ x ∈ xs, ∃ k : Nat, x = .int k ∧ k < ds.length) ?_ ?_ _ _ _ ⟨rfl, fun _ h => (nomatch h), fun x hx => rng_mem hx⟩
    · rintro acc H ⟨rfl, h1, _⟩
      obtain ⟨bs, k1, k2⟩ := all_true h1
      rw [k1, ok_some, k2]
      exact hQ
    · rintro x xs acc ih H ⟨rfl, h1, h2⟩
      obtain ⟨k, rfl, hk⟩ := h2 x List.mem_cons_self
      obtain ⟨y, hy, e⟩ := get_in (rows := ds) (r := k) (by omega) (by omega)
      rw [e1, e2, e, ok_some, ok_some]
      refine ⟨y, y, rfl, hp y hy, .inl rfl, ih _ _ ⟨rfl, fun d hd => ?_, fun x hx => h2 x (List.mem_cons_of_mem _ hx)⟩⟩
      rcases List.mem_append.mp hd with hd | hd
      · exact h1 d hd
      · rw [List.mem_singleton] at hd; exact hd
  have rg : ∀ (es : List D), es.length ≤ lim → rngD [.int es.length] = some (0, es.length, 1) := fun es hl => by
    have : lim = 16777216 := rfl
    rw [q_rng1 ⟨by omega, by omega⟩, Int.toNat_natCast]
  cases d <;> try exact hp.elim
  · rcases ht with rfl | ⟨_, _, _, _, z⟩
    · simp_arith [b_same, h4]; exact hQ
    · cases z
  · rename_i b
    rcases ht with rfl | ⟨_, _, _, _, z⟩
    · simp_arith [b_same, h4, beq_self_eq_true]
      exact hQ
    · cases z
  · rename_i i
    rcases ht with rfl | ⟨_, _, _, _, z⟩
    · simp_arith [b_same, h4, beq_self_eq_true]
      exact hQ
    · cases z
  · rename_i i
    rcases ht with rfl | ⟨_, _, _, _, z⟩
    · simp_arith [b_same, h4, beq_self_eq_true]
      exact hQ
    · cases z
  · rename_i es
    rcases ht with rfl | ⟨_, _, _, _, z⟩
    · simp_arith [b_same, h4, beq_self_eq_true]
      rw [rg es hp.1, ok_some]
      exact And.intro hp.1 (seqs (.tup es) es (fun _ => rfl) hp.2 (.tup es) (fun _ => rfl) [] [])
    · cases z
  · rename_i es
    rcases ht with rfl | ⟨a, xs, rfl, ha, z⟩
    · simp_arith [b_same, h4, beq_self_eq_true]
      rw [rg es hp.1, ok_some]
      exact And.intro hp.1 (seqs (.lst es) es (fun _ => rfl) hp.2 (.lst es) (fun _ => rfl) [] [])
    · cases z
      simp_arith [b_same, h4, ha, beq_self_eq_true]
      rw [rg es hp.1, ok_some]
      exact And.intro hp.1 (seqs (.ref a) es (fun _ => by rw [q_idx_r, ha]) hp.2 (.lst es) (fun _ => rfl) [] [])
/-! ### name -/
def abc : List Nat := [97, 98, 99, 100, 101, 102, 103, 104, 105, 106, 107, 108, 109, 110, 111, 112, 113, 114, 115, 116, 117, 118, 119, 120, 121, 122]
def Low (s : List Nat) : Prop := (s ≠ [] ∧ s.length ≤ 12) ∧ ∀ c ∈ s, c ∈ abc
/-- u is a list, whether live or not -/
def SeqIs (u : D) (us : List D) (G : HD) : Prop := u = .lst us ∨ ∃ a, u = .ref a ∧ G a = some (.lst us)
theorem SeqIs.tr {u : D} {us : List D} {G : HD} (h : SeqIs u us G) : truth u G = some (us.length != 0) := by
  rcases h with rfl | ⟨a, rfl, h⟩
  · rfl
  · rw [q_tr_r, h]
theorem SeqIs.len {u : D} {us : List D} {G : HD} (h : SeqIs u us G) : lenD u G = some us.length := by
  rcases h with rfl | ⟨a, rfl, h⟩
  · rfl
  · rw [q_len_r, h]
theorem SeqIs.idx {u : D} {us : List D} {G : HD} (h : SeqIs u us G) (i : Int) : idxD u (.int i) G = atI us i := by
  rcases h with rfl | ⟨a, rfl, h⟩
  · rfl
  · rw [q_idx_r, h]
theorem SeqIs.itm {u : D} {us : List D} {G : HD} (h : SeqIs u us G) : itms u G = some us := by
  rcases h with rfl | ⟨a, rfl, h⟩
  · rfl
  · rw [q_itm_r, h]
theorem in_strs {us : List D} {G : HD} {n : D} {s : List Nat} (ha : SeqIs n us G) (h : ∀ u ∈ us, ∃ s, u = .str s) : ∃ b, inD (.str s) n G = some b ∧ (b = true ↔ D.str s ∈ us) := by
  refine ⟨us.any fun z => eqF z (.str s), ?_, ?_⟩
  · have : us.all flatD = true := List.all_eq_true.mpr fun u hu => by obtain ⟨t, rfl⟩ := h u hu; rfl
    have e : inD (.str s) n G = (match itms n G with | some ds => if (flatD (.str s) && ds.all flatD) = true then some (ds.any fun z => eqF z (.str s)) else none | none => none) := by
      rcases ha with rfl | ⟨a, rfl, _⟩ <;> rfl
    rw [e, ha.itm]
    show (if (flatD (.str s) && us.all flatD) = true then _ else _) = _
    rw [this]
    rfl
  · rw [List.any_eq_true]
    constructor
    · rintro ⟨z, hz, e⟩
      obtain ⟨t, rfl⟩ := h z hz
      have : t = s := by simpa [eqF] using e
      rw [← this]; exact hz
    · exact fun hm => ⟨_, hm, by simp [eqF]⟩
end DL

namespace DL
open PySem PySem.Spec PyProof.Rows L2
/-! ## 60. Stores -/
theorem q_att_r {c : Nat} {f : Str} {a : Addr} {H : HD} : attD c f (.ref a) H = (match H a with | some (.ins c' fs) => if c' = c then fs.lookup f else none | _ => none) := rfl
theorem q_ins_r {c : Nat} {f : Str} {a : Addr} {H : HD} : insB c f (.ref a) H = (match H a with | some (.ins c' fs) => decide (c' = c) && (fs.lookup f).isNone | _ => false) := rfl
theorem q_setF_r {c : Nat} {f : Str} {a : Addr} {d : D} {H : HD} {Q : HD → Prop} : setFD c f (.ref a) d H Q = (match H a with | some (.ins c' fs) => (c' = c ∧ fs.length < 1000) ∧ Q (updD H a (.ins c (putFD f d fs))) | _ => False) := rfl
abbrev stF (x y : D) : List (Str × D) := [("data", x), ("parts", y)]
structure StAt (H : HD) (p d q : Addr) (xs ps : List D) : Prop where
  p_ : H p = some (.ins 0 (stF (.ref d) (.ref q)))
  d_ : H d = some (.lst xs)
  q_ : H q = some (.lst ps)
  ne : d ≠ q
def Rd1 (t d : D) (G : HD) : Prop := t = d ∨ ∃ a xs, t = .ref a ∧ G a = some (.lst xs) ∧ d = .lst xs
theorem Rd1.idx {t : D} {xs : List D} {G : HD} (h : Rd1 t (.lst xs) G) (i : Int) : idxD t (.int i) G = atI xs i := by
  rcases h with rfl | ⟨a, ys, rfl, h, e⟩
  · rfl
  · cases e; rw [q_idx_r, h]
theorem Rd1.len {t : D} {xs : List D} {G : HD} (h : Rd1 t (.lst xs) G) : lenD t G = some xs.length := by
  rcases h with rfl | ⟨a, ys, rfl, h, e⟩
  · rfl
  · cases e; rw [q_len_r, h]
theorem Rd1.ty {t : D} {xs : List D} {G : HD} (h : Rd1 t (.lst xs) G) : tyD t G = some .list := by
  rcases h with rfl | ⟨a, ys, rfl, h, e⟩
  · rfl
  · cases e; simp only [tyD, h]
theorem Rd1.flat {t d : D} {G : HD} (h : Rd1 t d G) (n : ∀ xs, d ≠ .lst xs) : t = d := by
  rcases h with rfl | ⟨a, ys, rfl, h, e⟩
  · rfl
  · exact absurd e (n ys)
end DL

namespace DL
open PySem PySem.Spec PyProof.Rows L2
/-! ## 19. Kinds of a schema -/
mutual
inductive Kd where
  | leaf (k : List Nat) | one (o : Bool) (a : Kd) | recd (fs : Fs)
inductive Fs where
  | nil | cons (n : List Nat) (k : Kd) (fs : Fs)
end
def sRec : List Nat := [114, 101, 99]
def sOpt : List Nat := [111, 112, 116]
def sList : List Nat := [108, 105, 115, 116]
def sInt : List Nat := [105, 110, 116]
def sText : List Nat := [116, 101, 120, 116]
def sBool : List Nat := [98, 111, 111, 108]
def sOne (o : Bool) : List Nat := if o then sOpt else sList
mutual
def enc : Kd → D
  | .leaf k => .tup [.str k]
  | .one o a => .tup [.str (sOne o), enc a]
  | .recd fs => .tup [.str sRec, .tup (encs fs)]
def encs : Fs → List D
  | .nil => []
  | .cons n k fs => .tup [.str n, enc k] :: encs fs
end
structure Lf where
  p : List (List Nat)
  s : List (List Nat)
  k : List Nat
def Lf.d (l : Lf) : D := .tup [.tup (l.p.map .str), .tup (l.s.map .str), .str l.k]
mutual
def lv : Kd → List Lf
  | .leaf k => [⟨[], [], k⟩]
  | .one o a => (lv a).map fun l => ⟨l.p, sOne o :: l.s, l.k⟩
  | .recd fs => lvs fs
def lvs : Fs → List Lf
  | .nil => []
  | .cons n k fs => ((lv k).map fun l => ⟨n :: l.p, l.s, l.k⟩) ++ lvs fs
end
mutual
def dp : Kd → Nat
  | .leaf _ => 1
  | .one _ a => dp a + 1
  | .recd fs => dps fs + 1
def dps : Fs → Nat
  | .nil => 0
  | .cons _ k fs => max (dp k) (dps fs)
end
def toL : Fs → List (List Nat × Kd)
  | .nil => []
  | .cons n k fs => (n, k) :: toL fs
def isOpt : Kd → Bool
  | .one true _ => true
  | _ => false
mutual
def Wf : Kd → Prop
  | .leaf k => k ∈ [sInt, sText, sBool]
  | .one o a => (o = true → isOpt a = false) ∧ Wf a
  | .recd fs => (fs ≠ .nil ∧ ((toL fs).map Prod.fst).Nodup ∧ (toL fs).length ≤ 8) ∧ Wfs fs
def Wfs : Fs → Prop
  | .nil => True
  | .cons n k fs => Low n ∧ Wf k ∧ Wfs fs
end
def fsOf : List (List Nat × Kd) → Fs
  | [] => .nil
  | p :: r => .cons p.1 p.2 (fsOf r)
theorem encs_of : ∀ l : List (List Nat × Kd), encs (fsOf l) = l.map fun p => .tup [.str p.1, enc p.2]
  | [] => by simp [fsOf, encs]
  | p :: r => by simp [fsOf, encs, encs_of r]
theorem toL_of : ∀ l : List (List Nat × Kd), toL (fsOf l) = l
  | [] => rfl
  | p :: r => by simp [fsOf, toL, toL_of r]
/-! ### kind -/
def hd (k : Kd) : List Nat := match k with
  | .leaf k => k
  | .one o _ => sOne o
  | .recd _ => sRec
/-! ### schema -/
end DL

namespace DL
open PySem PySem.Spec PyProof.Rows L2
/-! ## 61. Texts of schemas, the reader -/
mutual
def shw : Kd → List Nat
  | .leaf k => k
  | .one o a => if o then shw a ++ [63] else [91] ++ shw a ++ [93]
  | .recd fs => [123] ++ joinL [44, 32] (shws fs) ++ [125]
def shws : Fs → List (List Nat)
  | .nil => []
  | .cons n k fs => (n ++ [58, 32] ++ shw k) :: shws fs
end
def rdF (s : List Nat) (i : Nat) : List (Str × D) := [("text", .str s), ("at", .int i)]
theorem rd_text {s : List Nat} {i : Nat} : List.lookup ("text" : Str) (rdF s i) = some (.str s) := rfl
theorem rd_at {s : List Nat} {i : Nat} : List.lookup ("at" : Str) (rdF s i) = some (.int i) := rfl
theorem rd_put {s : List Nat} {i : Nat} {j : Int} : putFD ("at" : Str) (.int j) (rdF s i) = [(("text" : Str), .str s), (("at" : Str), .int j)] := rfl
theorem rd_no {s : List Nat} {i : Nat} : List.lookup ("has" : Str) (rdF s i) = none ∧ List.lookup ("take" : Str) (rdF s i) = none ∧ List.lookup ("name" : Str) (rdF s i) = none ∧ List.lookup ("bare" : Str) (rdF s i) = none ∧ List.lookup ("kind" : Str) (rdF s i) = none ∧ List.lookup ("field" : Str) (rdF s i) = none := ⟨rfl, rfl, rfl, rfl, rfl, rfl⟩
theorem rd_len {s : List Nat} {i : Nat} : (rdF s i).length < 1000 := by show 2 < 1000; decide
theorem cut_word {s w : List Nat} {i : Nat} (hi : i ≤ s.length) : cutL s (some (i : Int)) (some ((i : Int) + (w.length : Int))) = (s.drop i).take w.length := by
  have e1 : HT.sIx s.length 0 (some (i : Int)) = i := by
    unfold HT.sIx; simp; rw [if_neg (by omega)]; omega
  have e2 : HT.sIx s.length s.length (some ((i : Int) + (w.length : Int))) = min (i + w.length) s.length := by
    unfold HT.sIx; simp; rw [if_neg (by omega)]; omega
  unfold cutL
  rw [e1, e2]
  by_cases h : i + w.length ≤ s.length
  · rw [Nat.min_eq_left h, Nat.add_sub_cancel_left]
  · rw [Nat.min_eq_right (by omega), List.take_of_length_le (by rw [List.length_drop]; omega), List.take_of_length_le (by rw [List.length_drop]; omega)]
structure RdAt (G : HD) (p : Addr) (s : List Nat) (i : Nat) : Prop where
  at_ : G p = some (.ins 0 (rdF s i))
  le : i ≤ s.length
  sz : s.length + 10 < lim
def b_TextReader_init : Ss :=
 (.c (.setF 0 (.var 0) "text" (.var 1))
 (.c (.setF 0 (.var 0) "at" (.con (.int 0)))
 .n))
def spRdInit : SpD := fun ds G Q _ => ∃ p s, ds = [.ref p, .str s] ∧ G p = some (.ins 0 []) ∧ Q .non (updD G p (.ins 0 (rdF s 0)))
theorem rd_init_ok {Γ : Gam} (ds : List D) (G : HD) (QD : KD) (XD : KX) (h : spRdInit ds G QD XD) : wSs Γ b_TextReader_init { nx := fun _ H => QD .non H, rt := QD, ex := fun x _ H => XD x H } (startD 2 ds) G := by
  obtain ⟨p, s, rfl, hp, hQ⟩ := h
  have e1 : putFD ("text" : Str) (.str s) [] = [(("text" : Str), .str s)] := rfl
  have e2 : putFD ("at" : Str) (.int 0) [(("text" : Str), .str s)] = rdF s 0 := rfl
  simp_arith [b_TextReader_init, q_setF_r, hp, e1]
  refine And.intro (by decide) ?_
  simp_arith [updD_same, q_setF_r, e2, updD_updD]
  exact And.intro (by decide) hQ
def b_TextReader_has : Ss :=
 (.c (.ite (.cmp .ne (.sl true (.fld 0 (.var 0) "text") (.fld 0 (.var 0) "at") (.bin true .add (.fld 0 (.var 0) "at") (.bf true .len (.c (.var 1) .n)))) (.var 1)) (.c (.ret (.con (.bl false)))
 .n) .n)
 (.c (.augF 0 (.var 0) "at" (.bf true .len (.c (.var 1) .n)))
 (.c (.ret (.con (.bl true)))
 .n)))
def spHas : SpD := fun ds G Q _ => ∃ p s i w, ds = [.ref p, .str w] ∧ RdAt G p s i ∧ ((s.drop i).take w.length = w → Q (.bl true) (updD G p (.ins 0 (rdF s (i + w.length))))) ∧ ((s.drop i).take w.length ≠ w → Q (.bl false) G)
theorem has_ok {Γ : Gam} (ds : List D) (G : HD) (QD : KD) (XD : KX) (h : spHas ds G QD XD) : wSs Γ b_TextReader_has { nx := fun _ H => QD .non H, rt := QD, ex := fun x _ H => XD x H } (startD 2 ds) G := by
  obtain ⟨p, s, i, w, rfl, R, h1, h2⟩ := h
  simp_arith [b_TextReader_has, q_att_r, R.at_, rd_text, rd_at, cut_word R.le]
  by_cases c : (s.drop i).take w.length = w
  · have e : ((s.drop i).take w.length == w) = true := by rw [beq_iff_eq]; exact c
    simp_arith [e, q_att_r, R.at_, rd_at, q_setF_r, rd_put]
    exact And.intro rd_len (h1 c)
  · have e : ((s.drop i).take w.length == w) = false := by rw [beq_eq_false_iff_ne]; exact c
    simp_arith [e]
    exact h2 c
def b_TextReader_take (cTextReader_has xb : Nat) : Ss :=
 (.c (.ite (.nt (.of (.mcl 0 "has" cTextReader_has (.var 0) (.c (.var 1) .n)))) (.c (.rai xb)
 .n) .n)
 .n)
/-- the word stands there, or BadText -/
def spTakeW (xb : Nat) : SpD := fun ds G Q X => ∃ p s i w, ds = [.ref p, .str w] ∧ RdAt G p s i ∧ ((s.drop i).take w.length = w → Q .non (updD G p (.ins 0 (rdF s (i + w.length))))) ∧ ((s.drop i).take w.length ≠ w → X xb G)
theorem take_ok {Γ : Gam} {ch xb : Nat} (g : Γ.sp ch = spHas) (ds : List D) (G : HD) (QD : KD) (XD : KX) (h : spTakeW xb ds G QD XD) : wSs Γ (b_TextReader_take ch xb) { nx := fun _ H => QD .non H, rt := QD, ex := fun x _ H => XD x H } (startD 2 ds) G := by
  obtain ⟨p, s, i, w, rfl, R, h1, h2⟩ := h
  simp_arith [b_TextReader_take, q_ins_r, R.at_, rd_no.1, g]
  refine And.intro (by decide) ⟨p, s, i, w, rfl, R, fun c => ?_, fun c => ?_⟩
  · exact h1 c
  · exact h2 c
def b_TextReader_name (gSMALL : Nat) : Ss :=
 (.c (.set 1 (.fld 0 (.var 0) "at"))
 (.c (.whl (.bo true (.c (.cmp .lt (.fld 0 (.var 0) "at") (.bf true .len (.c (.fld 0 (.var 0) "text") .n))) (.c (.cmp .inn (.idx (.fld 0 (.var 0) "text") (.fld 0 (.var 0) "at")) (.glb gSMALL)) .n))) (.c (.augF 0 (.var 0) "at" (.con (.int 1)))
 .n))
 (.c (.ret (.sl true (.fld 0 (.var 0) "text") (.var 1) (.fld 0 (.var 0) "at")))
 .n)))
def spRdName : SpD := fun ds G Q _ => ∃ p s i, ds = [.ref p] ∧ RdAt G p s i ∧ Q (.str ((s.drop i).takeWhile fun c => decide (c ∈ abc))) (updD G p (.ins 0 (rdF s (i + ((s.drop i).takeWhile fun c => decide (c ∈ abc)).length))))
theorem rd_name_ok {Γ : Gam} {gs : Nat} (hg : Γ.gl gs = .str abc) (ds : List D) (G : HD) (QD : KD) (XD : KX) (h : spRdName ds G QD XD) : wSs Γ (b_TextReader_name gs) { nx := fun _ H => QD .non H, rt := QD, ex := fun x _ H => XD x H } (startD 2 ds) G := by
  obtain ⟨p, s, i, rfl, R, hQ⟩ := h
  simp_arith [b_TextReader_name, q_att_r, R.at_, rd_at]
  refine ⟨fun m σ H => ∃ j, m = s.length - j ∧ i ≤ j ∧ j ≤ s.length ∧ σ = [some (.ref p), some (.int i)] ∧ H = updD G p (.ins 0 (rdF s j)) ∧ (s.drop i).takeWhile (fun c => decide (c ∈ abc)) = (s.drop i).take (j - i) ++ (s.drop j).takeWhile (fun c => decide (c ∈ abc)),
    ⟨_, i, rfl, Nat.le_refl _, R.le, rfl, ?_, by simp⟩, ?_⟩
  · funext b; unfold updD; split
    · rename_i e; rw [e, R.at_]
    · rfl
  · rintro m σ H ⟨j, rfl, h1, h2, rfl, rfl, h3⟩
    simp_arith [q_att_r, updD_same, rd_at, rd_text]
    have fin : (s.drop j).takeWhile (fun c => decide (c ∈ abc)) = [] → QD (.str (cutL s (some (i : Int)) (some (j : Int)))) (updD G p (.ins 0 (rdF s j))) := fun e => by
      rw [e, List.append_nil] at h3
      have e4 : cutL s (some (i : Int)) (some (j : Int)) = (s.drop i).take (j - i) := by
        have := cut_word (s := s) (w := List.replicate (j - i) 0) R.le
        rw [List.length_replicate] at this
        rw [← this]
        congr 2
        omega
      have e5 : i + ((s.drop i).take (j - i)).length = j := by rw [List.length_take, List.length_drop]; omega
      rw [h3, e5] at hQ
      rw [e4]
      exact hQ
    by_cases c : j < s.length
    · have e1 : decide ((j : Int) < (s.length : Int)) = true := decide_eq_true (by omega)
      obtain ⟨ch, hch⟩ : ∃ ch, s[j]? = some ch := ⟨s[j], List.getElem?_eq_getElem c⟩
      have hdr : s.drop j = ch :: s.drop (j + 1) := by
        rw [List.drop_eq_getElem_cons c]
        congr 1
        rw [List.getElem?_eq_getElem c] at hch
        exact Option.some.inj hch
      simp_arith [hg]
      rw [at_nat, hch, if_pos (by omega)]
      rw [c_oms, ok_some]
      by_cases l : ch ∈ abc
      · have e2 : inD (.str [ch]) (.str abc) (updD G p (.ins 0 (rdF s j))) = some true := by show some (decide (ch ∈ abc)) = _; rw [decide_eq_true l]
        rw [e2, ok_some]
        simp_arith [q_setF_r, updD_same, rd_put, updD_updD]
        refine And.intro rd_len ⟨_, ?_, j + 1, rfl, by omega, by omega, rfl, ?_⟩
        · omega
        · rw [h3, hdr, List.takeWhile_cons, if_pos (decide_eq_true l)]
          have : (s.drop i).take (j + 1 - i) = (s.drop i).take (j - i) ++ [ch] := by
            rw [show j + 1 - i = (j - i) + 1 by omega, List.take_add_one, List.getElem?_drop, show i + (j - i) = j by omega, hch]
            rfl
          rw [this, List.append_assoc]
          rfl
      · have e2 : inD (.str [ch]) (.str abc) (updD G p (.ins 0 (rdF s j))) = some false := by show some (decide (ch ∈ abc)) = _; rw [decide_eq_false l]
        rw [e2, ok_some]
        refine fin ?_
        rw [hdr, List.takeWhile_cons, if_neg (by simpa using l)]
    · rw [if_neg (by omega)]
      refine fin ?_
      rw [List.drop_eq_nil_of_le (by omega)]
      rfl
end DL

namespace DL
open PySem PySem.Spec PyProof.Rows L2
/-! ## 20. The leaves of a kind -/
def enc1 (p : List Nat × Kd) : D := .tup [.str p.1, enc p.2]
theorem encs_eq : ∀ fs, encs fs = (toL fs).map enc1
  | .nil => by simp [encs, toL]
  | .cons n k fs => by simp [encs, toL, encs_eq fs, enc1]
theorem wfs_eq : ∀ {fs}, Wfs fs → ∀ p ∈ toL fs, Low p.1 ∧ Wf p.2
  | .nil, _, _, h => nomatch h
  | .cons n k fs, w, p, h => by
    simp only [Wfs] at w
    rcases List.mem_cons.mp h with rfl | h
    · exact ⟨w.1, w.2.1⟩
    · exact wfs_eq w.2.2 p h
theorem dps_eq : ∀ {fs}, ∀ p ∈ toL fs, dp p.2 ≤ dps fs
  | .nil, _, h => nomatch h
  | .cons n k fs, p, h => by
    simp only [dps]
    rcases List.mem_cons.mp h with rfl | h
    · show dp k ≤ _; omega
    · have := dps_eq p h; omega
mutual
theorem lv_pos : ∀ k, Wf k → 1 ≤ (lv k).length
  | .leaf _, _ => by simp [lv]
  | .one _ a, w => by simp only [Wf] at w; simpa [lv] using lv_pos a w.2
  | .recd fs, w => by simp only [Wf] at w; simp only [lv]; exact lvs_pos fs w.1.1 w.2
theorem lvs_pos : ∀ fs, fs ≠ .nil → Wfs fs → 1 ≤ (lvs fs).length
  | .nil, h, _ => absurd rfl h
  | .cons n k fs, _, w => by
    simp only [Wfs] at w
    have := lv_pos k w.2.1
    simp only [lvs, List.length_append, List.length_map]; omega
end
mutual
theorem lv_dp : ∀ k, ∀ l ∈ lv k, l.p.length + l.s.length < dp k
  | .leaf k, l, h => by simp only [lv, List.mem_singleton] at h; subst h; simp [dp]
  | .one o a, l, h => by
    simp only [lv, List.mem_map] at h
    obtain ⟨x, hx, rfl⟩ := h
    have := lv_dp a x hx
    simp only [dp, List.length_cons]; omega
  | .recd fs, l, h => by
    simp only [lv] at h
    have := lvs_dp fs l h
    simp only [dp]; omega
theorem lvs_dp : ∀ fs, ∀ l ∈ lvs fs, l.p.length + l.s.length ≤ dps fs
  | .nil, l, h => by simp [lvs] at h
  | .cons n k fs, l, h => by
    simp only [lvs, List.mem_append, List.mem_map] at h
    simp only [dps]
    rcases h with ⟨x, hx, rfl⟩ | h
    · have := lv_dp k x hx
      simp only [List.length_cons]; omega
    · have := lvs_dp fs l h; omega
end
/-! ### the law's own reading -/
end DL

namespace DL
open PySem PySem.Spec PyProof.Rows L2
/-! ### leaves, by a pile -/
structure It where
  p : List (List Nat)
  s : List (List Nat)
  k : Kd
def It.d (i : It) : D := .tup [.tup (i.p.map .str), .tup (i.s.map .str), enc i.k]
def It.lv (i : It) : List Lf := (DL.lv i.k).map fun l => ⟨i.p ++ l.p, i.s ++ l.s, l.k⟩
mutual
def sz : Kd → Nat
  | .leaf _ => 1
  | .one _ a => sz a + 1
  | .recd fs => szs fs + 1
def szs : Fs → Nat
  | .nil => 0
  | .cons _ k fs => sz k + szs fs
end
end DL

namespace DL
open PySem PySem.Spec PyProof.Rows L2
/-! ## 62. The reader's grammar -/
inductive Rs where | ok (k : Kd) (r : List Nat) | bad | out
inductive Rf where | ok (x : List Nat) (k : Kd) (r : List Nat) | bad | out
def letW (s : List Nat) : List Nat := s.takeWhile fun c => decide (c ∈ abc)
def pKindOf (b : List Nat → Rs) (s : List Nat) : Rs := match b s with
  | .ok k r => if r.take 1 = [63] then .ok (.one true k) (r.drop 1) else .ok k r
  | x => x
def pFieldOf (b : List Nat → Rs) (s : List Nat) : Rf := if (s.drop (letW s).length).take 2 = [58, 32] then
    (match pKindOf b ((s.drop (letW s).length).drop 2) with
      | .ok k r => .ok (letW s) k r
      | .bad => .bad
      | .out => .out)
  else .bad
def pMoreOf (b : List Nat → Rs) : Nat → List (List Nat × Kd) → List Nat → Rs
  | 0, _, _ => .out
  | m + 1, acc, r => if r.take 2 = [44, 32] then
      (match pFieldOf b (r.drop 2) with
        | .ok x k r' => pMoreOf b m (acc ++ [(x, k)]) r'
        | .bad => .bad
        | .out => .out)
    else if r.take 1 = [125] then .ok (.recd (fsOf acc)) (r.drop 1) else .bad
def pBare : Nat → List Nat → Rs
  | 0, _ => .out
  | n + 1, s => if s.take 1 = [91] then
      (match pKindOf (pBare n) (s.drop 1) with
        | .ok k r => if r.take 1 = [93] then .ok (.one false k) (r.drop 1) else .bad
        | x => x)
    else if s.take 1 = [123] then
      (if n = 0 then .out else match pFieldOf (pBare n) (s.drop 1) with
        | .ok x k r => pMoreOf (pBare n) (r.length + 1) [(x, k)] r
        | .bad => .bad
        | .out => .out)
    else if letW s ∈ [sInt, sText, sBool] then .ok (.leaf (letW s)) (s.drop (letW s).length) else .bad
/-- what a reading promises: the kind and the place behind it, or BadText, whatever else lies in the heap then -/
def RsQ (xb : Nat) (G : HD) (p : Addr) (s : List Nat) (Q : KD) (X : KX) : Rs → Prop
  | .ok k r => ∀ j, j ≤ s.length → s.drop j = r → Q (enc k) (updD G p (.ins 0 (rdF s j)))
  | .bad => ∀ H', Sub (delD G p) H' → X xb H'
  | .out => False
def RfQ (xb : Nat) (G : HD) (p : Addr) (s : List Nat) (Q : KD) (X : KX) : Rf → Prop
  | .ok x k r => ∀ j, j ≤ s.length → s.drop j = r → Q (.tup [.str x, enc k]) (updD G p (.ins 0 (rdF s j)))
  | .bad => ∀ H', Sub (delD G p) H' → X xb H'
  | .out => False
theorem word_le {s w : List Nat} {i : Nat} (h : (s.drop i).take w.length = w) (hi : i ≤ s.length) : i + w.length ≤ s.length := by
  have := congrArg List.length h
  rw [List.length_take, List.length_drop] at this
  omega
theorem RdAt.move {G : HD} {p : Addr} {s : List Nat} {j : Nat} (z : s.length + 10 < lim) (h : j ≤ s.length) : RdAt (updD G p (.ins 0 (rdF s j))) p s j := ⟨updD_same, h, z⟩
theorem sub_move {G H' : HD} {p : Addr} {c : HC} (h : Sub (delD (updD G p c) p) H') : Sub (delD G p) H' := by
  have : delD (updD G p c) p = delD G p := by funext b; unfold delD updD; split <;> rfl
  rw [this] at h
  exact h
def spBare (xb n : Nat) : SpD := fun ds G Q X => ∃ p s i, ds = [.ref p] ∧ RdAt G p s i ∧ RsQ xb G p s Q X (pBare n (s.drop i))
def spKindR (xb n : Nat) : SpD := fun ds G Q X => ∃ p s i, ds = [.ref p] ∧ RdAt G p s i ∧ RsQ xb G p s Q X (pKindOf (pBare n) (s.drop i))
def spFieldR (xb n : Nat) : SpD := fun ds G Q X => ∃ p s i, ds = [.ref p] ∧ n ≠ 0 ∧ RdAt G p s i ∧ RfQ xb G p s Q X (pFieldOf (pBare n) (s.drop i))
def b_TextReader_kind (cTextReader_bare cTextReader_has : Nat) : Ss :=
 (.c (.set 1 (.mcl 0 "bare" cTextReader_bare (.var 0) .n))
 (.c (.ret (.ife (.of (.mcl 0 "has" cTextReader_has (.var 0) (.c (.con (.str [63])) .n))) (.tup (.c (.con (.str sOpt)) (.c (.var 1) .n))) (.var 1)))
 .n))
theorem rd_kind_ok {Γ : Gam} {cb ch xb n : Nat} (gb : Γ.sp cb = spBare xb n) (gh : Γ.sp ch = spHas) (ds : List D) (G : HD) (QD : KD) (XD : KX) (h : spKindR xb n ds G QD XD) : wSs Γ (b_TextReader_kind cb ch) { nx := fun _ H => QD .non H, rt := QD, ex := fun x _ H => XD x H } (startD 2 ds) G := by
  obtain ⟨p, s, i, rfl, R, h⟩ := h
  simp_arith [b_TextReader_kind, gb, gh, q_ins_r, R.at_, rd_no.2.2.2.1]
  refine And.intro (by decide) ⟨p, s, i, rfl, R, ?_⟩
  unfold pKindOf at h
  cases e : pBare n (s.drop i) with
  | out => rw [e] at h; exact h
  | bad => rw [e] at h; exact h
  | ok k r =>
    rw [e] at h
    intro j hj hr
    simp_arith [q_ins_r, updD_same, rd_no.1]
    refine And.intro (by decide) ⟨p, s, j, [63], rfl, .move R.sz hj, fun c => ?_, fun c => ?_⟩
    · rw [hr] at c
      have hl := word_le (w := [63]) (by rw [hr]; exact c) hj
      simp only [show r.take 1 = [63] from c, if_true] at h
      simp_arith [updD_updD]
      have := h (j + 1) hl (by rw [← hr, List.drop_drop])
      exact this
    · rw [hr] at c
      have h : RsQ xb G p s QD XD (if r.take 1 = [63] then .ok (.one true k) (r.drop 1) else .ok k r) := h
      rw [if_neg (show ¬ r.take 1 = [63] from c)] at h
      exact h j hj hr
def b_TextReader_field (cTextReader_name cTextReader_take cTextReader_kind : Nat) : Ss :=
 (.c (.set 1 (.mcl 0 "name" cTextReader_name (.var 0) .n))
 (.c (.ex (.mcl 0 "take" cTextReader_take (.var 0) (.c (.con (.str [58, 32])) .n)))
 (.c (.ret (.tup (.c (.var 1) (.c (.mcl 0 "kind" cTextReader_kind (.var 0) .n) .n))))
 .n)))
theorem rd_field_ok {Γ : Gam} {cn ct ck xb n : Nat} (gn : Γ.sp cn = spRdName) (gt : Γ.sp ct = spTakeW xb) (gk : Γ.sp ck = spKindR xb n) (ds : List D) (G : HD) (QD : KD) (XD : KX) (h : spFieldR xb n ds G QD XD) : wSs Γ (b_TextReader_field cn ct ck) { nx := fun _ H => QD .non H, rt := QD, ex := fun x _ H => XD x H } (startD 2 ds) G := by
  obtain ⟨p, s, i, rfl, _, R, h⟩ := h
  simp_arith [b_TextReader_field, gn, gt, gk, q_ins_r, R.at_, rd_no.2.2.1]
  refine And.intro (by decide) ⟨p, s, i, rfl, R, ?_⟩
  have hw : (letW (s.drop i)).length ≤ (s.drop i).length := (List.takeWhile_sublist _).length_le
  rw [List.length_drop] at hw
  have hi := R.le
  have hle : i + (letW (s.drop i)).length ≤ s.length := by omega
  show (_ ∧ _)
  simp_arith [q_ins_r, updD_same, rd_no.2.1]
  have hd : s.drop (i + (letW (s.drop i)).length) = (s.drop i).drop (letW (s.drop i)).length := by rw [List.drop_drop]
  unfold pFieldOf at h
  refine And.intro (by decide) ⟨p, s, i + (letW (s.drop i)).length, [58, 32], rfl, .move R.sz hle, fun c => ?_, fun c => ?_⟩
  · rw [hd] at c
    have hl := word_le (w := [58, 32]) (by rw [hd]; exact c) hle
    rw [if_pos (show ((s.drop i).drop (letW (s.drop i)).length).take 2 = [58, 32] from c)] at h
    simp_arith [updD_updD, q_ins_r, updD_same, rd_no.2.2.2.2.1]
    refine And.intro (by decide) ⟨p, s, i + (letW (s.drop i)).length + 2, rfl, .move R.sz hl, ?_⟩
    have hd2 : s.drop (i + (letW (s.drop i)).length + 2) = ((s.drop i).drop (letW (s.drop i)).length).drop 2 := by rw [← hd, List.drop_drop]
    rw [hd2]
    cases e : pKindOf (pBare n) (((s.drop i).drop (letW (s.drop i)).length).drop 2) with
    | out => rw [e] at h; exact h
    | bad => rw [e] at h; exact fun H' hs => h H' (sub_move hs)
    | ok k r =>
      rw [e] at h
      intro j hj hr
      simp_arith [updD_updD]
      exact h j hj hr
  · rw [hd] at c
    rw [if_neg (show ¬ ((s.drop i).drop (letW (s.drop i)).length).take 2 = [58, 32] from c)] at h
    refine h _ (sub_move (c := .ins 0 (rdF s (i + (letW (s.drop i)).length))) sub_del)
def b_TextReader_bare (gLEAVES cTextReader_has cTextReader_kind cTextReader_take cTextReader_field cTextReader_name xb : Nat) : Ss :=
 (.c (.ite (.of (.mcl 0 "has" cTextReader_has (.var 0) (.c (.con (.str [91])) .n))) (.c (.set 1 (.tup (.c (.con (.str sList)) (.c (.mcl 0 "kind" cTextReader_kind (.var 0) .n) .n))))
 (.c (.ex (.mcl 0 "take" cTextReader_take (.var 0) (.c (.con (.str [93])) .n)))
 (.c (.ret (.var 1))
 .n))) .n)
 (.c (.ite (.of (.mcl 0 "has" cTextReader_has (.var 0) (.c (.con (.str [123])) .n))) (.c (.set 2 (.lst false (.c (.mcl 0 "field" cTextReader_field (.var 0) .n) .n)))
 (.c (.whl (.of (.mcl 0 "has" cTextReader_has (.var 0) (.c (.con (.str [44, 32])) .n))) (.c (.ex (.mt .append (.var 2) (.c (.mcl 0 "field" cTextReader_field (.var 0) .n) .n)))
 .n))
 (.c (.ex (.mcl 0 "take" cTextReader_take (.var 0) (.c (.con (.str [125])) .n)))
 (.c (.fz 2) (.c (.ret (.tup (.c (.con (.str sRec)) (.c (.bf true .tuple (.c (.var 2) .n)) .n))))
 .n))))) .n)
 (.c (.set 3 (.mcl 0 "name" cTextReader_name (.var 0) .n))
 (.c (.ite (.cmp .nin (.var 3) (.glb gLEAVES)) (.c (.rai xb)
 .n) .n)
 (.c (.ret (.tup (.c (.var 3) .n)))
 .n)))))
theorem in_leaves (w : List Nat) (H : HD) : inD (.str w) (.tup [.str sInt, .str sText, .str sBool]) H = some (decide (w ∈ [sInt, sText, sBool])) := by
  show some (([D.str sInt, .str sText, .str sBool] : List D).any fun z => eqF z (.str w)) = _
  congr 1
  rw [Bool.eq_iff_iff]
  simp [eqF]
  constructor
  · rintro (h | h | h) <;> simp [h]
  · rintro (h | h | h) <;> simp [h]
theorem rd_bare_ok {Γ : Gam} {gl ch ck ct cf cn xb n : Nat} (hg : Γ.gl gl = .tup [.str sInt, .str sText, .str sBool]) (gh : Γ.sp ch = spHas) (gk : Γ.sp ck = spKindR xb n) (gt : Γ.sp ct = spTakeW xb) (gf : Γ.sp cf = spFieldR xb n) (gn : Γ.sp cn = spRdName)
    (ds : List D) (G : HD) (QD : KD) (XD : KX) (h : spBare xb (n + 1) ds G QD XD) : wSs Γ (b_TextReader_bare gl ch ck ct cf cn xb) { nx := fun _ H => QD .non H, rt := QD, ex := fun x _ H => XD x H } (startD 4 ds) G := by
  obtain ⟨p, s, i, rfl, R, h⟩ := h
  simp_arith [b_TextReader_bare, gh, gk, gt, gf, gn, hg, q_ins_r, R.at_, rd_no.1]
  refine And.intro (by decide) ⟨p, s, i, [91], rfl, R, fun c => ?_, fun c => ?_⟩
  · have hl := word_le c R.le
    have h : RsQ xb G p s QD XD (if (s.drop i).take 1 = [91] then (match pKindOf (pBare n) ((s.drop i).drop 1) with | .ok k r => if r.take 1 = [93] then .ok (.one false k) (r.drop 1) else .bad | x => x) else _) := h
    rw [if_pos (show (s.drop i).take 1 = [91] from c)] at h
    simp_arith [q_ins_r, updD_same, rd_no.2.2.2.2.1]
    refine And.intro (by decide) ⟨p, s, i + 1, rfl, .move R.sz hl, ?_⟩
    rw [show s.drop (i + 1) = (s.drop i).drop 1 by rw [List.drop_drop]]
    cases e : pKindOf (pBare n) ((s.drop i).drop 1) with
    | out => rw [e] at h; exact h
    | bad => rw [e] at h; exact fun H' hs => h H' (sub_move hs)
    | ok k r =>
      rw [e] at h
      have h : RsQ xb G p s QD XD (if r.take 1 = [93] then .ok (.one false k) (r.drop 1) else .bad) := h
      intro j hj hr
      simp_arith [updD_updD, q_ins_r, updD_same, rd_no.2.1]
      refine And.intro (by decide) ⟨p, s, j, [93], rfl, .move R.sz hj, fun c => ?_, fun c => ?_⟩
      · have hl := word_le c hj
        rw [hr] at c
        rw [if_pos (show r.take 1 = [93] from c)] at h
        simp_arith [updD_updD]
        exact h (j + 1) hl (by rw [← hr, List.drop_drop])
      · rw [hr] at c
        rw [if_neg (show ¬ r.take 1 = [93] from c)] at h
        exact h _ (sub_move (c := .ins 0 (rdF s j)) sub_del)
  · have h : RsQ xb G p s QD XD (if (s.drop i).take 1 = [91] then _ else if (s.drop i).take 1 = [123] then (if n = 0 then .out else match pFieldOf (pBare n) ((s.drop i).drop 1) with | .ok x k r => pMoreOf (pBare n) (r.length + 1) [(x, k)] r | .bad => .bad | .out => .out)
      else if letW (s.drop i) ∈ [sInt, sText, sBool] then .ok (.leaf (letW (s.drop i))) ((s.drop i).drop (letW (s.drop i)).length) else .bad) := h
    rw [if_neg (show ¬ (s.drop i).take 1 = [91] from c)] at h
    simp_arith [q_ins_r, R.at_, rd_no.1]
    refine And.intro (by decide) ⟨p, s, i, [123], rfl, R, fun c => ?_, fun c => ?_⟩
    · have hl := word_le c R.le
      rw [if_pos (show (s.drop i).take 1 = [123] from c)] at h
      by_cases n0 : n = 0
      · rw [if_pos n0] at h; exact h.elim
      rw [if_neg n0] at h
      simp_arith [q_ins_r, updD_same, rd_no.2.2.2.2.2]
      refine And.intro (by decide) ⟨p, s, i + 1, rfl, n0, .move R.sz hl, ?_⟩
      rw [show s.drop (i + 1) = (s.drop i).drop 1 by rw [List.drop_drop]]
      cases e : pFieldOf (pBare n) ((s.drop i).drop 1) with
      | out => rw [e] at h; exact h
      | bad => rw [e] at h; exact fun H' hs => h H' (sub_move hs)
      | ok x k r =>
        rw [e] at h
        have h : RsQ xb G p s QD XD (pMoreOf (pBare n) (r.length + 1) [(x, k)] r) := h
        intro j hj hr
        simp_arith [updD_updD]
        intro L hL
        have hpL : p ≠ L := fun z => by rw [z, updD_same] at hL; cases hL
        have gL : G L = none := by rw [updD_ne hpL.symm] at hL; exact hL
        have e1 : ∀ x y : HC, (updD (updD G p x) L y) p = some x := fun x y => by rw [updD_ne hpL, updD_same]
        have e3 : ∀ x y x' : HC, updD (updD (updD G p x) L y) p x' = updD (updD G p x') L y := fun x y x' => by rw [← updD_comm hpL, updD_updD, updD_comm hpL]
        have sb : ∀ x y : HC, Sub (delD G p) (updD (updD G p x) L y) := fun x y a c ha => by
          unfold delD at ha
          split at ha
          · cases ha
          · rename_i q
            rw [updD_ne (fun z => by rw [z, gL] at ha; cases ha), updD_ne q]
            exact ha
        have sb2 : ∀ (x y : HC) (H' : HD), Sub (delD (updD (updD G p x) L y) p) H' → Sub (delD G p) H' := fun x y H' hs a c ha => by
          refine hs a c ?_
          have := sb x y a c ha
          unfold delD at ha ⊢
          split at ha
          · cases ha
          · rename_i q; rw [if_neg q]; exact this
        refine ⟨fun m σ H => ∃ acc j r x1 x3, σ = [some (.ref p), x1, some (.ref L), x3] ∧ H = updD (updD G p (.ins 0 (rdF s j))) L (.lst (acc.map fun q : List Nat × Kd => .tup [.str q.1, enc q.2])) ∧ j ≤ s.length ∧ s.drop j = r ∧ RsQ xb G p s QD XD (pMoreOf (pBare n) m acc r) ∧ acc.length + m ≤ s.length + 2,
          ⟨_, [(x, k)], j, r, none, none, rfl, rfl, hj, hr, h, by have := congrArg List.length hr; rw [List.length_drop] at this; simp; omega⟩, ?_⟩
        rintro m σ H ⟨acc, j, r, x1, x3, rfl, rfl, hj, hr, h, hz⟩
        simp_arith [q_ins_r, e1, rd_no.1]
        cases m with
        | zero => exact h.elim
        | succ m =>
          have h : RsQ xb G p s QD XD (if r.take 2 = [44, 32] then (match pFieldOf (pBare n) (r.drop 2) with | .ok x k r' => pMoreOf (pBare n) m (acc ++ [(x, k)]) r' | .bad => .bad | .out => .out) else if r.take 1 = [125] then .ok (.recd (fsOf acc)) (r.drop 1) else .bad) := h
          refine And.intro (by decide) ⟨p, s, j, [44, 32], rfl, ⟨e1 _ _, hj, R.sz⟩, fun c => ?_, fun c => ?_⟩
          · have hl := word_le c hj
            rw [hr] at c
            rw [if_pos (show r.take 2 = [44, 32] from c)] at h
            simp_arith [e3, updD_same, q_ins_r, e1, rd_no.2.2.2.2.2]
            refine And.intro (by decide) ⟨p, s, j + 2, rfl, n0, ⟨e1 _ _, hl, R.sz⟩, ?_⟩
            rw [show s.drop (j + 2) = r.drop 2 by rw [← hr, List.drop_drop]]
            cases e2 : pFieldOf (pBare n) (r.drop 2) with
            | out => rw [e2] at h; exact h
            | bad => rw [e2] at h; exact fun H' hs => h H' (sb2 _ _ H' hs)
            | ok x' k' r' =>
              rw [e2] at h
              intro j' hj' hr'
              simp_arith [e3, updD_same, updD_updD]
              have := R.sz
              exact And.intro (by rw [List.length_map]; omega) ⟨m, by omega, acc ++ [(x', k')], j', r', _, _, rfl, by rw [List.map_append]; rfl, hj', hr', h, by rw [List.length_append]; simp; omega⟩
          · rw [hr] at c
            rw [if_neg (show ¬ r.take 2 = [44, 32] from c)] at h
            simp_arith [q_ins_r, e1, rd_no.2.1]
            refine And.intro (by decide) ⟨p, s, j, [125], rfl, ⟨e1 _ _, hj, R.sz⟩, fun c => ?_, fun c => ?_⟩
            · have hl := word_le c hj
              rw [hr] at c
              rw [if_pos (show r.take 1 = [125] from c)] at h
              simp_arith [e3, updD_same]
              rw [delD_updD (by rw [updD_ne hpL.symm]; exact gL)]
              have := h (j + 1) hl (by rw [← hr, List.drop_drop])
              unfold enc at this
              rw [encs_of] at this
              exact this
            · rw [hr] at c
              rw [if_neg (show ¬ r.take 1 = [125] from c)] at h
              exact h _ (sb _ _)
    · rw [if_neg (show ¬ (s.drop i).take 1 = [123] from c)] at h
      simp_arith [q_ins_r, R.at_, rd_no.2.2.1]
      refine And.intro (by decide) ⟨p, s, i, rfl, R, ?_⟩
      have hw : (letW (s.drop i)).length ≤ (s.drop i).length := (List.takeWhile_sublist _).length_le
      rw [List.length_drop] at hw
      have hi := R.le
      show ok (Option.map (fun x => !x) (inD (.str (letW (s.drop i))) (.tup [.str sInt, .str sText, .str sBool]) _)) _
      rw [in_leaves]
      by_cases m : letW (s.drop i) ∈ [sInt, sText, sBool]
      · rw [if_pos m] at h
        rw [decide_eq_true m]
        exact h _ (by unfold letW at hw; omega) (by rw [← List.drop_drop]; rfl)
      · rw [if_neg m] at h
        rw [decide_eq_false m]
        exact h _ (sub_move (c := .ins 0 (rdF s (i + (letW (s.drop i)).length))) sub_del)
end DL

namespace DL
open PySem PySem.Spec PyProof.Rows L2
/-! ## 21. Values of a schema -/
def signs : List Nat := [48, 49, 50, 51, 52, 53, 54, 55, 56, 57, 58, 59, 60, 61, 62, 63, 64, 65, 66, 67, 68, 69, 70, 71, 72, 73, 74, 75, 76, 77, 78, 79, 80, 81, 82, 83, 84, 85, 86, 87, 88, 89, 90, 91, 92, 93, 94, 95, 96, 97, 98, 99, 100, 101, 102, 103, 104, 105, 106, 107, 108, 109, 110, 111, 112, 113, 114, 115, 116, 117, 118, 119, 120, 121, 122]
def IntOk (i : Int) : Prop := -9223372036854775808 ≤ i ∧ i < 9223372036854775808
def TextOk (s : List Nat) : Prop := s.length ≤ 200 ∧ ∀ c ∈ s, c ∈ signs
def LeafV (k : List Nat) (v : D) : Prop := (k = sInt ∧ ∃ i, v = .int i ∧ IntOk i) ∨ (k = sText ∧ ∃ s, v = .str s ∧ TextOk s) ∨ (k = sBool ∧ ∃ b, v = .bl b)
mutual
/-- v is a value of k with at most n elements of lists -/
def OkV : Kd → D → Nat → Prop
  | .leaf k, v, _ => LeafV k v
  | .one true a, v, n => v = .non ∨ OkV a v n
  | .one false a, v, n => ∃ (vs : List D) (ms : List Nat), v = .tup vs ∧ vs.length = ms.length ∧ vs.length + ms.sum ≤ n ∧ ∀ (i : Nat) (x : D) (m : Nat), vs[i]? = some x → ms[i]? = some m → OkV a x m
  | .recd fs, v, n => ∃ vs, v = .tup vs ∧ OkVs fs vs n
def OkVs : Fs → List D → Nat → Prop
  | .nil, vs, _ => vs = []
  | .cons _ k fs, vs, n => ∃ v r a b, vs = v :: r ∧ a + b ≤ n ∧ OkV k v a ∧ OkVs fs r b
end
/-! ### int -/
/-! ### text -/
/-! ### value -/
end DL

namespace DL
open PySem PySem.Spec PyProof.Rows L2
/-! ## 22. A choice -/
end DL

namespace DL
open PySem PySem.Spec PyProof.Rows L2
/-! ## 23. _law_same, where live lists read as what is due -/
theorem dpos (k : Kd) : 1 ≤ dp k := by cases k <;> simp [dp]
end DL

namespace DL
open PySem PySem.Spec PyProof.Rows L2
/-! ## 26. Columns: what stands in them -/
def trip (t l : Int) (v : D) : D := .tup [.int t, .int l, v]
def enl (f : Int → D → List D) (t s : Int) : List D → List D
  | [] => []
  | x :: xs => f t x ++ xs.flatMap (f (s + 1))
-- the entries of the i-th leaf
mutual
def en : Kd → Nat → D → Int → Int → Int → List D
  | .leaf _, _, v, t, l, _ => [trip t l v]
  | .one true a, i, v, t, l, s => match v with
    | .non => [trip t l .non]
    | v => en a i v t (l + 1) s
  | .one false a, i, v, t, l, s => match v with
    | .tup (x :: xs) => enl (fun t' y => en a i y t' (l + 1) (s + 1)) t s (x :: xs)
    | _ => [trip t l .non]
  | .recd fs, i, v, t, l, s => match v with
    | .tup vs => ens fs i vs t l s
    | _ => []
def ens : Fs → Nat → List D → Int → Int → Int → List D
  | .nil, _, _, _, _, _ => []
  | .cons _ k fs, i, vs, t, l, s => match vs with
    | v :: r => if i < (lv k).length then en k i v t l s else ens fs (i - (lv k).length) r t l s
    | [] => []
end
theorem mem_le_sum : ∀ {l : List Nat} {x : Nat}, x ∈ l → x ≤ l.sum
  | [], _, h => nomatch h
  | y :: l, x, h => by
    rw [List.sum_cons]
    rcases List.mem_cons.mp h with rfl | h
    · omega
    · have := mem_le_sum h; omega
theorem okv_list {a : Kd} {v : D} {n : Nat} (h : OkV (.one false a) v n) : ∃ vs, v = .tup vs ∧ vs.length ≤ n ∧ ∀ x ∈ vs, ∃ m, m ≤ n ∧ OkV a x m := by
  simp only [OkV] at h
  obtain ⟨vs, ms, rfl, h1, h2, h3⟩ := h
  refine ⟨vs, rfl, by omega, fun x hx => ?_⟩
  obtain ⟨i, hi, e⟩ := List.mem_iff_getElem.mp hx
  have hm : i < ms.length := by omega
  have := mem_le_sum (List.getElem_mem hm)
  exact ⟨ms[i], by omega, h3 i x _ (by rw [← e]; exact List.getElem?_eq_getElem hi) (List.getElem?_eq_getElem hm)⟩
theorem okvs_len : ∀ {fs : Fs} {vs : List D} {n : Nat}, OkVs fs vs n → vs.length = (toL fs).length
  | .nil, vs, n, h => by simp only [OkVs] at h; subst h; rfl
  | .cons m k fs, vs, n, h => by
    simp only [OkVs] at h
    obtain ⟨v, r, a, b, rfl, _, _, h2⟩ := h
    simp only [toL, List.length_cons, okvs_len h2]
theorem okv_ne {k : Kd} {v : D} {n : Nat} (h : OkV k v n) (ho : isOpt k = false) : v ≠ .non := by
  rintro rfl
  cases k with
  | leaf k => simp only [OkV, LeafV] at h; rcases h with ⟨_, _, z, _⟩ | ⟨_, _, z, _⟩ | ⟨_, _, z⟩ <;> cases z
  | one o a =>
    cases o with
    | true => cases ho
    | false => simp only [OkV] at h; obtain ⟨_, _, z, _⟩ := h; cases z
  | recd fs => simp only [OkV] at h; obtain ⟨_, z, _⟩ := h; cases z
theorem pys_all : ∀ {vs : List D}, (∀ x ∈ vs, ∃ y, py x = some y) → ∃ ys, pys vs = some ys
  | [], _ => ⟨[], by simp [pys]⟩
  | v :: vs, h => by
    obtain ⟨y, e⟩ := h v List.mem_cons_self
    obtain ⟨ys, e2⟩ := pys_all (vs := vs) fun x hx => h x (List.mem_cons_of_mem _ hx)
    exact ⟨y :: ys, by simp [pys, e, e2]⟩
mutual
theorem py_okv : ∀ k v n, OkV k v n → ∃ x, py v = some x
  | .leaf k, v, n, h => by
    simp only [OkV, LeafV] at h
    rcases h with ⟨_, i, rfl, _⟩ | ⟨_, i, rfl, _⟩ | ⟨_, i, rfl⟩ <;> (simp only [py]; exact ⟨_, rfl⟩)
  | .one true a, v, n, h => by
    simp only [OkV] at h
    rcases h with rfl | h
    · simp only [py]; exact ⟨_, rfl⟩
    · exact py_okv a v n h
  | .one false a, v, n, h => by
    obtain ⟨vs, rfl, _, h2⟩ := okv_list h
    obtain ⟨ys, e⟩ := pys_all (vs := vs) fun x hx => let ⟨m, _, q⟩ := h2 x hx; py_okv a x m q
    simp only [py, e]; exact ⟨_, rfl⟩
  | .recd fs, v, n, h => by
    simp only [OkV] at h
    obtain ⟨vs, rfl, h⟩ := h
    obtain ⟨ys, e⟩ := py_okvs fs vs n h
    simp only [py, e]; exact ⟨_, rfl⟩
theorem py_okvs : ∀ fs vs n, OkVs fs vs n → ∃ x, pys vs = some x
  | .nil, vs, n, h => by simp only [OkVs] at h; subst h; exact ⟨[], by simp only [pys]⟩
  | .cons m k fs, vs, n, h => by
    simp only [OkVs] at h
    obtain ⟨v, r, a, b, rfl, _, h1, h2⟩ := h
    obtain ⟨x, e⟩ := py_okv k v a h1
    obtain ⟨ys, e2⟩ := py_okvs fs r b h2
    simp only [pys, e, e2]; exact ⟨_, rfl⟩
end
theorem flat_len {f : D → List D} : ∀ {vs : List D} {ms : List Nat}, vs.length = ms.length → (∀ (i : Nat) (x : D) (m : Nat), vs[i]? = some x → ms[i]? = some m → (f x).length ≤ m + 1) → (vs.flatMap f).length ≤ vs.length + ms.sum
  | [], _, _, _ => by simp
  | v :: vs, [], h, _ => by simp at h
  | v :: vs, m :: ms, h, h2 => by
    have h1 := h2 0 v m rfl rfl
    have := flat_len (f := f) (vs := vs) (ms := ms) (by simpa using h) fun i x m a b => h2 (i + 1) x m (by simpa using a) (by simpa using b)
    rw [List.flatMap_cons, List.length_append, List.length_cons, List.sum_cons]; omega
mutual
theorem en_len : ∀ k i v n t l s, OkV k v n → (en k i v t l s).length ≤ n + 1
  | .leaf k, i, v, n, t, l, s, h => by simp [en]
  | .one true a, i, v, n, t, l, s, h => by
    simp only [OkV] at h
    by_cases hv : v = .non
    · subst hv; simp [en]
    · have := en_len a i v n t (l + 1) s (h.resolve_left hv)
      cases v <;> first | exact absurd rfl hv | simpa only [en] using this
  | .one false a, i, v, n, t, l, s, h => by
    simp only [OkV] at h
    obtain ⟨vs, ms, rfl, h1, h2, h3⟩ := h
    cases vs with
    | nil => simp [en]
    | cons v vs =>
      cases ms with
      | nil => simp at h1
      | cons m ms =>
        have q0 := en_len a i v m t (l + 1) (s + 1) (h3 0 v m rfl rfl)
        have q1 := flat_len (f := fun y => en a i y (s + 1) (l + 1) (s + 1)) (vs := vs) (ms := ms) (by simpa using h1) fun j x m' a1 b1 => en_len a i x m' (s + 1) (l + 1) (s + 1) (h3 (j + 1) x m' (by simpa using a1) (by simpa using b1))
        simp only [en, enl, List.length_append]
        simp only [List.length_cons, List.sum_cons] at h2
        omega
  | .recd fs, i, v, n, t, l, s, h => by
    simp only [OkV] at h
    obtain ⟨vs, rfl, h⟩ := h
    simp only [en]
    exact ens_len fs i vs n t l s h
theorem ens_len : ∀ fs i vs n t l s, OkVs fs vs n → (ens fs i vs t l s).length ≤ n + 1
  | .nil, i, vs, n, t, l, s, h => by simp [ens]
  | .cons m k fs, i, vs, n, t, l, s, h => by
    simp only [OkVs] at h
    obtain ⟨v, r, a, b, rfl, hab, h1, h2⟩ := h
    simp only [ens]
    split
    · have := en_len k i v a t l s h1; omega
    · have := ens_len fs (i - (lv k).length) r b t l s h2; omega
end
theorem trip_pl {t l : Int} {v : D} (h : Pl 1 v) : Pl 3 (trip t l v) := by
  have hlim : lim = 16777216 := rfl
  refine ⟨by show 3 ≤ lim; decide, fun x hx => ?_⟩
  simp only [List.mem_cons, List.not_mem_nil, or_false] at hx
  rcases hx with rfl | rfl | rfl
  · trivial
  · trivial
  · exact Pl.mono (n := 1) (m := 2) (by decide) h
theorem leafv_pl {k : List Nat} {v : D} (h : LeafV k v) : Pl 1 v := by
  rcases h with ⟨_, i, rfl, _⟩ | ⟨_, i, rfl, _⟩ | ⟨_, i, rfl⟩ <;> trivial
mutual
theorem en_pl : ∀ k i v n t l s, OkV k v n → ∀ e ∈ en k i v t l s, Pl 3 e
  | .leaf k, i, v, n, t, l, s, h, e, he => by
    simp only [OkV] at h
    simp only [en, List.mem_singleton] at he
    subst he
    exact trip_pl (leafv_pl h)
  | .one true a, i, v, n, t, l, s, h, e, he => by
    simp only [OkV] at h
    by_cases hv : v = .non
    · subst hv
      simp only [en, List.mem_singleton] at he
      subst he
      exact trip_pl trivial
    · have := en_pl a i v n t (l + 1) s (h.resolve_left hv) e
      cases v <;> first | exact absurd rfl hv | exact this (by simpa only [en] using he)
  | .one false a, i, v, n, t, l, s, h, e, he => by
    obtain ⟨vs, rfl, _, h2⟩ := okv_list h
    cases vs with
    | nil =>
      simp only [en, List.mem_singleton] at he
      subst he
      exact trip_pl trivial
    | cons v vs =>
      simp only [en, enl, List.mem_append, List.mem_flatMap] at he
      rcases he with he | ⟨x, hx, he⟩
      · obtain ⟨m, _, q⟩ := h2 v List.mem_cons_self
        exact en_pl a i v m _ _ _ q e he
      · obtain ⟨m, _, q⟩ := h2 x (List.mem_cons_of_mem _ hx)
        exact en_pl a i x m _ _ _ q e he
  | .recd fs, i, v, n, t, l, s, h, e, he => by
    simp only [OkV] at h
    obtain ⟨vs, rfl, h⟩ := h
    simp only [en] at he
    exact ens_pl fs i vs n t l s h e he
theorem ens_pl : ∀ fs i vs n t l s, OkVs fs vs n → ∀ e ∈ ens fs i vs t l s, Pl 3 e
  | .nil, i, vs, n, t, l, s, h, e, he => by simp [ens] at he
  | .cons m k fs, i, vs, n, t, l, s, h, e, he => by
    simp only [OkVs] at h
    obtain ⟨v, r, a, b, rfl, hab, h1, h2⟩ := h
    simp only [ens] at he
    split at he
    · exact en_pl k i v a t l s h1 e he
    · exact ens_pl fs (i - (lv k).length) r b t l s h2 e he
end
mutual
theorem okv_pl : ∀ k v n, OkV k v n → n ≤ 1000 → Wf k → Pl (dp k) v
  | .leaf k, v, n, h, _, _ => by simp only [OkV] at h; simp only [dp]; exact leafv_pl h
  | .one true a, v, n, h, hn, w => by
    simp only [OkV] at h
    simp only [Wf] at w
    simp only [dp]
    rcases h with rfl | h
    · trivial
    · exact Pl.mono (by omega) (okv_pl a v n h hn w.2)
  | .one false a, v, n, h, hn, w => by
    have hlim : lim = 16777216 := rfl
    obtain ⟨vs, rfl, h1, h2⟩ := okv_list h
    simp only [Wf] at w
    simp only [dp]
    exact ⟨by omega, fun x hx => let ⟨m, hm, q⟩ := h2 x hx; okv_pl a x m q (by omega) w.2⟩
  | .recd fs, v, n, h, hn, w => by
    have hlim : lim = 16777216 := rfl
    simp only [OkV] at h
    obtain ⟨vs, rfl, h⟩ := h
    simp only [Wf] at w
    simp only [dp]
    have := okvs_len h
    have := w.1.2.2
    exact ⟨by omega, okvs_pl fs vs n h hn w.2⟩
theorem okvs_pl : ∀ fs vs n, OkVs fs vs n → n ≤ 1000 → Wfs fs → ∀ x ∈ vs, Pl (dps fs) x
  | .nil, vs, n, h, _, _, x, hx => by simp only [OkVs] at h; subst h; cases hx
  | .cons m k fs, vs, n, h, hn, w, x, hx => by
    simp only [OkVs] at h
    obtain ⟨v, r, a, b, rfl, hab, h1, h2⟩ := h
    simp only [Wfs] at w
    simp only [dps]
    rcases List.mem_cons.mp hx with rfl | hx
    · exact Pl.mono (by omega) (okv_pl k x a h1 (by omega) w.2.1)
    · exact Pl.mono (by omega) (okvs_pl fs r b h2 (by omega) w.2.2 x hx)
end
/-! ### the law's own reading -/
end DL

namespace DL
open PySem PySem.Spec PyProof.Rows L2
/-! ## 28. A choice of leaves, plain -/
def anyP (P : Nat → Bool) (f n : Nat) : Bool := (List.range n).any fun i => P (f + i)
theorem anyP_iff {P : Nat → Bool} {f n : Nat} : anyP P f n = true ↔ ∃ i, f ≤ i ∧ i < f + n ∧ P i = true := by
  unfold anyP
  rw [List.any_eq_true]
  constructor
  · rintro ⟨i, hi, hp⟩
    have := List.mem_range.mp hi
    exact ⟨f + i, by omega, by omega, hp⟩
  · rintro ⟨i, h1, h2, hp⟩
    exact ⟨i - f, List.mem_range.mpr (by omega), by rw [show f + (i - f) = i by omega]; exact hp⟩
mutual
def chs (P : Nat → Bool) : Kd → Nat → Kd
  | .leaf k, _ => .leaf k
  | .one o a, f => .one o (chs P a f)
  | .recd fs, f => .recd (chss P fs f)
def chss (P : Nat → Bool) : Fs → Nat → Fs
  | .nil, _ => .nil
  | .cons n k fs, f => if anyP P f (lv k).length = true then .cons n (chs P k f) (chss P fs (f + (lv k).length)) else chss P fs (f + (lv k).length)
end
mutual
def wo (P : Nat → Bool) : Kd → Nat → D → D
  | .leaf _, _, v => v
  | .one true a, f, v => match v with
    | .non => .non
    | v => wo P a f v
  | .one false a, f, v => match v with
    | .tup vs => .tup (vs.map fun x => wo P a f x)
    | v => v
  | .recd fs, f, v => match v with
    | .tup vs => .tup (wos P fs f vs)
    | v => v
def wos (P : Nat → Bool) : Fs → Nat → List D → List D
  | .nil, _, _ => []
  | .cons _ k fs, f, vs => match vs with
    | v :: r => if anyP P f (lv k).length = true then wo P k f v :: wos P fs (f + (lv k).length) r else wos P fs (f + (lv k).length) r
    | [] => []
end
def cnt (P : Nat → Bool) : Nat → Nat
  | 0 => 0
  | n + 1 => cnt P n + (if P n = true then 1 else 0)
section
variable {P P1 P2 : Nat → Bool}
theorem cnt_mono {a : Nat} : ∀ {b : Nat}, a ≤ b → cnt P a ≤ cnt P b
  | 0, h => by have : a = 0 := by omega
               subst this; exact Nat.le_refl _
  | b + 1, h => by
    by_cases e : a = b + 1
    · subst e; exact Nat.le_refl _
    · exact Nat.le_trans (cnt_mono (b := b) (by omega)) (Nat.le_add_right _ _)
theorem cnt_none {f : Nat} : ∀ {n : Nat}, anyP P f n = false → cnt P (f + n) = cnt P f
  | 0, _ => rfl
  | n + 1, h => by
    have h1 : anyP P f n = false := by
      cases e : anyP P f n with
      | false => rfl
      | true =>
        obtain ⟨i, a, b, c⟩ := anyP_iff.mp e
        rw [anyP_iff.mpr ⟨i, a, by omega, c⟩] at h
        cases h
    have h2 : P (f + n) = false := by
      cases e : P (f + n) with
      | false => rfl
      | true => rw [anyP_iff.mpr ⟨f + n, by omega, by omega, e⟩] at h; cases h
    show cnt P (f + n) + (if P (f + n) = true then 1 else 0) = _
    rw [cnt_none h1, h2]; rfl
theorem cnt_step {i : Nat} (h : P i = true) : cnt P (i + 1) = cnt P i + 1 := by
  show cnt P i + _ = _
  rw [h]; rfl
theorem cnt_surj {f j : Nat} : ∀ {n : Nat}, cnt P f ≤ j → j < cnt P (f + n) → ∃ i, f ≤ i ∧ i < f + n ∧ P i = true ∧ cnt P i = j
  | 0, h1, h2 => by rw [Nat.add_zero] at h2; omega
  | n + 1, h1, h2 => by
    by_cases h : j < cnt P (f + n)
    · obtain ⟨i, a, b, c, d⟩ := cnt_surj h1 h
      exact ⟨i, a, by omega, c, d⟩
    · have h2 : j < cnt P (f + n) + (if P (f + n) = true then 1 else 0) := h2
      split at h2
      · rename_i hp
        exact ⟨f + n, by omega, by omega, hp, by omega⟩
      · omega
mutual
theorem lv_chs : ∀ (k : Kd) (f : Nat), anyP P f (lv k).length = true → cnt P f + (lv (chs P k f)).length = cnt P (f + (lv k).length)
  | .leaf k, f, h => by
    obtain ⟨i, a, b, c⟩ := anyP_iff.mp h
    simp only [lv, List.length_singleton] at b
    have : i = f := by omega
    subst this
    simp only [chs, lv, List.length_singleton]
    exact (cnt_step c).symm
  | .one o a, f, h => by
    simp only [lv, List.length_map] at h
    simp only [chs, lv, List.length_map]
    exact lv_chs a f h
  | .recd fs, f, h => by
    simp only [chs, lv]
    exact lvs_chss fs f
theorem lvs_chss : ∀ (fs : Fs) (f : Nat), cnt P f + (lvs (chss P fs f)).length = cnt P (f + (lvs fs).length)
  | .nil, f => by simp [chss, lvs]
  | .cons n k fs, f => by
    have h2 := lvs_chss fs (f + (lv k).length)
    simp only [chss, lvs, List.length_append, List.length_map]
    rw [show f + ((lv k).length + (lvs fs).length) = f + (lv k).length + (lvs fs).length by omega]
    cases e : anyP P f (lv k).length with
    | true =>
      have h1 := lv_chs k f e
      simp only [if_true, lvs, List.length_append, List.length_map]
      omega
    | false =>
      have h1 := cnt_none e
      simp only [Bool.false_eq_true, if_false]
      omega
end
def comb (P1 P2 : Nat → Bool) (i : Nat) : Bool := P1 i && P2 (cnt P1 i)
theorem any_comb {f n m : Nat} (h : cnt P1 f + m = cnt P1 (f + n)) : anyP P2 (cnt P1 f) m = anyP (comb P1 P2) f n := by
  rw [Bool.eq_iff_iff, anyP_iff, anyP_iff]
  constructor
  · rintro ⟨j, a, b, c⟩
    obtain ⟨i, h1, h2, h3, h4⟩ := cnt_surj a (by omega : j < cnt P1 (f + n))
    exact ⟨i, h1, h2, by unfold comb; rw [h3, h4, c]; rfl⟩
  · rintro ⟨i, a, b, c⟩
    unfold comb at c
    rw [Bool.and_eq_true] at c
    have h1 := cnt_mono (P := P1) a
    have h2 := cnt_mono (P := P1) (show i + 1 ≤ f + n by omega)
    have h3 := cnt_step c.1
    exact ⟨cnt P1 i, h1, by omega, c.2⟩
theorem comb_none {f n : Nat} (h : anyP P1 f n = false) : anyP (comb P1 P2) f n = false := by
  cases e : anyP (comb P1 P2) f n with
  | false => rfl
  | true =>
    obtain ⟨i, a, b, c⟩ := anyP_iff.mp e
    unfold comb at c
    rw [Bool.and_eq_true] at c
    rw [anyP_iff.mpr ⟨i, a, b, c.1⟩] at h
    cases h
mutual
theorem chs_chs : ∀ (k : Kd) (f : Nat), anyP P1 f (lv k).length = true → chs P2 (chs P1 k f) (cnt P1 f) = chs (comb P1 P2) k f
  | .leaf k, f, h => by simp only [chs]
  | .one o a, f, h => by
    simp only [lv, List.length_map] at h
    simp only [chs]
    rw [chs_chs a f h]
  | .recd fs, f, h => by
    simp only [chs]
    rw [chss_chss fs f]
theorem chss_chss : ∀ (fs : Fs) (f : Nat), chss P2 (chss P1 fs f) (cnt P1 f) = chss (comb P1 P2) fs f
  | .nil, f => by simp only [chss]
  | .cons n k fs, f => by
    have h2 := chss_chss fs (f + (lv k).length)
    simp only [chss]
    cases e : anyP P1 f (lv k).length with
    | true =>
      have h1 := lv_chs k f e
      simp only [if_true, chss]
      rw [any_comb h1, h1, h2, chs_chs k f e]
    | false =>
      rw [comb_none e]
      have h1 := cnt_none e
      simp only [Bool.false_eq_true, if_false]
      rw [← h2, h1]
end
mutual
theorem okv_mono : ∀ (k : Kd) (v : D) (n m : Nat), n ≤ m → OkV k v n → OkV k v m
  | .leaf k, v, n, m, _, h => by simpa only [OkV] using h
  | .one true a, v, n, m, hm, h => by
    simp only [OkV] at h ⊢
    exact h.imp id (okv_mono a v n m hm)
  | .one false a, v, n, m, hm, h => by
    simp only [OkV] at h ⊢
    obtain ⟨vs, ms, h1, h2, h3, h4⟩ := h
    exact ⟨vs, ms, h1, h2, by omega, h4⟩
  | .recd fs, v, n, m, hm, h => by
    simp only [OkV] at h ⊢
    obtain ⟨vs, h1, h2⟩ := h
    exact ⟨vs, h1, okvs_mono fs vs n m hm h2⟩
theorem okvs_mono : ∀ (fs : Fs) (vs : List D) (n m : Nat), n ≤ m → OkVs fs vs n → OkVs fs vs m
  | .nil, vs, n, m, _, h => by simpa only [OkVs] using h
  | .cons x k fs, vs, n, m, hm, h => by
    simp only [OkVs] at h ⊢
    obtain ⟨v, r, a, b, h1, h2, h3, h4⟩ := h
    exact ⟨v, r, a, b, h1, by omega, h3, h4⟩
end
theorem wo_opt {a : Kd} {f : Nat} {v : D} (h : v ≠ .non) : wo P (.one true a) f v = wo P a f v := by
  cases v <;> first | exact absurd rfl h | simp only [wo]
mutual
theorem okv_wo : ∀ (k : Kd) (f : Nat) (v : D) (n : Nat), OkV k v n → OkV (chs P k f) (wo P k f v) n
  | .leaf k, f, v, n, h => by simpa only [chs, wo] using h
  | .one true a, f, v, n, h => by
    by_cases hv : v = .non
    · subst hv; simp only [chs, wo, OkV]; exact .inl trivial
    · rw [wo_opt hv]
      simp only [OkV] at h
      simp only [chs, OkV]
      exact .inr (okv_wo a f v n (h.resolve_left hv))
  | .one false a, f, v, n, h => by
    simp only [OkV] at h
    obtain ⟨vs, ms, rfl, h1, h2, h3⟩ := h
    simp only [chs, wo, OkV]
    refine ⟨_, ms, rfl, by rw [List.length_map]; exact h1, by rw [List.length_map]; exact h2, fun i x m hx hm => ?_⟩
    rw [List.getElem?_map] at hx
    cases e : vs[i]? with
    | none => rw [e] at hx; cases hx
    | some y =>
      rw [e] at hx
      simp only [Option.map_some, Option.some.injEq] at hx
      subst hx
      exact okv_wo a f y m (h3 i y m e hm)
  | .recd fs, f, v, n, h => by
    simp only [OkV] at h
    obtain ⟨vs, rfl, h⟩ := h
    simp only [chs, wo, OkV]
    exact ⟨_, rfl, okvs_wos fs f vs n h⟩
theorem okvs_wos : ∀ (fs : Fs) (f : Nat) (vs : List D) (n : Nat), OkVs fs vs n → OkVs (chss P fs f) (wos P fs f vs) n
  | .nil, f, vs, n, h => by simp only [chss, wos, OkVs]
  | .cons x k fs, f, vs, n, h => by
    simp only [OkVs] at h
    obtain ⟨v, r, a, b, rfl, hab, h1, h2⟩ := h
    have q := okvs_wos fs (f + (lv k).length) r b h2
    simp only [chss, wos]
    cases anyP P f (lv k).length with
    | true => simp only [if_true, OkVs]; exact ⟨_, _, a, b, rfl, hab, okv_wo k f v a h1, q⟩
    | false => simp only [Bool.false_eq_true, if_false]; exact okvs_mono _ _ b n (by omega) q
end
theorem wo_ne {k : Kd} {f : Nat} {v : D} {n : Nat} (h : OkV k v n) (ho : isOpt k = false) : wo P k f v ≠ .non := by
  have hv := okv_ne h ho
  cases k with
  | leaf k => simpa only [wo] using hv
  | one o a =>
    cases o with
    | true => cases ho
    | false => simp only [OkV] at h; obtain ⟨vs, _, rfl, _⟩ := h; simp only [wo]; exact fun z => nomatch z
  | recd fs => simp only [OkV] at h; obtain ⟨vs, rfl, _⟩ := h; simp only [wo]; exact fun z => nomatch z
mutual
theorem wo_wo : ∀ (k : Kd) (f : Nat) (v : D) (n : Nat), Wf k → OkV k v n → anyP P1 f (lv k).length = true → wo P2 (chs P1 k f) (cnt P1 f) (wo P1 k f v) = wo (comb P1 P2) k f v
  | .leaf k, f, v, n, _, _, _ => by simp only [chs, wo]
  | .one true a, f, v, n, w, h, hp => by
    by_cases hv : v = .non
    · subst hv; simp only [chs, wo]
    · simp only [OkV] at h
      simp only [Wf] at w
      simp only [lv, List.length_map] at hp
      have h := h.resolve_left hv
      rw [wo_opt hv, wo_opt hv]
      simp only [chs]
      rw [wo_opt (wo_ne h (by first | exact w.1 rfl | exact w.1 trivial)), wo_wo a f v n w.2 h hp]
  | .one false a, f, v, n, w, h, hp => by
    obtain ⟨vs, rfl, _, h2⟩ := okv_list h
    simp only [Wf] at w
    simp only [lv, List.length_map] at hp
    simp only [chs, wo, List.map_map]
    congr 1
    apply List.map_congr_left
    intro x hx
    obtain ⟨m, _, q⟩ := h2 x hx
    exact wo_wo a f x m w.2 q hp
  | .recd fs, f, v, n, w, h, hp => by
    simp only [OkV] at h
    obtain ⟨vs, rfl, h⟩ := h
    simp only [Wf] at w
    simp only [chs, wo]
    rw [wos_wos fs f vs n w.2 h]
theorem wos_wos : ∀ (fs : Fs) (f : Nat) (vs : List D) (n : Nat), Wfs fs → OkVs fs vs n → wos P2 (chss P1 fs f) (cnt P1 f) (wos P1 fs f vs) = wos (comb P1 P2) fs f vs
  | .nil, f, vs, n, _, _ => by simp only [chss, wos]
  | .cons x k fs, f, vs, n, w, h => by
    simp only [OkVs] at h
    obtain ⟨v, r, a, b, rfl, hab, h1, h2⟩ := h
    simp only [Wfs] at w
    have q := wos_wos fs (f + (lv k).length) r b w.2.2 h2
    simp only [chss, wos]
    cases e : anyP P1 f (lv k).length with
    | true =>
      have c := lv_chs k f e
      simp only [if_true, wos]
      rw [any_comb c, c, q, wo_wo k f v a w.2.1 h1 e]
    | false =>
      rw [comb_none e]
      simp only [Bool.false_eq_true, if_false]
      rw [← q, cnt_none e]
end
mutual
theorem chs_all : ∀ (k : Kd) (f : Nat), Wf k → (∀ i, f ≤ i → i < f + (lv k).length → P i = true) → chs P k f = k
  | .leaf k, f, _, _ => by simp only [chs]
  | .one o a, f, w, h => by
    simp only [Wf] at w
    simp only [lv, List.length_map] at h
    simp only [chs]
    rw [chs_all a f w.2 h]
  | .recd fs, f, w, h => by
    simp only [Wf] at w
    simp only [lv] at h
    simp only [chs]
    rw [chss_all fs f w.2 h]
theorem chss_all : ∀ (fs : Fs) (f : Nat), Wfs fs → (∀ i, f ≤ i → i < f + (lvs fs).length → P i = true) → chss P fs f = fs
  | .nil, f, _, _ => by simp only [chss]
  | .cons x k fs, f, w, h => by
    simp only [Wfs] at w
    simp only [lvs, List.length_append, List.length_map] at h
    have hp := lv_pos k w.2.1
    have ha : anyP P f (lv k).length = true := anyP_iff.mpr ⟨f, Nat.le_refl _, by omega, h f (Nat.le_refl _) (by omega)⟩
    simp only [chss]
    rw [if_pos ha, chs_all k f w.2.1 (fun i a b => h i a (by omega)), chss_all fs _ w.2.2 (fun i a b => h i (by omega) (by omega))]
end
mutual
theorem wo_all : ∀ (k : Kd) (f : Nat) (v : D) (n : Nat), Wf k → OkV k v n → (∀ i, f ≤ i → i < f + (lv k).length → P i = true) → wo P k f v = v
  | .leaf k, f, v, n, _, _, _ => by simp only [wo]
  | .one true a, f, v, n, w, h, hp => by
    by_cases hv : v = .non
    · subst hv; simp only [wo]
    · simp only [OkV] at h
      simp only [Wf] at w
      simp only [lv, List.length_map] at hp
      rw [wo_opt hv, wo_all a f v n w.2 (h.resolve_left hv) hp]
  | .one false a, f, v, n, w, h, hp => by
    obtain ⟨vs, rfl, _, h2⟩ := okv_list h
    simp only [Wf] at w
    simp only [lv, List.length_map] at hp
    simp only [wo]
    congr 1
    have : vs.map (fun x => wo P a f x) = vs.map id := List.map_congr_left fun x hx => let ⟨m, _, q⟩ := h2 x hx; wo_all a f x m w.2 q hp
    rw [this, List.map_id]
  | .recd fs, f, v, n, w, h, hp => by
    simp only [OkV] at h
    obtain ⟨vs, rfl, h⟩ := h
    simp only [Wf] at w
    simp only [lv] at hp
    simp only [wo]
    rw [wos_all fs f vs n w.2 h hp]
theorem wos_all : ∀ (fs : Fs) (f : Nat) (vs : List D) (n : Nat), Wfs fs → OkVs fs vs n → (∀ i, f ≤ i → i < f + (lvs fs).length → P i = true) → wos P fs f vs = vs
  | .nil, f, vs, n, _, h, _ => by simp only [OkVs] at h; subst h; simp only [wos]
  | .cons x k fs, f, vs, n, w, h, hp => by
    simp only [OkVs] at h
    obtain ⟨v, r, a, b, rfl, hab, h1, h2⟩ := h
    simp only [Wfs] at w
    simp only [lvs, List.length_append, List.length_map] at hp
    have hpos := lv_pos k w.2.1
    have ha : anyP P f (lv k).length = true := anyP_iff.mpr ⟨f, Nat.le_refl _, by omega, hp f (Nat.le_refl _) (by omega)⟩
    simp only [wos]
    rw [if_pos ha, wo_all k f v a w.2.1 h1 (fun i a b => hp i a (by omega)), wos_all fs _ r b w.2.2 h2 (fun i a b => hp i (by omega) (by omega))]
end
theorem opt_chs (k : Kd) (f : Nat) : isOpt (chs P k f) = isOpt k := by
  cases k with
  | leaf k => simp only [chs]
  | one o a => cases o <;> simp only [chs, isOpt]
  | recd fs => simp only [chs, isOpt]
mutual
theorem dp_chs : ∀ (k : Kd) (f : Nat), dp (chs P k f) ≤ dp k
  | .leaf k, f => by simp only [chs]; exact Nat.le_refl _
  | .one o a, f => by simp only [chs, dp]; have := dp_chs a f; omega
  | .recd fs, f => by simp only [chs, dp]; have := dps_chss fs f; omega
theorem dps_chss : ∀ (fs : Fs) (f : Nat), dps (chss P fs f) ≤ dps fs
  | .nil, f => by simp only [chss]; exact Nat.le_refl _
  | .cons x k fs, f => by
    have h1 := dp_chs k f
    have h2 := dps_chss fs (f + (lv k).length)
    simp only [chss]
    split
    · simp only [dps]; omega
    · simp only [dps]; omega
end
mutual
theorem lv_chs_le : ∀ (k : Kd) (f : Nat), (lv (chs P k f)).length ≤ (lv k).length
  | .leaf k, f => by simp only [chs]; exact Nat.le_refl _
  | .one o a, f => by simp only [chs, lv, List.length_map]; exact lv_chs_le a f
  | .recd fs, f => by simp only [chs, lv]; exact lvs_chss_le fs f
theorem lvs_chss_le : ∀ (fs : Fs) (f : Nat), (lvs (chss P fs f)).length ≤ (lvs fs).length
  | .nil, f => by simp only [chss]; exact Nat.le_refl _
  | .cons x k fs, f => by
    have h1 := lv_chs_le k f
    have h2 := lvs_chss_le fs (f + (lv k).length)
    simp only [chss]
    split
    · simp only [lvs, List.length_append, List.length_map]; omega
    · simp only [lvs, List.length_append, List.length_map]; omega
end
theorem chss_sub : ∀ (fs : Fs) (f : Nat), ((toL (chss P fs f)).map Prod.fst).Sublist ((toL fs).map Prod.fst)
  | .nil, f => by simp [chss, toL]
  | .cons x k fs, f => by
    have h2 := chss_sub fs (f + (lv k).length)
    simp only [chss]
    split
    · simp only [toL, List.map_cons]; exact h2.cons₂ _
    · simp only [toL, List.map_cons]; exact h2.cons _
theorem chss_ne : ∀ (fs : Fs) (f : Nat), anyP P f (lvs fs).length = true → chss P fs f ≠ .nil
  | .nil, f, h => by
    obtain ⟨i, a, b, _⟩ := anyP_iff.mp h
    simp [lvs] at b; omega
  | .cons x k fs, f, h => by
    simp only [chss]
    cases e : anyP P f (lv k).length with
    | true => simp only [if_true]; exact fun z => nomatch z
    | false =>
      simp only [Bool.false_eq_true, if_false]
      refine chss_ne fs _ ?_
      obtain ⟨i, a, b, c⟩ := anyP_iff.mp h
      simp only [lvs, List.length_append, List.length_map] at b
      refine anyP_iff.mpr ⟨i, ?_, by omega, c⟩
      by_cases hi : i < f + (lv k).length
      · rw [anyP_iff.mpr ⟨i, a, hi, c⟩] at e; cases e
      · omega
mutual
theorem wf_chs : ∀ (k : Kd) (f : Nat), Wf k → anyP P f (lv k).length = true → Wf (chs P k f)
  | .leaf k, f, w, _ => by simpa only [chs] using w
  | .one o a, f, w, h => by
    simp only [Wf] at w
    simp only [lv, List.length_map] at h
    simp only [chs, Wf]
    exact ⟨fun z => by rw [opt_chs]; exact w.1 z, wf_chs a f w.2 h⟩
  | .recd fs, f, w, h => by
    simp only [Wf] at w
    simp only [lv] at h
    simp only [chs, Wf]
    have hs := chss_sub (P := P) fs f
    refine ⟨⟨chss_ne fs f h, w.1.2.1.sublist hs, ?_⟩, wfs_chss fs f w.2⟩
    have := hs.length_le
    rw [List.length_map, List.length_map] at this
    have := w.1.2.2
    omega
theorem wfs_chss : ∀ (fs : Fs) (f : Nat), Wfs fs → Wfs (chss P fs f)
  | .nil, f, w => by simpa only [chss] using w
  | .cons x k fs, f, w => by
    simp only [Wfs] at w
    have h2 := wfs_chss fs (f + (lv k).length) w.2.2
    simp only [chss]
    cases e : anyP P f (lv k).length with
    | true => simp only [if_true, Wfs]; exact ⟨w.1, wf_chs k f w.2.1 e, h2⟩
    | false => simp only [Bool.false_eq_true, if_false]; exact h2
end
end
/-! ### paths -/
def under (n : List Nat) (ps : List (List (List Nat))) : List (List (List Nat)) := ps.filterMap fun p => match p with
  | [] => none
  | x :: r => if (x == n) = true then some r else none
/-! ### a choice as a list -/
def inC (c : List Nat) (i : Nat) : Bool := decide (i ∈ c)
theorem cnt_cons {x : Nat} {c : List Nat} (h : ∀ y ∈ c, x < y) : ∀ n, cnt (inC (x :: c)) n = cnt (inC c) n + (if x < n then 1 else 0)
  | 0 => by simp [cnt]
  | n + 1 => by
    show cnt (inC (x :: c)) n + _ = cnt (inC c) n + _ + _
    rw [cnt_cons h n]
    by_cases hx : n = x
    · subst hx
      have h1 : inC (n :: c) n = true := decide_eq_true List.mem_cons_self
      have h2 : inC c n = false := decide_eq_false fun z => Nat.lt_irrefl _ (h n z)
      rw [h1, h2]
      simp
    · have h1 : inC (x :: c) n = inC c n := by
        unfold inC
        congr 1
        rw [List.mem_cons, eq_iff_iff]
        exact ⟨fun z => z.resolve_left hx, .inr⟩
      rw [h1]
      have : (x < n) ↔ (x < n + 1) := by omega
      by_cases h3 : x < n
      · rw [if_pos h3, if_pos (show x < n + 1 by omega)]; omega
      · rw [if_neg h3, if_neg (show ¬ x < n + 1 by omega)]; omega
end DL

namespace DL
open PySem PySem.Spec PyProof.Rows L2
/-! ## 29. A choice of leaves: the code -/
/-! ### first_leaves -/
/-! ### is_chosen -/
/-! ### chosen_from -/
/-! ### without_from -/
/-! ### the law's own -/
end DL

namespace DL
open PySem PySem.Spec PyProof.Rows L2
/-! ## 30. is_schema, is_row, where they are right -/
theorem cut_one {x : D} {r : List D} : cutL (x :: r) none (some 1) = [x] := by
  rw [cut_pre ⟨by decide, by simp; omega⟩]; rfl
/-! ### is_name -/
def b_is_name (gSMALL : Nat) : Ss :=
 (.c (.ite (.bo false (.c (.nt (.of (.isi (.var 0) [.str]))) (.c (.nt (.chn .le .le (.con (.int 1)) (.bf true .len (.c (.var 0) .n)) (.con (.int 12)))) .n))) (.c (.ret (.con (.bl false)))
 .n) .n)
 (.c (.ret (.bf true .all (.c (.lc true (.cmp .inn (.var 1) (.glb gSMALL)) (.n 1) (.of (.var 0)) .yes [("sign", 1)]) .n)))
 .n))
/-! ### are_fields -/
def b_are_fields (cis_name gMOST_FIELDS : Nat) : Ss :=
 (.c (.ite (.bo false (.c (.nt (.of (.isi (.var 0) [.tuple]))) (.c (.nt (.chn .le .le (.con (.int 1)) (.bf true .len (.c (.var 0) .n)) (.glb gMOST_FIELDS))) .n))) (.c (.ret (.con (.bl false)))
 .n) .n)
 (.c (.ite (.nt (.of (.bf true .all (.c (.lc true (.boo true (.c (.isi (.var 1) [.tuple]) (.c (.cmp .eq (.bf true .len (.c (.var 1) .n)) (.con (.int 2))) (.c (.call cis_name (.c (.idx (.var 1) (.con (.int 0))) .n)) .n)))) (.n 1) (.of (.var 0)) .yes [("one", 1)]) .n)))) (.c (.ret (.con (.bl false)))
 .n) .n)
 (.c (.ret (.cmp .eq (.dlen (.idx (.var 1) (.con (.int 0))) (.con (.bl true)) (.n 1) (.of (.var 0)) .yes [("one", 1)]) (.bf true .len (.c (.var 0) .n))))
 .n)))
theorem insK_new {acc : List Key} {k : Key} (h : k ∉ acc) : insK acc k = acc ++ [k] := by
  unfold insK
  rw [if_neg]
  intro z
  obtain ⟨x, hx, e⟩ := List.any_eq_true.mp z
  exact h (by rw [← of_decide_eq_true e]; exact hx)
/-! ### parts_of -/
/-! ### is_schema -/
abbrev SE := Kd × Nat
def SE.d (e : SE) : D := .tup [enc e.1, .int (e.2 : Nat)]
end DL

namespace DL
open PySem PySem.Spec PyProof.Rows L2
/-! ## 63. Texts of right schemas -/
def shwF (p : List Nat × Kd) : List Nat := p.1 ++ [58, 32] ++ shw p.2
theorem shws_eq : ∀ fs, shws fs = (toL fs).map shwF
  | .nil => by simp [shws, toL]
  | .cons n k fs => by simp [shws, toL, shws_eq fs, shwF]
theorem jl_len {sep : List Nat} : ∀ {l : List (List Nat)}, (joinL sep l).length ≤ (l.map fun x => x.length + sep.length).sum
  | [] => Nat.zero_le _
  | [x] => by simp [joinL]
  | x :: y :: r => by
    have := jl_len (sep := sep) (l := y :: r)
    simp only [joinL, List.map_cons, List.sum_cons, List.length_append] at this ⊢
    omega
theorem jl_mem {sep x : List Nat} : ∀ {l : List (List Nat)}, x ∈ l → x.length ≤ (joinL sep l).length
  | [], h => nomatch h
  | [y], h => by rw [List.mem_singleton] at h; subst h; simp [joinL]
  | y :: z :: r, h => by
    simp only [joinL, List.length_append]
    rcases List.mem_cons.mp h with rfl | h
    · omega
    · have := jl_mem (sep := sep) h; omega
mutual
theorem shw_len : ∀ k, Wf k → (shw k).length ≤ 40 * ((lv k).length * dp k)
  | .leaf w, h => by
    simp only [Wf, List.mem_cons, List.not_mem_nil, or_false] at h
    rcases h with rfl | rfl | rfl <;> simp [shw, lv, dp, sInt, sText, sBool]
  | .one o a, h => by
    have hp := lv_pos (.one o a) h
    simp only [Wf] at h
    have ih := shw_len a h.2
    have e : (lv (.one o a)).length = (lv a).length := by simp [lv]
    rw [e] at hp ⊢
    simp only [dp, Nat.mul_add, Nat.mul_one]
    cases o <;> simp [shw] <;> omega
  | .recd fs, h => by
    have hp := lv_pos (.recd fs) h
    simp only [Wf] at h
    have ih := shws_len fs h.2 (dps fs) (Nat.le_refl _)
    have j : (joinL [44, 32] (shws fs)).length ≤ ((shws fs).map fun x => x.length + 2).sum := jl_len (sep := [44, 32])
    simp only [lv] at hp ⊢
    simp only [shw, dp, List.length_append, Nat.mul_add, Nat.mul_one]
    simp only [List.length_cons, List.length_nil] at ih ⊢
    omega
theorem shws_len : ∀ fs, Wfs fs → ∀ D, dps fs ≤ D → ((shws fs).map fun x => x.length + 2).sum ≤ 16 * (lvs fs).length + 40 * ((lvs fs).length * D)
  | .nil, _, D, _ => by simp [shws]
  | .cons n k fs, h, D, hD => by
    simp only [Wfs] at h
    simp only [dps] at hD
    have hp := lv_pos k h.2.1
    have i1 := shw_len k h.2.1
    have i2 := shws_len fs h.2.2 D (by omega)
    have hn := h.1.1.2
    have e : (lvs (.cons n k fs)).length = (lv k).length + (lvs fs).length := by simp [lvs]
    rw [e, Nat.add_mul]
    have m : (lv k).length * dp k ≤ (lv k).length * D := Nat.mul_le_mul_left _ (by omega)
    simp only [shws, List.map_cons, List.sum_cons, List.length_append, List.length_cons, List.length_nil]
    omega
end
/-! ### writing -/
theorem strsOf_map : ∀ l : List (List Nat), strsOf (l.map .str) = some l
  | [] => rfl
  | x :: l => by rw [List.map_cons]; show (strsOf (l.map .str)).map (x :: ·) = _; rw [strsOf_map l]; rfl
/-! ### reading what was written -/
def Stp (r : List Nat) : Prop := ∀ c r', r = c :: r' → c ∈ [93, 44, 125]
def Stq (r : List Nat) : Prop := ∀ c r', r = c :: r' → c ∈ [93, 44, 125, 63]
theorem Stp.q {r : List Nat} (h : Stp r) : Stq r := fun c r' e => by
  have := h c r' e
  simp at this ⊢
  rcases this with h | h | h <;> simp [h]
theorem stp_nil : Stp [] := fun _ _ e => nomatch e
theorem stp_cons {c : Nat} {r : List Nat} (h : c ∈ [93, 44, 125]) : Stp (c :: r) := fun _ _ e => by cases e; exact h
theorem letW_app {w r : List Nat} (hw : ∀ c ∈ w, c ∈ abc) (hr : ∀ c r', r = c :: r' → c ∉ abc) : letW (w ++ r) = w := by
  unfold letW
  rw [List.takeWhile_append_of_pos (by intro c hc; exact decide_eq_true (hw c hc))]
  cases r with
  | nil => simp
  | cons c r => rw [List.takeWhile_cons, if_neg (by simpa using hr c r rfl), List.append_nil]
theorem stq_abc {r : List Nat} (h : Stq r) : ∀ c r', r = c :: r' → c ∉ abc := fun c r' e => by
  have := h c r' e
  simp at this
  rcases this with rfl | rfl | rfl | rfl <;> decide
theorem pk_of {b : List Nat → Rs} {k : Kd} {r : List Nat} (w : Wf k) (hr : Stp r) (hb : ∀ k' r', isOpt k' = false → Wf k' → dp k' ≤ dp k → Stq r' → b (shw k' ++ r') = .ok k' r') : pKindOf b (shw k ++ r) = .ok k r := by
  have plain : isOpt k = false → pKindOf b (shw k ++ r) = .ok k r := fun ho => by
    unfold pKindOf
    rw [hb k r ho w (Nat.le_refl _) hr.q]
    show (if r.take 1 = [63] then _ else _) = _
    rw [if_neg]
    cases r with
    | nil => simp
    | cons c r =>
      have := hr c r rfl
      intro e
      simp at e
      subst e
      simp at this
  cases k with
  | leaf _ => exact plain rfl
  | recd _ => exact plain rfl
  | one o a =>
    cases o with
    | false => exact plain rfl
    | true =>
      simp only [Wf] at w
      unfold pKindOf
      have e : shw (.one true a) ++ r = shw a ++ ([63] ++ r) := by simp [shw]
      rw [e, hb a ([63] ++ r) (w.1 trivial) w.2 (by simp [dp]) (fun c r' e => by cases e; simp)]
      simp
theorem pf_of {b : List Nat → Rs} {q : List Nat × Kd} {r : List Nat} (hn : Low q.1) (h : pKindOf b (shw q.2 ++ r) = .ok q.2 r) : pFieldOf b (shwF q ++ r) = .ok q.1 q.2 r := by
  have e : shwF q ++ r = q.1 ++ ([58, 32] ++ (shw q.2 ++ r)) := by simp [shwF]
  have l : letW (shwF q ++ r) = q.1 := by
    rw [e]
    exact letW_app hn.2 (fun c r' e => by cases e; decide)
  unfold pFieldOf
  rw [l, e]
  simp [h]
/-- what stands behind a field -/
def tlF : List (List Nat × Kd) → List Nat
  | [] => []
  | q :: l => [44, 32] ++ shwF q ++ tlF l
theorem join_tl : ∀ (q : List Nat × Kd) (l : List (List Nat × Kd)), joinL [44, 32] ((q :: l).map shwF) = shwF q ++ tlF l
  | q, [] => by simp [joinL, tlF]
  | q, p :: l => by
    have := join_tl p l
    simp only [List.map_cons] at this ⊢
    rw [joinL, this]
    simp [tlF]
theorem pm_of {b : List Nat → Rs} {r : List Nat} : ∀ (l : List (List Nat × Kd)) (m : Nat) (acc : List (List Nat × Kd)), l.length < m → (∀ q ∈ l, Low q.1 ∧ ∀ r', Stp r' → pKindOf b (shw q.2 ++ r') = .ok q.2 r') → pMoreOf b m acc (tlF l ++ (125 :: r)) = .ok (.recd (fsOf (acc ++ l))) r
  | [], 0, _, h, _ => absurd h (Nat.lt_irrefl _)
  | [], m + 1, acc, _, _ => by simp [pMoreOf, tlF]
  | q :: l, 0, _, h, _ => absurd h (Nat.not_lt_zero _)
  | q :: l, m + 1, acc, h, hq => by
    have e : tlF (q :: l) ++ (125 :: r) = [44, 32] ++ (shwF q ++ (tlF l ++ (125 :: r))) := by simp [tlF]
    rw [e]
    unfold pMoreOf
    rw [if_pos (by simp)]
    have st : Stp (tlF l ++ (125 :: r)) := by
      cases l with
      | nil => exact stp_cons (by simp)
      | cons p l => simp only [tlF, List.cons_append]; exact stp_cons (by simp)
    have := pf_of (hq q List.mem_cons_self).1 ((hq q List.mem_cons_self).2 _ st)
    have e3 : List.drop 2 ([44, 32] ++ (shwF q ++ (tlF l ++ (125 :: r)))) = shwF q ++ (tlF l ++ (125 :: r)) := by simp
    rw [e3, this]
    show pMoreOf b m (acc ++ [(q.1, q.2)]) (tlF l ++ (125 :: r)) = _
    rw [pm_of l m _ (by simpa using h) fun p hp => hq p (List.mem_cons_of_mem _ hp)]
    simp
theorem tl_len : ∀ l, l.length ≤ (tlF l).length
  | [] => Nat.le_refl _
  | q :: l => by have := tl_len l; simp [tlF]; omega
theorem fs_toL : ∀ fs, fsOf (toL fs) = fs
  | .nil => rfl
  | .cons n k fs => by simp [toL, fsOf, fs_toL fs]
theorem pb_of : ∀ (n : Nat) (k : Kd) (r : List Nat), isOpt k = false → Wf k → dp k ≤ n → Stq r → pBare n (shw k ++ r) = .ok k r
  | 0, k, _, _, _, h, _ => absurd h (by have : 1 ≤ dp k := by cases k <;> simp [dp]
                                        omega)
  | n + 1, .leaf w, r, _, hw, _, hr => by
    have hl : letW (shw (.leaf w) ++ r) = w := letW_app (fun c hc => by
      simp only [Wf, List.mem_cons, List.not_mem_nil, or_false] at hw
      rcases hw with rfl | rfl | rfl <;> (revert c; decide)) (stq_abc hr)
    have hne : ∀ c : Nat, c ∉ abc → ¬ (shw (.leaf w) ++ r).take 1 = [c] := fun c hc e => by
      simp only [Wf, List.mem_cons, List.not_mem_nil, or_false] at hw
      rcases hw with rfl | rfl | rfl <;> (simp [shw, sInt, sText, sBool] at e; subst e; exact absurd hc (by decide))
    unfold pBare
    rw [if_neg (hne 91 (by decide)), if_neg (hne 123 (by decide)), hl, if_pos (by simpa [Wf] using hw)]
    simp [shw]
  | n + 1, .one o a, r, ho, hw, hd, hr => by
    cases o with
    | true => cases ho
    | false =>
      simp only [Wf] at hw
      simp only [dp] at hd
      have e : shw (.one false a) ++ r = 91 :: (shw a ++ (93 :: r)) := by simp [shw]
      have h := pk_of (b := pBare n) hw.2 (stp_cons (c := 93) (r := r) (by simp)) fun k' r' h1 h2 h3 h4 => pb_of n k' r' h1 h2 (by omega) h4
      rw [e]
      unfold pBare
      rw [if_pos (by simp)]
      simp [h]
  | n + 1, .recd fs, r, _, hw, hd, hr => by
    simp only [Wf] at hw
    simp only [dp] at hd
    have hk : ∀ q ∈ toL fs, Low q.1 ∧ ∀ r', Stp r' → pKindOf (pBare n) (shw q.2 ++ r') = .ok q.2 r' := fun q hq => by
      have hdq := dps_eq q hq
      have wq := wfs_eq hw.2 q hq
      exact ⟨wq.1, fun r' hr' => pk_of wq.2 hr' fun k' r'' h1 h2 h3 h4 => pb_of n k' r'' h1 h2 (by omega) h4⟩
    cases hl : toL fs with
    | nil => exact absurd (by rw [← fs_toL fs, hl]; rfl) hw.1.1
    | cons q l =>
      rw [hl] at hk
      have hn0 : n ≠ 0 := fun z => by
        have h1 := dps_eq q (by rw [hl]; simp)
        have : 1 ≤ dp q.2 := by cases q.2 <;> simp [dp]
        omega
      have e : shw (.recd fs) ++ r = 123 :: (shwF q ++ (tlF l ++ (125 :: r))) := by
        rw [shw, shws_eq, hl, join_tl]; simp
      have st : Stp (tlF l ++ (125 :: r)) := by
        cases l with
        | nil => exact stp_cons (by simp)
        | cons p l => simp only [tlF, List.cons_append]; exact stp_cons (by simp)
      have h := pf_of (hk q List.mem_cons_self).1 ((hk q List.mem_cons_self).2 _ st)
      rw [e]
      unfold pBare
      rw [if_neg (by simp), if_pos (by simp), if_neg hn0, show (123 :: (shwF q ++ (tlF l ++ (125 :: r)))).drop 1 = shwF q ++ (tlF l ++ (125 :: r)) by simp, h]
      show pMoreOf (pBare n) _ [(q.1, q.2)] _ = _
      rw [pm_of l _ _ (by have := tl_len l; simp; omega) fun p hp => hk p (List.mem_cons_of_mem _ hp)]
      have : fsOf ([(q.1, q.2)] ++ l) = fs := by rw [← fs_toL fs, hl]; rfl
      rw [this]
end DL

namespace DL
open PySem PySem.Spec PyProof.Rows L2
/-! ## 64. read_schema of a right text -/
def dlt (c : Nat) : Int := (if decide (c ∈ [91, 123]) = true then 1 else 0) - (if decide (c ∈ [93, 125]) = true then 1 else 0)
def okd : Int → List Nat → Prop
  | _, [] => True
  | d, c :: s => d + dlt c ≤ 8 ∧ okd (d + dlt c) s
def smd : List Nat → Int
  | [] => 0
  | c :: s => dlt c + smd s
theorem smd_app : ∀ a b, smd (a ++ b) = smd a + smd b
  | [], b => by simp [smd]
  | c :: a, b => by simp only [List.cons_append, smd, smd_app a b]; omega
theorem okd_app : ∀ (a b : List Nat) (d : Int), okd d a → okd (d + smd a) b → okd d (a ++ b)
  | [], b, d, _, h => by simpa [smd] using h
  | c :: a, b, d, h, h2 => ⟨h.1, okd_app a b _ h.2 (by simp only [smd] at h2; rw [Int.add_assoc]; exact h2)⟩
def Plc (s : List Nat) : Prop := ∀ c ∈ s, c ∉ [91, 123, 93, 125]
theorem dlt_pl {c : Nat} (h : c ∉ [91, 123, 93, 125]) : dlt c = 0 := by
  simp at h
  unfold dlt
  simp [h]
theorem pl_sm : ∀ {s : List Nat}, Plc s → smd s = 0
  | [], _ => rfl
  | c :: s, h => by rw [smd, dlt_pl (h c List.mem_cons_self), pl_sm (s := s) fun x hx => h x (List.mem_cons_of_mem _ hx)]; rfl
theorem pl_okd : ∀ {s : List Nat} {d : Int}, Plc s → d ≤ 8 → okd d s
  | [], _, _, _ => trivial
  | c :: s, d, h, hd => by
    have e := dlt_pl (h c List.mem_cons_self)
    refine ⟨by rw [e]; omega, ?_⟩
    rw [e]
    exact pl_okd (fun x hx => h x (List.mem_cons_of_mem _ hx)) (by omega)
theorem low_pl {s : List Nat} (h : Low s) : Plc s := fun c hc e => by
  have := h.2 c hc
  simp at e
  rcases e with rfl | rfl | rfl | rfl <;> exact absurd this (by decide)
theorem kd_pos (k : Kd) : 1 ≤ dp k := by cases k <;> simp [dp]
mutual
theorem shw_okd : ∀ (k : Kd), Wf k → smd (shw k) = 0 ∧ ∀ d : Int, d + dp k ≤ 9 → okd d (shw k)
  | .leaf w, h => by
    have hp : Plc (shw (.leaf w)) := fun c hc => by
      simp only [Wf, List.mem_cons, List.not_mem_nil, or_false] at h
      rcases h with rfl | rfl | rfl <;> (revert c; decide)
    exact ⟨pl_sm hp, fun d hd => pl_okd hp (by simp only [dp] at hd; omega)⟩
  | .one o a, h => by
    simp only [Wf] at h
    have hp := kd_pos a
    obtain ⟨h1, h2⟩ := shw_okd a h.2
    cases o with
    | true =>
      have e : shw (.one true a) = shw a ++ [63] := by simp [shw]
      have hq : Plc [63] := by unfold Plc; decide
      rw [e]
      exact ⟨by rw [smd_app, h1, pl_sm hq]; rfl, fun d hd => by simp only [dp] at hd; exact okd_app _ _ _ (h2 d (by omega)) (by rw [h1]; exact pl_okd hq (by omega))⟩
    | false =>
      have e : shw (.one false a) = [91] ++ (shw a ++ [93]) := by simp [shw]
      have e1 : smd [91] = 1 := by decide
      have e2 : smd [93] = -1 := by decide
      rw [e]
      refine ⟨by rw [smd_app, smd_app, h1, e1, e2]; rfl, fun d hd => ?_⟩
      simp only [dp] at hd
      refine okd_app _ _ _ ⟨?_, trivial⟩ (okd_app _ _ _ (h2 _ (by rw [e1]; omega)) ⟨?_, trivial⟩)
      · have : dlt 91 = 1 := by decide
        rw [this]; omega
      · have : dlt 93 = -1 := by decide
        rw [this, e1, h1]; omega
  | .recd fs, h => by
    simp only [Wf] at h
    obtain ⟨h1, h2⟩ := shws_okd fs h.2
    have e : shw (.recd fs) = [123] ++ (joinL [44, 32] (shws fs) ++ [125]) := by simp [shw]
    have e1 : smd [123] = 1 := by decide
    have e2 : smd [125] = -1 := by decide
    have hp : 1 ≤ dps fs := by
      cases fs with
      | nil => exact absurd rfl h.1.1
      | cons n k fs => have := kd_pos k; simp only [dps]; omega
    rw [e]
    refine ⟨by rw [smd_app, smd_app, h1, e1, e2]; rfl, fun d hd => ?_⟩
    simp only [dp] at hd
    refine okd_app _ _ _ ⟨?_, trivial⟩ (okd_app _ _ _ (h2 _ (by rw [e1]; omega) (by rw [e1]; omega)) ⟨?_, trivial⟩)
    · have : dlt 123 = 1 := by decide
      rw [this]; omega
    · have : dlt 125 = -1 := by decide
      rw [this, e1, h1]; omega
theorem shws_okd : ∀ (fs : Fs), Wfs fs → smd (joinL [44, 32] (shws fs)) = 0 ∧ ∀ d : Int, d + dps fs ≤ 9 → d ≤ 8 → okd d (joinL [44, 32] (shws fs))
  | .nil, _ => ⟨rfl, fun _ _ _ => trivial⟩
  | .cons n k fs, h => by
    simp only [Wfs] at h
    obtain ⟨h1, h2⟩ := shw_okd k h.2.1
    obtain ⟨h3, h4⟩ := shws_okd fs h.2.2
    have hn := low_pl h.1
    have hc : Plc [58, 32] := by unfold Plc; decide
    have hs : Plc [44, 32] := by unfold Plc; decide
    have s1 : smd (n ++ [58, 32] ++ shw k) = 0 := by rw [smd_app, smd_app, h1, pl_sm hn, pl_sm hc]; rfl
    have o1 : ∀ d : Int, d + dp k ≤ 9 → d ≤ 8 → okd d (n ++ [58, 32] ++ shw k) := fun d hd h8 =>
      okd_app _ _ _ (okd_app _ _ _ (pl_okd hn h8) (by rw [pl_sm hn]; exact pl_okd hc (by omega))) (by rw [smd_app, pl_sm hn, pl_sm hc]; exact h2 _ (by omega))
    simp only [shws, dps]
    cases hf : shws fs with
    | nil => exact ⟨s1, fun d hd h8 => o1 d (by omega) h8⟩
    | cons y ys =>
      rw [hf] at h3 h4
      rw [joinL]
      refine ⟨by rw [smd_app, smd_app, s1, h3, pl_sm hs]; rfl, fun d hd h8 => ?_⟩
      refine okd_app _ _ _ (okd_app _ _ _ (o1 d (by omega) h8) (by rw [s1]; exact pl_okd hs (by omega))) ?_
      rw [smd_app, s1, pl_sm hs]
      exact h4 _ (by omega) (by omega)
end
def b_read_schema (cis_schema gMOST_NESTED cTextReader_kind cTextReader_init xb : Nat) : Ss :=
 (.c (.ite (.cmp .gt (.bin true .add (.mt .scount (.var 0) (.c (.con (.str [91])) .n)) (.mt .scount (.var 0) (.c (.con (.str [123])) .n))) (.glb gMOST_NESTED)) (.c (.set 1 (.con (.int 0)))
 (.c (.for_ (.n 2) (.of (.var 0)) (.c (.aug 1 .add (.bin true .sub (.bf true .int (.c (.cmp .inn (.var 2) (.con (.str [91, 123]))) .n)) (.bf true .int (.c (.cmp .inn (.var 2) (.con (.str [93, 125]))) .n))))
 (.c (.ite (.cmp .gt (.var 1) (.glb gMOST_NESTED)) (.c (.rai xb)
 .n) .n)
 .n)))
 .n)) .n)
 (.c (.set 3 (.mak 0 cTextReader_init (.c (.var 0) .n)))
 (.c (.set 4 (.mcl 0 "kind" cTextReader_kind (.var 3) .n))
 (.c (.ite (.bo false (.c (.cmp .ne (.fld 0 (.var 3) "at") (.bf true .len (.c (.var 0) .n))) (.c (.nt (.of (.call cis_schema (.c (.var 4) .n)))) .n))) (.c (.rai xb)
 .n) .n)
 (.c (.ret (.var 4))
 .n)))))
def b_read_end (cis_schema cTextReader_kind cTextReader_init xb : Nat) : Ss :=
 (.c (.set 3 (.mak 0 cTextReader_init (.c (.var 0) .n)))
 (.c (.set 4 (.mcl 0 "kind" cTextReader_kind (.var 3) .n))
 (.c (.ite (.bo false (.c (.cmp .ne (.fld 0 (.var 3) "at") (.bf true .len (.c (.var 0) .n))) (.c (.nt (.of (.call cis_schema (.c (.var 4) .n)))) .n))) (.c (.rai xb)
 .n) .n)
 (.c (.ret (.var 4))
 .n))))
end DL

namespace DL
open PySem PySem.Spec PyProof.Rows L2
/-! ## 65. The reader reads nothing but what was written -/
theorem shw_t {a : Kd} : shw (.one true a) = shw a ++ [63] := by simp [shw]
theorem shw_f {a : Kd} : shw (.one false a) = 91 :: (shw a ++ [93]) := by simp [shw]
theorem take1 {s : List Nat} {c : Nat} (h : s.take 1 = [c]) : s = c :: s.drop 1 := by
  cases s with
  | nil => cases h
  | cons x s => simp at h; subst h; rfl
theorem take2 {s : List Nat} {c d : Nat} (h : s.take 2 = [c, d]) : s = c :: d :: s.drop 2 := by
  match s, h with
  | x :: y :: s, h => simp at h; obtain ⟨rfl, rfl⟩ := h; rfl
theorem letW_split : ∀ (s : List Nat), s = letW s ++ s.drop (letW s).length
  | [] => rfl
  | c :: s => by
    by_cases h : c ∈ abc
    · have e : letW (c :: s) = c :: letW s := by unfold letW; rw [List.takeWhile_cons, if_pos (decide_eq_true h)]
      rw [e, List.length_cons, List.drop_succ_cons, List.cons_append, ← letW_split s]
    · have e : letW (c :: s) = [] := by unfold letW; rw [List.takeWhile_cons, if_neg (by simpa using h)]
      rw [e]; rfl
theorem pk_sound {b : List Nat → Rs} (hb : ∀ s k r, b s = .ok k r → s = shw k ++ r) {s : List Nat} {k : Kd} {r : List Nat} (h : pKindOf b s = .ok k r) : s = shw k ++ r := by
  unfold pKindOf at h
  cases e : b s with
  | out => rw [e] at h; cases h
  | bad => rw [e] at h; cases h
  | ok k' r' =>
    rw [e] at h
    have h : (if r'.take 1 = [63] then Rs.ok (.one true k') (r'.drop 1) else .ok k' r') = .ok k r := h
    have hs := hb _ _ _ e
    split at h
    · rename_i c
      cases h
      rw [hs, shw_t, List.append_assoc]
      congr 1
      exact take1 c
    · cases h; exact hs
theorem pf_sound {b : List Nat → Rs} (hb : ∀ s k r, b s = .ok k r → s = shw k ++ r) {s x : List Nat} {k : Kd} {r : List Nat} (h : pFieldOf b s = .ok x k r) : s = shwF (x, k) ++ r ∧ x = letW s := by
  unfold pFieldOf at h
  split at h
  · rename_i c
    cases e : pKindOf b ((s.drop (letW s).length).drop 2) with
    | out => rw [e] at h; cases h
    | bad => rw [e] at h; cases h
    | ok k' r' =>
      rw [e] at h
      cases h
      have h2 := pk_sound hb e
      have h1 := take2 c
      refine ⟨?_, rfl⟩
      conv => lhs; rw [letW_split s, h1, h2]
      simp [shwF]
  · cases h
theorem tlF_app : ∀ (l : List (List Nat × Kd)) (q : List Nat × Kd), tlF (l ++ [q]) = tlF l ++ ([44, 32] ++ shwF q)
  | [], q => by simp [tlF]
  | p :: l, q => by simp [tlF, tlF_app l q]
/-- the text of a record's fields -/
def flds (l : List (List Nat × Kd)) : List Nat := joinL [44, 32] (l.map shwF)
theorem flds_app : ∀ (l : List (List Nat × Kd)) (q : List Nat × Kd), l ≠ [] → flds (l ++ [q]) = flds l ++ ([44, 32] ++ shwF q)
  | [], _, h => absurd rfl h
  | p :: l, q, _ => by
    unfold flds
    rw [List.cons_append, join_tl, join_tl, tlF_app, List.append_assoc]
theorem shw_rec {l : List (List Nat × Kd)} : shw (.recd (fsOf l)) = 123 :: (flds l ++ [125]) := by
  rw [shw, shws_eq, toL_of]; simp [flds]
theorem pm_sound {b : List Nat → Rs} (hb : ∀ s k r, b s = .ok k r → s = shw k ++ r) : ∀ (m : Nat) (acc : List (List Nat × Kd)) (s : List Nat) (k : Kd) (r : List Nat), acc ≠ [] → pMoreOf b m acc s = .ok k r → 123 :: (flds acc ++ s) = shw k ++ r
  | 0, _, _, _, _, _, h => by cases h
  | m + 1, acc, s, k, r, ha, h => by
    unfold pMoreOf at h
    split at h
    · rename_i c
      cases e : pFieldOf b (s.drop 2) with
      | out => rw [e] at h; cases h
      | bad => rw [e] at h; cases h
      | ok x k' r' =>
        rw [e] at h
        have h : pMoreOf b m (acc ++ [(x, k')]) r' = .ok k r := h
        have := pm_sound hb m _ _ _ _ (by simp) h
        rw [← this, flds_app _ _ ha, take2 c, (pf_sound hb e).1]
        simp
    · split at h
      · rename_i c
        cases h
        rw [shw_rec, take1 c]
        simp
      · cases h
theorem pb_sound : ∀ (n : Nat) (s : List Nat) (k : Kd) (r : List Nat), pBare n s = .ok k r → s = shw k ++ r
  | 0, _, _, _, h => by cases h
  | n + 1, s, k, r, h => by
    have hb := pb_sound n
    unfold pBare at h
    split at h
    · rename_i c
      cases e : pKindOf (pBare n) (s.drop 1) with
      | out => rw [e] at h; cases h
      | bad => rw [e] at h; cases h
      | ok k' r' =>
        rw [e] at h
        have h : (if r'.take 1 = [93] then Rs.ok (.one false k') (r'.drop 1) else .bad) = .ok k r := h
        split at h
        · rename_i c2
          cases h
          rw [take1 c, pk_sound hb e, take1 c2, shw_f]
          simp
        · cases h
    · split at h
      · rename_i c
        split at h
        · cases h
        · cases e : pFieldOf (pBare n) (s.drop 1) with
          | out => rw [e] at h; cases h
          | bad => rw [e] at h; cases h
          | ok x k' r' =>
            rw [e] at h
            have h : pMoreOf (pBare n) (r'.length + 1) [(x, k')] r' = .ok k r := h
            have := pm_sound hb _ _ _ _ _ (by simp) h
            rw [← this, take1 c, (pf_sound hb e).1]
            simp [flds, joinL]
      · split at h
        · cases h
          exact letW_split s
        · cases h
end DL

namespace DL
open PySem PySem.Spec PyProof.Rows L2
/-! ## 66. Where brackets lie at most 8 deep, the reader comes to an end -/
theorem okd_suf : ∀ (a b : List Nat) (d : Int), okd d (a ++ b) → okd (d + smd a) b
  | [], b, d, h => by simpa [smd] using h
  | c :: a, b, d, h => by have := okd_suf a b _ h.2; rw [smd, ← Int.add_assoc]; exact this
theorem abc_pl {s : List Nat} (h : ∀ c ∈ s, c ∈ abc) : Plc s := fun c hc e => by
  have := h c hc
  simp at e
  rcases e with rfl | rfl | rfl | rfl <;> exact absurd this (by decide)
theorem letW_abc (s : List Nat) : ∀ c ∈ letW s, c ∈ abc := fun c hc => by
  have := List.all_eq_true.mp (List.all_takeWhile (p := fun c => decide (c ∈ abc)) (l := s)) c hc
  simpa using this
theorem okd_let {s : List Nat} {d : Int} (h : okd d s) : okd d (s.drop (letW s).length) := by
  have := okd_suf (letW s) (s.drop (letW s).length) d (by rw [← letW_split s]; exact h)
  rw [pl_sm (abc_pl (letW_abc s)), Int.add_zero] at this
  exact this
/-- what is asked of a reading of a kind -/
def NoOut (b : List Nat → Rs) (d : Int) : Prop := ∀ s, okd d s → b s ≠ .out ∧ ∀ k r, b s = .ok k r → okd d r
theorem pk_no {b : List Nat → Rs} {d : Int} (hb : NoOut b d) : NoOut (pKindOf b) d := fun s h => by
  obtain ⟨h1, h2⟩ := hb s h
  unfold pKindOf
  cases e : b s with
  | out => exact absurd e h1
  | bad => exact ⟨fun z => (nomatch z), fun _ _ z => (nomatch z)⟩
  | ok k r =>
    have h3 := h2 k r e
    show (if r.take 1 = [63] then Rs.ok (.one true k) (r.drop 1) else .ok k r) ≠ .out ∧ ∀ k' r', (if r.take 1 = [63] then Rs.ok (.one true k) (r.drop 1) else .ok k r) = .ok k' r' → okd d r'
    split
    · rename_i c
      refine ⟨fun z => (nomatch z), fun k' r' z => ?_⟩
      cases z
      rw [take1 c] at h3
      have e0 : dlt 63 = 0 := by decide
      have := h3.2
      rw [e0, Int.add_zero] at this
      exact this
    · exact ⟨fun z => (nomatch z), fun k' r' z => by cases z; exact h3⟩
theorem pf_no {b : List Nat → Rs} {d : Int} (hb : NoOut b d) {s : List Nat} (h : okd d s) : pFieldOf b s ≠ .out ∧ ∀ x k r, pFieldOf b s = .ok x k r → okd d r := by
  have h1 := okd_let h
  unfold pFieldOf
  split
  · rename_i c
    rw [take2 c] at h1
    have e1 : dlt 58 = 0 := by decide
    have e2 : dlt 32 = 0 := by decide
    have h2 := h1.2.2
    rw [e1, e2, Int.add_zero, Int.add_zero] at h2
    obtain ⟨k1, k2⟩ := pk_no hb _ h2
    cases e : pKindOf b ((s.drop (letW s).length).drop 2) with
    | out => exact absurd e k1
    | bad => exact ⟨fun z => (nomatch z), fun _ _ _ z => (nomatch z)⟩
    | ok k r => exact ⟨fun z => (nomatch z), fun x k' r' z => by cases z; exact k2 _ _ e⟩
  · exact ⟨fun z => (nomatch z), fun _ _ _ z => (nomatch z)⟩
theorem pm_no {b : List Nat → Rs} {d : Int} (hb : NoOut b d) (hs : ∀ s k r, b s = .ok k r → s = shw k ++ r) : ∀ (m : Nat) (acc : List (List Nat × Kd)) (s : List Nat), s.length < m → okd d s → pMoreOf b m acc s ≠ .out ∧ ∀ k r, pMoreOf b m acc s = .ok k r → okd (d - 1) r
  | 0, _, _, h, _ => absurd h (Nat.not_lt_zero _)
  | m + 1, acc, s, h, ho => by
    unfold pMoreOf
    split
    · rename_i c
      rw [take2 c] at ho
      have e1 : dlt 44 = 0 := by decide
      have e2 : dlt 32 = 0 := by decide
      have h2 := ho.2.2
      rw [e1, e2, Int.add_zero, Int.add_zero] at h2
      obtain ⟨k1, k2⟩ := pf_no hb h2
      cases e : pFieldOf b (s.drop 2) with
      | out => exact absurd e k1
      | bad => exact ⟨fun z => (nomatch z), fun _ _ z => (nomatch z)⟩
      | ok x k r =>
        have hl : r.length < m := by
          have := congrArg List.length (pf_sound hs e).1
          have h3 := congrArg List.length (take2 c)
          simp at this h3
          omega
        exact pm_no hb hs m _ _ hl (k2 _ _ _ e)
    · split
      · rename_i c
        refine ⟨fun z => (nomatch z), fun k r z => ?_⟩
        cases z
        rw [take1 c] at ho
        have e1 : dlt 125 = -1 := by decide
        have := ho.2
        rw [e1] at this
        exact this
      · exact ⟨fun z => (nomatch z), fun _ _ z => (nomatch z)⟩
theorem pb_no : ∀ (n : Nat) (d : Int), d ≤ 8 → 9 ≤ d + n → NoOut (pBare n) d
  | 0, d, h1, h2 => absurd h2 (by omega)
  | n + 1, d, h1, h2 => fun s h => by
    unfold pBare
    split
    · rename_i c
      rw [take1 c] at h
      have e1 : dlt 91 = 1 := by decide
      obtain ⟨q1, q2⟩ := h
      rw [e1] at q1 q2
      obtain ⟨k1, k2⟩ := pk_no (pb_no n (d + 1) q1 (by omega)) _ q2
      cases e : pKindOf (pBare n) (s.drop 1) with
      | out => exact absurd e k1
      | bad => exact ⟨fun z => (nomatch z), fun _ _ z => (nomatch z)⟩
      | ok k r =>
        have h3 := k2 k r e
        show (if r.take 1 = [93] then Rs.ok (.one false k) (r.drop 1) else .bad) ≠ .out ∧ ∀ k' r', (if r.take 1 = [93] then Rs.ok (.one false k) (r.drop 1) else .bad) = .ok k' r' → okd d r'
        split
        · rename_i c2
          refine ⟨fun z => (nomatch z), fun k' r' z => ?_⟩
          cases z
          rw [take1 c2] at h3
          have e2 : dlt 93 = -1 := by decide
          have := h3.2
          rw [e2, show d + 1 + -1 = d by omega] at this
          exact this
        · exact ⟨fun z => (nomatch z), fun _ _ z => (nomatch z)⟩
    · split
      · rename_i c
        rw [take1 c] at h
        have e1 : dlt 123 = 1 := by decide
        obtain ⟨q1, q2⟩ := h
        rw [e1] at q1 q2
        rw [if_neg (by omega)]
        have hn := pb_no n (d + 1) q1 (by omega)
        obtain ⟨k1, k2⟩ := pf_no hn q2
        cases e : pFieldOf (pBare n) (s.drop 1) with
        | out => exact absurd e k1
        | bad => exact ⟨fun z => (nomatch z), fun _ _ z => (nomatch z)⟩
        | ok x k r =>
          have := pm_no hn (pb_sound n) (r.length + 1) [(x, k)] r (Nat.lt_succ_self _) (k2 _ _ _ e)
          rw [show d + 1 - 1 = d by omega] at this
          exact this
      · split
        · exact ⟨fun z => (nomatch z), fun k r z => by cases z; exact okd_let h⟩
        · exact ⟨fun z => (nomatch z), fun _ _ z => (nomatch z)⟩
end DL

namespace DL
open PySem PySem.Spec PyProof.Rows L2
/-! ## 31. Any values: is_schema and the law's own -/
/-- a plain value, its lists and tuples of at most b items -/
def PB (b : Nat) : Nat → D → Prop
  | 0, _ => False
  | n + 1, d => match d with
    | .non | .bl _ | .int _ | .str _ => True
    | .tup ds => ds.length ≤ b ∧ ∀ x ∈ ds, PB b n x
    | .lst ds => ds.length ≤ b ∧ ∀ x ∈ ds, PB b n x
    | _ => False
def PX (b : Nat) (d : D) : Prop := ∃ n, PB b n d
theorem PB.mono {b b' : Nat} (hb : b ≤ b') : ∀ {n m : Nat} {d : D}, n ≤ m → PB b n d → PB b' m d
  | 0, _, _, _, h => h.elim
  | n + 1, 0, _, hm, _ => by omega
  | n + 1, m + 1, d, hm, h => by
    cases d <;> first | trivial | exact h.elim | exact ⟨Nat.le_trans h.1 hb, fun x hx => PB.mono hb (by omega) (h.2 x hx)⟩
theorem PX.mono {b b' : Nat} (hb : b ≤ b') {d : D} : PX b d → PX b' d := fun ⟨n, h⟩ => ⟨n, h.mono hb (Nat.le_refl _)⟩
theorem PX.all {b : Nat} : ∀ {ds : List D}, (∀ x ∈ ds, PX b x) → ∃ n, ∀ x ∈ ds, PB b n x
  | [], _ => ⟨0, fun _ h => nomatch h⟩
  | d :: ds, h => by
    obtain ⟨n, hn⟩ := PX.all (ds := ds) fun x hx => h x (List.mem_cons_of_mem _ hx)
    obtain ⟨m, hm⟩ := h d List.mem_cons_self
    refine ⟨max n m, fun x hx => ?_⟩
    rcases List.mem_cons.mp hx with rfl | hx
    · exact hm.mono (Nat.le_refl _) (Nat.le_max_right _ _)
    · exact (hn x hx).mono (Nat.le_refl _) (Nat.le_max_left _ _)
theorem PX.tup {b : Nat} {ds : List D} (hl : ds.length ≤ b) (h : ∀ x ∈ ds, PX b x) : PX b (.tup ds) := let ⟨n, hn⟩ := PX.all h; ⟨n + 1, hl, hn⟩
theorem PX.lst {b : Nat} {ds : List D} (hl : ds.length ≤ b) (h : ∀ x ∈ ds, PX b x) : PX b (.lst ds) := let ⟨n, hn⟩ := PX.all h; ⟨n + 1, hl, hn⟩
theorem PX.of_tup {b : Nat} {ds : List D} (h : PX b (.tup ds)) : ds.length ≤ b ∧ ∀ x ∈ ds, PX b x := by
  obtain ⟨n, h⟩ := h
  cases n with
  | zero => exact h.elim
  | succ n => exact ⟨h.1, fun x hx => ⟨n, h.2 x hx⟩⟩
theorem PX.str {b : Nat} (s : List Nat) : PX b (.str s) := ⟨1, trivial⟩
theorem PX.non {b : Nat} : PX b .non := ⟨1, trivial⟩
theorem PX.int {b : Nat} (i : Int) : PX b (.int i) := ⟨1, trivial⟩
theorem PX.bl {b : Nat} (c : Bool) : PX b (.bl c) := ⟨1, trivial⟩
/-- the six kinds of them -/
theorem PX.cases {b : Nat} {d : D} (h : PX b d) : d = .non ∨ (∃ c, d = .bl c) ∨ (∃ i, d = .int i) ∨ (∃ s, d = .str s) ∨ (∃ ds, d = .tup ds) ∨ ∃ ds, d = .lst ds := by
  obtain ⟨n, h⟩ := h
  cases n with
  | zero => exact h.elim
  | succ n =>
    cases d <;> first | exact h.elim | skip
    · exact .inl rfl
    · exact .inr (.inl ⟨_, rfl⟩)
    · exact .inr (.inr (.inl ⟨_, rfl⟩))
    · exact .inr (.inr (.inr (.inl ⟨_, rfl⟩)))
    · exact .inr (.inr (.inr (.inr (.inl ⟨_, rfl⟩))))
    · exact .inr (.inr (.inr (.inr (.inr ⟨_, rfl⟩))))
theorem py_pb {b : Nat} : ∀ {n : Nat} {d : D}, PB b n d → ∃ x, py d = some x
  | 0, _, h => h.elim
  | n + 1, d, h => by
    cases d <;> first | exact h.elim | (simp only [py]; exact ⟨_, rfl⟩) | skip
    all_goals
      obtain ⟨ys, e⟩ := pys_all' fun x hx => py_pb (h.2 x hx)
      simp only [py, e]; exact ⟨_, rfl⟩
where pys_all' : ∀ {vs : List D}, (∀ x ∈ vs, ∃ y, py x = some y) → ∃ ys, pys vs = some ys
  | [], _ => ⟨[], by simp [pys]⟩
  | v :: vs, h => by
    obtain ⟨y, e⟩ := h v List.mem_cons_self
    obtain ⟨ys, e2⟩ := pys_all' (vs := vs) fun x hx => h x (List.mem_cons_of_mem _ hx)
    exact ⟨y :: ys, by simp [pys, e, e2]⟩
def strB (d : D) (s : List Nat) : Bool := match d with
  | .str t => t == s
  | _ => false
theorem pyT_pb {b : Nat} {d : D} {G : HD} (h : PX b d) : pyT d G = py d := by
  rcases h.cases with rfl | ⟨_, rfl⟩ | ⟨_, rfl⟩ | ⟨_, rfl⟩ | ⟨_, rfl⟩ | ⟨_, rfl⟩ <;> rfl
theorem eq_strB {b : Nat} {d : D} {s : List Nat} {G : HD} (h : PX b d) : eqD d (.str s) G = some (strB d s) := by
  obtain ⟨n, hn⟩ := h
  obtain ⟨x, e⟩ := py_pb hn
  have dd : ∀ x : PyData, min x.depth (PyData.str (mkStr s)).depth ≤ 64 := fun x => Nat.le_trans (Nat.min_le_right _ _) (by simp [PyData.depth])
  unfold eqD
  rw [pyT_pb ⟨n, hn⟩, e]
  simp only [pyT, py]
  rw [if_pos (dd _)]
  rcases (PX.cases ⟨n, hn⟩) with rfl | ⟨c, rfl⟩ | ⟨i, rfl⟩ | ⟨t, rfl⟩ | ⟨ds, rfl⟩ | ⟨ds, rfl⟩
  · simp only [py, Option.some.injEq] at e; subst e; simp [PyData.eqv, strB]
  · simp only [py, Option.some.injEq] at e; subst e; simp [PyData.eqv, strB]
  · simp only [py, Option.some.injEq] at e; subst e; simp [PyData.eqv, strB]
  · simp only [py, Option.some.injEq] at e; subst e; simp [PyData.eqv, strB, mkStr_eq]
  · simp only [py] at e; split at e <;> cases e; simp [PyData.eqv, strB]
  · simp only [py] at e; split at e <;> cases e; simp [PyData.eqv, strB]
theorem eq_tupB {b : Nat} {d : D} {s : List Nat} {G : HD} (h : PX b d) : eqD (.tup [d]) (.tup [.str s]) G = some (strB d s) := by
  obtain ⟨n, hn⟩ := h
  obtain ⟨x, e⟩ := py_pb hn
  have dd : ∀ x : PyData, min x.depth (PyData.tuple [PyData.str (mkStr s)]).depth ≤ 64 := fun x => Nat.le_trans (Nat.min_le_right _ _) (by simp [PyData.depth, PyData.depthAll])
  simp only [eqD, pyT, py, pys, e]
  rw [if_pos (dd _)]
  rcases (PX.cases ⟨n, hn⟩) with rfl | ⟨c, rfl⟩ | ⟨i, rfl⟩ | ⟨t, rfl⟩ | ⟨ds, rfl⟩ | ⟨ds, rfl⟩
  · simp only [py, Option.some.injEq] at e; subst e; simp [PyData.eqv, PyData.eqvAll, strB]
  · simp only [py, Option.some.injEq] at e; subst e; simp [PyData.eqv, PyData.eqvAll, strB]
  · simp only [py, Option.some.injEq] at e; subst e; simp [PyData.eqv, PyData.eqvAll, strB]
  · simp only [py, Option.some.injEq] at e; subst e; simp [PyData.eqv, PyData.eqvAll, strB, mkStr_eq]
  · simp only [py] at e; split at e <;> cases e; simp [PyData.eqv, PyData.eqvAll, strB]
  · simp only [py] at e; split at e <;> cases e; simp [PyData.eqv, PyData.eqvAll, strB]
theorem eq_tupN {s : List Nat} {G : HD} : eqD (.tup []) (.tup [.str s]) G = some false := by
  simp only [eqD, pyT, py, pys]
  rw [if_pos (Nat.le_trans (Nat.min_le_right _ _) (by simp [PyData.depth, PyData.depthAll]))]
  simp [PyData.eqv, PyData.eqvAll]
/-! ### names -/
def nameB (d : D) : Bool := match d with
  | .str s => decide (1 ≤ s.length) && decide (s.length ≤ 12) && s.all fun c => decide (c ∈ abc)
  | _ => false
def spNm : SpD := fun ds G Q _ => ∃ v, ds = [v] ∧ PX 1000 v ∧ Q (.bl (nameB v)) G
theorem all_inB {s t : List Nat} {G : HD} {QD : KD} {i : Nat} {σ : StD} (hQ : QD (.bl (s.all fun c => decide (c ∈ t))) G) (hg : ∀ d : D, ((σ.set i (some d)).getD i none) = some d) :
    lcD (fun x H2 K => ok (asg (.n i) x σ) fun σ' => ok (σ'.getD i none) fun d => ok (inD d (.str t) H2) fun c => K (some (.bl c)) H2) (fun acc H2 => ok (blsOf acc) fun bs => QD (.bl (bs.all id)) H2) (s.map fun c => .str [c]) [] G := by
  refine lcD_ind (fun xs acc H => H = G ∧ ∃ a b : List Nat, s = a ++ b ∧ xs = b.map (fun c => .str [c]) ∧ acc = (a.map fun c => decide (c ∈ t)).map D.bl) ?_ ?_ _ _ _ ⟨rfl, [], s, rfl, rfl, rfl⟩
  · rintro acc H ⟨rfl, a, b, e, hx, rfl⟩
    have : b = [] := by cases b <;> first | rfl | cases hx
    subst this
    rw [List.append_nil] at e
    subst e
    have bls : ∀ bs : List Bool, blsOf (bs.map D.bl) = some bs := fun bs => by
      induction bs with
      | nil => rfl
      | cons b bs ih => show (blsOf (bs.map D.bl)).map (b :: ·) = _; rw [ih]; rfl
    rw [bls, ok_some, List.all_map]
    exact hQ
  · rintro x xs acc ih H ⟨rfl, a, b, e, hx, rfl⟩
    cases b with
    | nil => cases hx
    | cons c b =>
      rw [List.map_cons] at hx
      injection hx with hx1 hx2
      subst hx1; subst hx2
      show ok ((σ.set i (some (.str [c]))).getD i none) _
      rw [hg, ok_some]
      exact ih _ _ ⟨rfl, a ++ [c], b, by rw [e]; simp, rfl, by simp⟩
theorem nm_1 {s : List Nat} (e : decide ((1 : Int) ≤ (s.length : Nat)) = false) : nameB (.str s) = false := by
  simp only [nameB]
  have : decide (1 ≤ s.length) = false := decide_eq_false (by have := of_decide_eq_false e; omega)
  rw [this]; rfl
theorem nm_2 {s : List Nat} (e : decide (((s.length : Nat) : Int) ≤ 12) = false) : nameB (.str s) = false := by
  simp only [nameB]
  have : decide (s.length ≤ 12) = false := decide_eq_false (by have := of_decide_eq_false e; omega)
  rw [this, Bool.and_false]; rfl
theorem nm_3 {s : List Nat} (e1 : decide ((1 : Int) ≤ (s.length : Nat)) = true) (e2 : decide (((s.length : Nat) : Int) ≤ 12) = true) : nameB (.str s) = s.all fun c => decide (c ∈ abc) := by
  simp only [nameB]
  have f1 : decide (1 ≤ s.length) = true := decide_eq_true (by have := of_decide_eq_true e1; omega)
  have f2 : decide (s.length ≤ 12) = true := decide_eq_true (by have := of_decide_eq_true e2; omega)
  rw [f1, f2]; rfl
theorem nmP_ok {Γ : Gam} {gs : Nat} (hg : Γ.gl gs = .str abc) (ds : List D) (G : HD) (QD : KD) (XD : KX) (h : spNm ds G QD XD) : wSs Γ (b_is_name gs) { nx := fun _ H => QD .non H, rt := QD, ex := fun x _ H => XD x H } (startD 2 ds) G := by
  obtain ⟨v, rfl, hv, hQ⟩ := h
  rcases hv.cases with rfl | ⟨c, rfl⟩ | ⟨i, rfl⟩ | ⟨s, rfl⟩ | ⟨ds, rfl⟩ | ⟨ds, rfl⟩
  case inr.inr.inr.inl =>
    simp_arith [b_is_name, hg]
    cases e1 : decide ((1 : Int) ≤ (s.length : Nat)) with
    | false => rw [nm_1 e1] at hQ; exact hQ
    | true =>
      simp_arith []
      cases e2 : decide (((s.length : Nat) : Int) ≤ 12) with
      | false => rw [nm_2 e2] at hQ; exact hQ
      | true => rw [nm_3 e1 e2] at hQ; exact all_inB (i := 1) (σ := [some (.str s), none]) hQ fun d => rfl
  all_goals
    simp_arith [b_is_name, hg]
    exact hQ
def b_law_is_name : Ss :=
 (.c (.ite (.bo false (.c (.nt (.of (.isi (.var 0) [.str]))) (.c (.nt (.chn .le .le (.con (.int 1)) (.bf true .len (.c (.var 0) .n)) (.con (.int 12)))) .n))) (.c (.ret (.con (.bl false)))
 .n) .n)
 (.c (.ret (.bf true .all (.c (.lc true (.cmp .inn (.var 1) (.con (.str abc))) (.n 1) (.of (.var 0)) .yes [("sign", 1)]) .n)))
 .n))
theorem nmL_ok {Γ : Gam} (ds : List D) (G : HD) (QD : KD) (XD : KX) (h : spNm ds G QD XD) : wSs Γ b_law_is_name { nx := fun _ H => QD .non H, rt := QD, ex := fun x _ H => XD x H } (startD 2 ds) G := by
  obtain ⟨v, rfl, hv, hQ⟩ := h
  rcases hv.cases with rfl | ⟨c, rfl⟩ | ⟨i, rfl⟩ | ⟨s, rfl⟩ | ⟨ds, rfl⟩ | ⟨ds, rfl⟩
  case inr.inr.inr.inl =>
    simp_arith [b_law_is_name]
    cases e1 : decide ((1 : Int) ≤ (s.length : Nat)) with
    | false => rw [nm_1 e1] at hQ; exact hQ
    | true =>
      simp_arith []
      cases e2 : decide (((s.length : Nat) : Int) ≤ 12) with
      | false => rw [nm_2 e2] at hQ; exact hQ
      | true => rw [nm_3 e1 e2] at hQ; exact all_inB (i := 1) (σ := [some (.str s), none]) hQ fun d => rfl
  all_goals
    simp_arith [b_law_is_name]
    exact hQ
/-! ### fields -/
def fieldB (d : D) : Bool := match d with
  | .tup [a, _] => nameB a
  | _ => false
def fnm (d : D) : List Nat := match d with
  | .tup (.str s :: _) => s
  | _ => []
def fsec (d : D) : D := match d with
  | .tup [_, b] => b
  | _ => .non
def fieldsB (d : D) : Bool := match d with
  | .tup fs => decide (1 ≤ fs.length) && decide (fs.length ≤ 8) && fs.all fieldB && decide ((fs.map fnm).Nodup)
  | _ => false
theorem fieldB_iff {d : D} (h : fieldB d = true) : ∃ s w, d = .tup [.str s, w] := by
  unfold fieldB at h
  split at h
  · rename_i a w
    cases a <;> first | exact ⟨_, _, rfl⟩ | cases h
  · cases h
def spAr : SpD := fun ds G Q _ => ∃ v, ds = [v] ∧ PX 1000 v ∧ Q (.bl (fieldsB v)) G
/-- how many keys there are -/
def keyN (d : D) : Key := .inr (mkStr (fnm d))
def keysOf : List D → List Key → List Key
  | [], acc => acc
  | d :: ds, acc => keysOf ds (insK acc (keyN d))
theorem insK_old {acc : List Key} {k : Key} (h : k ∈ acc) : insK acc k = acc := by
  unfold insK
  rw [if_pos (List.any_eq_true.mpr ⟨k, h, decide_eq_true rfl⟩)]
theorem keysOf_le : ∀ (ds : List D) (acc : List Key), (keysOf ds acc).length ≤ acc.length + ds.length
  | [], acc => by simp [keysOf]
  | d :: ds, acc => by
    have h1 := keysOf_le ds (insK acc (keyN d))
    have h2 : (insK acc (keyN d)).length ≤ acc.length + 1 := by unfold insK; split <;> simp
    simp only [keysOf, List.length_cons]; omega
theorem keysOf_iff : ∀ (ds : List D) (acc : List Key), ((keysOf ds acc).length = acc.length + ds.length) ↔ ((ds.map keyN).Nodup ∧ ∀ d ∈ ds, keyN d ∉ acc)
  | [], acc => by simp [keysOf]
  | d :: ds, acc => by
    simp only [keysOf, List.map_cons, List.nodup_cons, List.length_cons]
    by_cases hk : keyN d ∈ acc
    · rw [insK_old hk]
      have := keysOf_le ds acc
      constructor
      · intro h; omega
      · rintro ⟨_, h⟩; exact absurd hk (h d List.mem_cons_self)
    · rw [insK_new hk]
      have ih := keysOf_iff ds (acc ++ [keyN d])
      rw [List.length_append, List.length_singleton] at ih
      rw [show acc.length + (ds.length + 1) = acc.length + 1 + ds.length by omega, ih]
      constructor
      · rintro ⟨h1, h2⟩
        refine ⟨⟨fun z => ?_, h1⟩, fun x hx => ?_⟩
        · obtain ⟨x, hx, e⟩ := List.mem_map.mp z
          exact h2 x hx (by rw [e]; simp)
        · rcases List.mem_cons.mp hx with rfl | hx
          · exact hk
          · exact fun z => h2 x hx (List.mem_append_left _ z)
      · rintro ⟨⟨h1, h2⟩, h3⟩
        refine ⟨h2, fun x hx z => ?_⟩
        rcases List.mem_append.mp z with z | z
        · exact h3 x (List.mem_cons_of_mem _ hx) z
        · rw [List.mem_singleton] at z
          exact h1 (List.mem_map.mpr ⟨x, hx, z⟩)
theorem keyN_nodup (ds : List D) : (ds.map keyN).Nodup ↔ (ds.map fnm).Nodup := by
  show List.Pairwise (· ≠ ·) _ ↔ List.Pairwise (· ≠ ·) _
  rw [List.pairwise_map, List.pairwise_map]
  constructor
  · exact List.Pairwise.imp fun {a b} h e => h (by unfold keyN; rw [e])
  · exact List.Pairwise.imp fun {a b} h e => h (mkStr_inj (Sum.inr.inj e))
end DL

namespace DL
open PySem PySem.Spec PyProof.Rows L2
theorem is2 {n : Nat} (h : n ≠ 2) : (((n : Nat) : Int) == 2) = false := by rw [beq_eq_false_iff_ne]; omega
theorem is1 {n : Nat} (h : n ≠ 1) : (((n : Nat) : Int) == 1) = false := by rw [beq_eq_false_iff_ne]; omega
theorem is22 : (((2 : Nat) : Int) == 2) = true := rfl
theorem is11 : (((1 : Nat) : Int) == 1) = true := rfl
theorem bls_mm : ∀ bs : List Bool, blsOf (bs.map D.bl) = some bs
  | [] => rfl
  | b :: bs => by show (blsOf (bs.map D.bl)).map (b :: ·) = _; rw [bls_mm bs]; rfl
/-! ### are_fields -/
theorem areG_ok {Γ : Gam} {nm gm : Nat} (h1 : Γ.sp nm = spNm) (hg : Γ.gl gm = .int 8) (ds : List D) (G : HD) (QD : KD) (XD : KX) (h : spAr ds G QD XD) : wSs Γ (b_are_fields nm gm) { nx := fun _ H => QD .non H, rt := QD, ex := fun x _ H => XD x H } (startD 2 ds) G := by
  obtain ⟨v, rfl, hv, hQ⟩ := h
  rcases hv.cases with rfl | ⟨c, rfl⟩ | ⟨i, rfl⟩ | ⟨s, rfl⟩ | ⟨fs, rfl⟩ | ⟨ds, rfl⟩
  case inr.inr.inr.inr.inl =>
    obtain ⟨hl, hx⟩ := hv.of_tup
    have hQ : QD (.bl (decide (1 ≤ fs.length) && decide (fs.length ≤ 8) && fs.all fieldB && decide ((fs.map fnm).Nodup))) G := hQ
    simp_arith [b_are_fields, h1, hg]
    cases e1 : decide ((1 : Int) ≤ (fs.length : Nat)) with
    | false =>
      have : decide (1 ≤ fs.length) = false := decide_eq_false (by have := of_decide_eq_false e1; omega)
      rw [this] at hQ; exact hQ
    | true =>
      have f1 : decide (1 ≤ fs.length) = true := decide_eq_true (by have := of_decide_eq_true e1; omega)
      rw [f1] at hQ
      simp_arith []
      cases e2 : decide (((fs.length : Nat) : Int) ≤ 8) with
      | false =>
        have : decide (fs.length ≤ 8) = false := decide_eq_false (by have := of_decide_eq_false e2; omega)
        rw [this] at hQ; exact hQ
      | true =>
        have f2 : decide (fs.length ≤ 8) = true := decide_eq_true (by have := of_decide_eq_true e2; omega)
        rw [f2] at hQ
        simp_arith []
        refine lcD_ind (fun xs acc H => H = G ∧ ∃ a : List D, fs = a ++ xs ∧ acc = (a.map fieldB).map D.bl) ?_ ?_ _ _ _ ⟨rfl, [], rfl, rfl⟩
        · rintro acc H ⟨rfl, a, e, rfl⟩
          rw [List.append_nil] at e
          subst e
          rw [bls_mm, ok_some, List.all_map]
          have ea : (fs.all (id ∘ fieldB)) = fs.all fieldB := rfl
          rw [ea]
          cases e3 : fs.all fieldB with
          | false => rw [e3] at hQ; exact hQ
          | true =>
            rw [e3] at hQ
            have hQ : QD (.bl (decide ((fs.map fnm).Nodup))) H := hQ
            simp_arith []
            have go : ∀ (l : List D) (acc : List Key), (∀ q ∈ l, fieldB q = true) → ∀ H1, H1 = H →
                (dcD (fun x H2 K => ok (idxD x (.int 0) H2) fun d => ok (keyD d) fun k => K (some k) H2) (fun acc H2 => ok (eqD (.int (acc.length : Nat)) (.int (fs.length : Nat)) H2) fun c => QD (.bl c) H2) l acc H1 ↔ QD (.bl ((((keysOf l acc).length : Nat) : Int) == (fs.length : Nat))) H) := by
              intro l
              induction l with
              | nil =>
                rintro acc _ H1 rfl
                simp only [dcD, keysOf]
                rw [q_eq_ii, ok_some]
              | cons q l ih =>
                rintro acc hf H1 rfl
                obtain ⟨s, w, rfl⟩ := fieldB_iff (hf q List.mem_cons_self)
                show dcD _ _ l (insK acc (keyN (.tup [.str s, w]))) _ ↔ _
                exact ih _ (fun z hz => hf z (List.mem_cons_of_mem _ hz)) _ rfl
            refine (go fs [] (fun q hq => List.all_eq_true.mp e3 q hq) H rfl).mpr ?_
            have hk := keysOf_iff fs []
            have hd : decide ((fs.map fnm).Nodup) = ((((keysOf fs []).length : Nat) : Int) == (fs.length : Nat)) := by
              rw [Bool.eq_iff_iff, decide_eq_true_eq, beq_iff_eq, ← keyN_nodup]
              rw [List.length_nil, Nat.zero_add] at hk
              constructor
              · intro z
                have := hk.mpr ⟨z, fun _ _ y => nomatch y⟩
                omega
              · intro z; exact (hk.mp (by omega)).1
            rw [← hd]
            exact hQ
        · rintro x xs acc ih H ⟨rfl, a, e, rfl⟩
          have px := hx x (by rw [e]; simp)
          have fin : lcD _ _ xs ((a.map fieldB).map D.bl ++ [.bl (fieldB x)]) H := ih _ _ ⟨rfl, a ++ [x], by rw [e]; simp, by simp⟩
          rcases px.cases with rfl | ⟨c, rfl⟩ | ⟨i, rfl⟩ | ⟨s, rfl⟩ | ⟨ws, rfl⟩ | ⟨ws, rfl⟩
          case inr.inr.inr.inr.inl =>
            match ws, px, fin with
            | [], px, fin => (simp_arith [is2 (show 0 ≠ 2 by decide)]; exact fin)
            | [y], px, fin => (simp_arith [is2 (show 1 ≠ 2 by decide)]; exact fin)
            | [y, z], px, fin =>
              simp_arith [is22]
              exact ⟨y, rfl, px.of_tup.2 y List.mem_cons_self, fin⟩
            | y :: z :: u :: r, px, fin => (simp_arith [is2 (show r.length + 1 + 1 + 1 ≠ 2 by omega)]; exact fin)
          all_goals
            simp_arith []
            exact fin
  all_goals
    simp_arith [b_are_fields, h1, hg]
    exact hQ
theorem fieldsB_tup {w : D} (h : fieldsB w = true) : ∃ fs, w = .tup fs := by
  unfold fieldsB at h
  split at h
  · exact ⟨_, rfl⟩
  · cases h
/-! ### parts_of -/
def leafW (k : List Nat) : Bool := sInt == k || (sText == k || sBool == k)
theorem in_leafW {k : List Nat} {G : HD} : inD (.str k) (.tup [.str sInt, .str sText, .str sBool]) G = some (leafW k) := by
  show (if (true && true) = true then some (List.any [D.str sInt, D.str sText, D.str sBool] fun z => eqF z (.str k)) else none) = _
  simp [eqF, leafW]
theorem leafW_no {k : List Nat} (h : leafW k = true) : (k == sRec) = false ∧ (k == sList) = false ∧ (k == sOpt) = false := by
  unfold leafW at h
  simp only [Bool.or_eq_true, beq_iff_eq] at h
  rcases h with rfl | rfl | rfl <;> exact ⟨rfl, rfl, rfl⟩
def secs (w : D) : List D := match w with
  | .tup fs => fs.map fsec
  | _ => []
def isTupD (w : D) : Bool := match w with
  | .tup _ => true
  | _ => false
def optHd (w : D) : Bool := match w with
  | .tup (x :: _) => strB x sOpt
  | _ => false
def partsD (v : D) : Option (List D) := match v with
  | .tup [.str k] => if leafW k = true then some [] else none
  | .tup [.str k, w] => if (k == sRec && fieldsB w) = true then some (secs w) else if (k == sList) = true then some [w] else if (k == sOpt && (isTupD w && !optHd w)) = true then some [w] else none
  | _ => none
theorem parts_nostr {a : D} {r : List D} (h : ∀ k, a ≠ .str k) : partsD (.tup (a :: r)) = none := by
  unfold partsD
  split
  · rename_i k e; injection e with e; injection e with e1 e2; exact absurd e1 (h _)
  · rename_i k w e; injection e with e; injection e with e1 e2; exact absurd e1 (h _)
  · rfl
def optL (o : Option (List D)) : D := match o with
  | some ps => .lst ps
  | none => .non
def spPr : SpD := fun ds G Q _ => ∃ v, ds = [v] ∧ PX 1000 v ∧ Q (optL (partsD v)) G
theorem parts_px {v : D} {ps : List D} (h : PX 1000 v) (e : partsD v = some ps) : (∀ p ∈ ps, PX 1000 p) ∧ ps.length ≤ 8 := by
  unfold partsD at e
  split at e
  · split at e
    · cases e; exact ⟨fun _ h => (nomatch h), by decide⟩
    · cases e
  · rename_i k w
    have pw := h.of_tup.2 w (by simp)
    split at e
    · rename_i hf
      rw [Bool.and_eq_true] at hf
      cases e
      obtain ⟨fs, rfl⟩ := fieldsB_tup hf.2
      have hf2 := hf.2
      simp only [fieldsB, Bool.and_eq_true, decide_eq_true_eq] at hf2
      refine ⟨fun p hp => ?_, by simp only [secs, List.length_map]; exact hf2.1.1.2⟩
      simp only [secs] at hp
      obtain ⟨q, hq, rfl⟩ := List.mem_map.mp hp
      obtain ⟨s, y, rfl⟩ := fieldB_iff (List.all_eq_true.mp hf2.1.2 q hq)
      exact (pw.of_tup.2 _ hq).of_tup.2 y (by simp)
    · split at e
      · cases e; exact ⟨fun p hp => by rw [List.mem_singleton] at hp; subst hp; exact pw, by simp⟩
      · split at e
        · cases e; exact ⟨fun p hp => by rw [List.mem_singleton] at hp; subst hp; exact pw, by simp⟩
        · cases e
  · cases e
def b_po3 : Ss := (.c (.ite (.cmp .eq (.idx (.var 0) (.con (.int 0))) (.con (.str sList))) (.c (.ret (.lst true (.c (.idx (.var 0) (.con (.int 1))) .n)))
 .n) .n)
 (.c (.ite (.bo true (.c (.cmp .eq (.idx (.var 0) (.con (.int 0))) (.con (.str sOpt))) (.c (.of (.isi (.idx (.var 0) (.con (.int 1))) [.tuple])) (.c (.cmp .ne (.sl true (.idx (.var 0) (.con (.int 1))) .no (.con (.int 1))) (.tup (.c (.con (.str sOpt)) .n))) .n)))) (.c (.ret (.lst true (.c (.idx (.var 0) (.con (.int 1))) .n)))
 .n) .n)
 (.c (.ret (.con .non))
 .n)))
def b_po2 (care_fields : Nat) : Ss := (.c (.ite (.cmp .ne (.bf true .len (.c (.var 0) .n)) (.con (.int 2))) (.c (.ret (.con .non))
 .n) .n)
 (.c (.ite (.bo true (.c (.cmp .eq (.idx (.var 0) (.con (.int 0))) (.con (.str sRec))) (.c (.of (.call care_fields (.c (.idx (.var 0) (.con (.int 1))) .n))) .n))) (.c (.ret (.lc true (.idx (.var 1) (.con (.int 1))) (.n 1) (.of (.idx (.var 0) (.con (.int 1)))) .yes [("one", 1)]))
 .n) .n)
 b_po3))
def b_parts_ofG (care_fields gLEAVES : Nat) : Ss :=
 (.c (.ite (.bo false (.c (.nt (.of (.isi (.var 0) [.tuple]))) (.c (.nt (.of (.var 0))) (.c (.nt (.of (.isi (.idx (.var 0) (.con (.int 0))) [.str]))) .n)))) (.c (.ret (.con .non))
 .n) .n)
 (.c (.ite (.bo true (.c (.cmp .inn (.idx (.var 0) (.con (.int 0))) (.glb gLEAVES)) (.c (.cmp .eq (.bf true .len (.c (.var 0) .n)) (.con (.int 1))) .n))) (.c (.ret (.lst true .n))
 .n) .n)
 (b_po2 care_fields)))
theorem po3_ok {Γ : Gam} {E : EndsD} {k : List Nat} {w : D} {G : HD} (hw : PX 1000 w) (hn : (k == sRec && fieldsB w) = false) (hQ : E.rt (optL (partsD (.tup [.str k, w]))) G) : wSs Γ b_po3 E [some (.tup [.str k, w]), none] G := by
  have hQ : E.rt (optL (if (k == sList) = true then some [w] else if (k == sOpt && (isTupD w && !optHd w)) = true then some [w] else none)) G := by
    have : partsD (.tup [.str k, w]) = (if (k == sList) = true then some [w] else if (k == sOpt && (isTupD w && !optHd w)) = true then some [w] else none) := by
      simp only [partsD, hn]; rfl
    rw [this] at hQ; exact hQ
  simp_arith [b_po3]
  cases e1 : (k == sList) with
  | true => rw [e1] at hQ; exact hQ
  | false =>
    rw [e1] at hQ
    have hQ : E.rt (optL (if (k == sOpt && (isTupD w && !optHd w)) = true then some [w] else none)) G := hQ
    simp_arith []
    cases e2 : (k == sOpt) with
    | false => rw [e2] at hQ; exact hQ
    | true =>
      rw [e2] at hQ
      rcases hw.cases with rfl | ⟨c, rfl⟩ | ⟨i, rfl⟩ | ⟨s, rfl⟩ | ⟨ws, rfl⟩ | ⟨ws, rfl⟩
      case inr.inr.inr.inr.inl =>
        cases ws with
        | nil =>
          have ec : cutL ([] : List D) none (some 1) = [] := rfl
          simp_arith [ec, eq_tupN]
          exact hQ
        | cons y ys =>
          have ey := eq_tupB (s := sOpt) (G := G) (hw.of_tup.2 y List.mem_cons_self)
          simp_arith [cut_one, ey]
          have hQ : E.rt (optL (if (true && (true && !strB y sOpt)) = true then some [.tup (y :: ys)] else none)) G := hQ
          cases e3 : strB y sOpt with
          | true => rw [e3] at hQ; exact hQ
          | false => rw [e3] at hQ; exact hQ
      all_goals
        simp_arith []
        exact hQ
theorem parG_ok {Γ : Gam} {af gl : Nat} (h1 : Γ.sp af = spAr) (hg : Γ.gl gl = .tup [.str sInt, .str sText, .str sBool]) (ds : List D) (G : HD) (QD : KD) (XD : KX) (h : spPr ds G QD XD) : wSs Γ (b_parts_ofG af gl) { nx := fun _ H => QD .non H, rt := QD, ex := fun x _ H => XD x H } (startD 2 ds) G := by
  obtain ⟨v, rfl, hv, hQ⟩ := h
  rcases hv.cases with rfl | ⟨c, rfl⟩ | ⟨i, rfl⟩ | ⟨s, rfl⟩ | ⟨vs, rfl⟩ | ⟨vs, rfl⟩
  case inr.inr.inr.inr.inl =>
    cases vs with
    | nil =>
      simp_arith [b_parts_ofG, bne_self_eq_false]
      exact hQ
    | cons a r =>
      have tr : ((r.length + 1) != 0) = true := by simp
      have pa := hv.of_tup.2 a List.mem_cons_self
      rcases pa.cases with rfl | ⟨c, rfl⟩ | ⟨i, rfl⟩ | ⟨k, rfl⟩ | ⟨ws, rfl⟩ | ⟨ws, rfl⟩
      case inr.inr.inr.inl =>
        match r, hv, tr, hQ with
        | [], hv, tr, hQ =>
          have hQ : QD (optL (if leafW k = true then some [] else none)) G := hQ
          simp_arith [b_parts_ofG, hg, in_leafW, is11, bne_self_eq_false]
          have tr1 : ((1 : Nat) != 0) = true := rfl
          simp_arith [tr1]
          cases e : leafW k with
          | true => rw [e] at hQ; exact hQ
          | false =>
            rw [e] at hQ
            simp_arith [b_po2, is2 (show 1 ≠ 2 by decide)]
            exact hQ
        | [w], hv, tr, hQ =>
          have pw := hv.of_tup.2 w (by simp)
          have tr2 : ((2 : Nat) != 0) = true := rfl
          have rest : ∀ E : EndsD, E.rt = QD → wSs Γ (b_po2 af) E [some (.tup [.str k, w]), none] G := by
            intro E hE
            simp_arith [b_po2, is22, h1]
            cases e1 : (k == sRec) with
            | false => exact po3_ok pw (by rw [e1]; rfl) (by rw [hE]; exact hQ)
            | true =>
              simp_arith []
              refine ⟨w, rfl, pw, ?_⟩
              simp_arith []
              cases e2 : fieldsB w with
              | false => exact po3_ok pw (by rw [e1, e2]; rfl) (by rw [hE]; exact hQ)
              | true =>
                have hQ : QD (optL (if (k == sRec && fieldsB w) = true then some (secs w) else if (k == sList) = true then some [w] else if (k == sOpt && (isTupD w && !optHd w)) = true then some [w] else none)) G := hQ
                rw [e1, e2] at hQ
                have hQ : QD (.lst (secs w)) G := hQ
                obtain ⟨fs, rfl⟩ := fieldsB_tup e2
                have hf2 := e2
                simp only [fieldsB, Bool.and_eq_true, decide_eq_true_eq] at hf2
                simp_arith [hE]
                refine lcD_ind (fun xs acc H => H = G ∧ ∃ a : List D, fs = a ++ xs ∧ acc = a.map fsec) ?_ ?_ _ _ _ ⟨rfl, [], rfl, rfl⟩
                · rintro acc H ⟨rfl, a, e, rfl⟩
                  rw [List.append_nil] at e
                  subst e
                  exact hQ
                · rintro x xs acc ih H ⟨rfl, a, e, rfl⟩
                  obtain ⟨s, y, rfl⟩ := fieldB_iff (List.all_eq_true.mp hf2.1.2 x (by rw [e]; simp))
                  simp_arith []
                  exact ih _ _ ⟨rfl, a ++ [.tup [.str s, y]], by rw [e]; simp, by simp [fsec]⟩
          simp_arith [b_parts_ofG, hg, in_leafW, is1 (show 2 ≠ 1 by decide), tr2]
          cases e : leafW k with
          | true => exact rest _ rfl
          | false => exact rest _ rfl
        | w :: x :: r, hv, tr, hQ =>
          have hQ : QD .non G := hQ
          simp_arith [b_parts_ofG, hg, in_leafW, is1 (show r.length + 1 + 1 + 1 ≠ 1 by omega), tr]
          have tr3 : ((r.length + 1 + 1 + 1) != 0) = true := by simp
          simp_arith [tr3]
          cases e : leafW k with
          | true => (simp_arith [b_po2, is2 (show r.length + 1 + 1 + 1 ≠ 2 by omega)]; exact hQ)
          | false => (simp_arith [b_po2, is2 (show r.length + 1 + 1 + 1 ≠ 2 by omega)]; exact hQ)
      all_goals
        have hQ : QD .non G := by
          rw [parts_nostr (by intro k z; cases z)] at hQ; exact hQ
        simp_arith [b_parts_ofG, tr]
        exact hQ
  all_goals
    simp_arith [b_parts_ofG]
    exact hQ
end DL

namespace DL
open PySem PySem.Spec PyProof.Rows L2
/-! ### is_schema of any value -/
def cntD : Nat → D → Nat
  | 0, _ => 1000
  | n + 1, v => match partsD v with
    | none => 1000
    | some ps => if ps.isEmpty = true then 1 else (ps.map fun p => cntD n p).sum
def isS (v : D) : Bool := match v with
  | .tup (x :: _) => strB x sRec && decide (cntD 8 v ≤ 24)
  | _ => false
def b_isGx (gMOST_LEAVES : Nat) : Ss :=
 (.c (.ite (.cmp .gt (.var 2) (.glb gMOST_LEAVES)) (.c (.fz 1) (.c (.ret (.con (.bl false)))
 .n)) .n)
 (.c (.ex (.mt .extend (.var 1) (.c (.lc true (.tup (.c (.var 6) (.c (.bin true .add (.var 4) (.con (.int 1))) .n))) (.n 6) (.of (.var 5)) .yes [("part", 6)]) .n)))
 .n))
def b_isGb (cparts_of gMOST_NESTED gMOST_LEAVES : Nat) : Ss :=
 (.c (.set 5 (.call cparts_of (.c (.var 3) .n)))
 (.c (.ite (.bo false (.c (.cmp .isn (.var 5) (.con .non)) (.c (.cmp .gt (.var 4) (.glb gMOST_NESTED)) .n))) (.c (.fz 1) (.c (.ret (.con (.bl false)))
 .n)) .n)
 (.c (.ite (.nt (.of (.var 5))) (.c (.aug 2 .add (.con (.int 1)))
 .n) .n)
 (b_isGx gMOST_LEAVES))))
def b_is_schemaG (cparts_of gMOST_NESTED gMOST_LEAVES : Nat) : Ss :=
 (.c (.ite (.bo false (.c (.nt (.of (.isi (.var 0) [.tuple]))) (.c (.cmp .ne (.sl true (.var 0) .no (.con (.int 1))) (.tup (.c (.con (.str sRec)) .n))) .n))) (.c (.ret (.con (.bl false)))
 .n) .n)
 (.c (.set 1 (.lst false (.c (.tup (.c (.var 0) (.c (.con (.int 1)) .n))) .n)))
 (.c (.set 2 (.con (.int 0)))
 (.c (.whl (.of (.var 1)) (.c (.asg (.t [(.n 3), (.n 4)]) (.mt .pop (.var 1) .n))
 (b_isGb cparts_of gMOST_NESTED gMOST_LEAVES)))
 (.c (.fz 1) (.c (.ret (.con (.bl true)))
 .n))))))
def spSG : SpD := fun ds G Q _ => ∃ v, ds = [v] ∧ PX 1000 v ∧ Q (.bl (isS v)) G
abbrev GE := D × Nat
def GE.d (e : GE) : D := .tup [e.1, .int (e.2 : Nat)]
def gw (b : Nat) (e : GE) : Nat := b ^ (9 - e.2)
theorem sum_rep {b n : Nat} {ps : List D} {d : Nat} (h : 9 - d = n) : ((ps.map fun p => ((p, d) : GE)).map (gw b)).sum = ps.length * b ^ n := by
  induction ps with
  | nil => simp
  | cons p ps ih =>
    simp only [List.map_cons, List.sum_cons, ih, List.length_cons, Nat.add_mul, Nat.one_mul]
    simp only [gw, h]
    omega
theorem pw_pos {b : Nat} (h : 0 < b) : ∀ n : Nat, 0 < b ^ n
  | 0 => by rw [Nat.pow_zero]; exact Nat.one_pos
  | n + 1 => by rw [Nat.pow_succ]; exact Nat.mul_pos (pw_pos h n) h
theorem gsum_len {b : Nat} (hb : 0 < b) : ∀ (l : List GE), l.length ≤ (l.map (gw b)).sum
  | [] => by simp
  | e :: l => by
    have := gsum_len hb l
    have h1 : 1 ≤ gw b e := pw_pos hb _
    simp only [List.map_cons, List.sum_cons, List.length_cons]; omega
theorem sG_ok {Γ : Gam} {po gn gv : Nat} (h1 : Γ.sp po = spPr) (hn : Γ.gl gn = .int 8) (hv : Γ.gl gv = .int 24) (ds : List D) (G : HD) (QD : KD) (XD : KX) (h : spSG ds G QD XD) : wSs Γ (b_is_schemaG po gn gv) { nx := fun _ H => QD .non H, rt := QD, ex := fun x _ H => XD x H } (startD 7 ds) G := by
  obtain ⟨v0, rfl, hv0, hQ⟩ := h
  have hlim : lim = 16777216 := rfl
  rcases hv0.cases with rfl | ⟨c, rfl⟩ | ⟨i, rfl⟩ | ⟨s, rfl⟩ | ⟨vs, rfl⟩ | ⟨vs, rfl⟩
  case inr.inr.inr.inr.inl =>
    cases vs with
    | nil =>
      have ec : cutL ([] : List D) none (some 1) = [] := rfl
      simp_arith [b_is_schemaG, ec, eq_tupN]
      exact hQ
    | cons x xs =>
      have ex := fun G => eq_tupB (s := sRec) (G := G) (hv0.of_tup.2 x List.mem_cons_self)
      have hQ : QD (.bl (strB x sRec && decide (cntD 8 (.tup (x :: xs)) ≤ 24))) G := hQ
      simp_arith [b_is_schemaG, cut_one, ex]
      cases es : strB x sRec with
      | false => rw [es] at hQ; exact hQ
      | true =>
        rw [es] at hQ
        have hQ : QD (.bl (decide (cntD 8 (.tup (x :: xs)) ≤ 24))) G := hQ
        generalize hR : decide (cntD 8 (.tup (x :: xs)) ≤ 24) = R at hQ
        generalize D.tup (x :: xs) = v0 at hv0 hR
        simp_arith []
        intro p hp
        have e3 : ∀ x, delD (updD G p x) p = G := fun x => delD_updD hp
        refine ⟨fun m σ H => ∃ (st : List GE) (c : Nat) (o3 o4 o5 : Option D), m = (st.map (gw 9)).sum ∧ σ = [some v0, some (.ref p), some (.int c), o3, o4, o5, none] ∧ H = updD G p (.lst (st.map GE.d)) ∧
          (∀ e ∈ st, PX 1000 e.1 ∧ 1 ≤ e.2 ∧ e.2 ≤ 9) ∧ decide (c + (st.map fun e => cntD (9 - e.2) e.1).sum ≤ 24) = R ∧ c ≤ 24 ∧ (st.map (gw 8)).sum ≤ 16777216, ⟨_, [(v0, 1)], 0, none, none, none, rfl, rfl, rfl, fun e he => ?_, by rw [← hR]; simp, by decide, by simp [gw]⟩, ?_⟩
        · rw [List.mem_singleton] at he; subst he; exact ⟨hv0, Nat.le_refl _, by show 1 ≤ 9; decide⟩
        · rintro m σ H ⟨st, c, o3, o4, o5, rfl, rfl, rfl, k1, k2, k3, k4⟩
          simp_arith [updD_same, List.length_map]
          rcases List.eq_nil_or_concat st with rfl | ⟨st, t, rfl⟩
          · have : R = true := by rw [← k2]; simp [k3]
            rw [this] at hQ
            simp_arith [bne_self_eq_false, updD_same, e3]
            exact hQ
          · obtain ⟨v, dd⟩ := t
            have hne : ((st.concat (v, dd)).length != 0) = true := by simp
            have l1 : ((st.concat (v, dd)).map GE.d).getLast? = some (GE.d (v, dd)) := by simp
            have l2 : ((st.concat (v, dd)).map GE.d).dropLast = st.map GE.d := by simp
            obtain ⟨pv, d1, d9⟩ := k1 (v, dd) (by simp)
            simp only at pv d1 d9
            have k2 : decide (c + ((st.map fun e => cntD (9 - e.2) e.1).sum + cntD (9 - dd) v) ≤ 24) = R := by
              simpa only [List.concat_eq_append, List.map_append, List.map_cons, List.map_nil, List.sum_append, List.sum_cons, List.sum_nil, Nat.add_zero] using k2
            have k4 : (st.map (gw 8)).sum + 8 ^ (9 - dd) ≤ 16777216 := by
              simp only [List.concat_eq_append, List.map_append, List.map_cons, List.map_nil, List.sum_append, List.sum_cons, List.sum_nil, Nat.add_zero] at k4
              exact k4
            have k5 : ((st.concat (v, dd)).map (gw 9)).sum = (st.map (gw 9)).sum + 9 ^ (9 - dd) := by
              simp only [List.concat_eq_append, List.map_append, List.map_cons, List.map_nil, List.sum_append, List.sum_cons, List.sum_nil, Nat.add_zero]; rfl
            have k1' : ∀ e ∈ st, PX 1000 e.1 ∧ 1 ≤ e.2 ∧ e.2 ≤ 9 := fun e he => k1 e (by simp [he])
            have hp9 : 0 < 9 ^ (9 - dd) := pw_pos (by decide) _
            simp_arith [hne, l1, l2, updD_same, updD_updD, GE.d]
            rw [k5]
            simp_arith [b_isGb, h1, hn]
            refine ⟨v, rfl, pv, ?_⟩
            have bad : cntD (9 - dd) v = 1000 → QD (.bl false) G := fun z => by
              rw [z] at k2
              have : R = false := by rw [← k2]; exact decide_eq_false (by omega)
              rw [this] at hQ; exact hQ
            cases hps : partsD v with
            | none =>
              have hb := bad (by
                cases h9 : 9 - dd with
                | zero => rfl
                | succ n => simp only [cntD, hps])
              simp_arith [optL, updD_same, e3]
              exact hb
            | some ps =>
              obtain ⟨pp, pl⟩ := parts_px pv hps
              simp_arith [optL, updD_same, e3]
              cases h8 : decide ((8 : Int) < (dd : Nat)) with
              | true =>
                have hb := bad (by have := of_decide_eq_true h8; rw [show 9 - dd = 0 by omega]; rfl)
                simp_arith [updD_same, e3]
                exact hb
              | false =>
                have h8 := of_decide_eq_false h8
                have e9 : 9 - dd = (8 - dd) + 1 := by omega
                have hcnt : cntD (9 - dd) v = if ps.isEmpty = true then 1 else (ps.map fun p => cntD (8 - dd) p).sum := by
                  rw [e9]; simp only [cntD, hps]
                rw [hcnt] at k2
                rw [e9, Nat.pow_succ] at k4 hp9 ⊢
                have tail : ∀ (E : EndsD) (c' : Nat), E.rt = QD → (24 < c' → QD (.bl false) G) →
                    (c' ≤ 24 → ∀ st' : List GE, st' = st ++ ps.map (fun p => ((p, dd + 1) : GE)) → E.nx [some v0, some (.ref p), some (.int c'), some v, some (.int dd), some (.lst ps), none] (updD G p (.lst (st'.map GE.d)))) →
                    wSs Γ (b_isGx gv) E [some v0, some (.ref p), some (.int c'), some v, some (.int dd), some (.lst ps), none] (updD G p (.lst (st.map GE.d))) := by
                  intro E c' hE hbad hgo
                  simp_arith [b_isGx, hv, updD_same, e3]
                  cases hc : decide ((24 : Int) < (c' : Nat)) with
                  | true =>
                    simp_arith [updD_same, e3, hE]
                    exact hbad (by have := of_decide_eq_true hc; omega)
                  | false =>
                    have hc := of_decide_eq_false hc
                    simp_arith [updD_same, updD_updD]
                    refine lcD_ind (fun xs acc H => H = updD G p (.lst (st.map GE.d)) ∧ ∃ a : List D, ps = a ++ xs ∧ acc = a.map fun q => GE.d (q, dd + 1)) ?_ ?_ _ _ _ ⟨rfl, [], rfl, rfl⟩
                    · rintro acc H ⟨rfl, a, hab, rfl⟩
                      rw [List.append_nil] at hab
                      subst hab
                      simp_arith [updD_same, updD_updD, List.length_map]
                      have hsl := gsum_len (b := 8) (by decide) st
                      have := hgo (by omega) _ rfl
                      rw [List.map_append, List.map_map] at this
                      have hp8 : 0 < 8 ^ (8 - dd) := pw_pos (by decide) _
                      refine ⟨?_, this⟩
                      have : st.length + ps.length ≤ (st.map (gw 8)).sum + 8 ^ (8 - dd) * 8 := by
                        have : ps.length ≤ 8 ^ (8 - dd) * 8 := Nat.le_trans pl (Nat.le_mul_of_pos_left 8 hp8)
                        omega
                      omega
                    · rintro y ys acc ih H ⟨rfl, a, hab, rfl⟩
                      simp_arith []
                      exact ih _ _ ⟨rfl, a ++ [y], by rw [hab]; simp, by simp [GE.d]⟩
                have wnew : ∀ c' : Nat, c' ≤ 24 → decide (c' + ((st.map fun e => cntD (9 - e.2) e.1).sum + (ps.map fun p => cntD (8 - dd) p).sum) ≤ 24) = R →
                    ∃ m', m' < (st.map (gw 9)).sum + 9 ^ (8 - dd) * 9 ∧ ∃ (st' : List GE) (c : Nat) (o3 o4 o5 : Option D), m' = (st'.map (gw 9)).sum ∧ [some v0, some (.ref p), some (.int c'), some v, some (.int dd), some (.lst ps), none] = [some v0, some (.ref p), some (.int c), o3, o4, o5, none] ∧ updD G p (.lst ((st ++ ps.map (fun p => ((p, dd + 1) : GE))).map GE.d)) = updD G p (.lst (st'.map GE.d)) ∧
                      (∀ e ∈ st', PX 1000 e.1 ∧ 1 ≤ e.2 ∧ e.2 ≤ 9) ∧ decide (c + (st'.map fun e => cntD (9 - e.2) e.1).sum ≤ 24) = R ∧ c ≤ 24 ∧ (st'.map (gw 8)).sum ≤ 16777216 := by
                  intro c' hc' hRR
                  have s9 := sum_rep (b := 9) (n := 8 - dd) (ps := ps) (d := dd + 1) (by omega)
                  have s8 := sum_rep (b := 8) (n := 8 - dd) (ps := ps) (d := dd + 1) (by omega)
                  have q9 : ps.length * 9 ^ (8 - dd) ≤ 8 * 9 ^ (8 - dd) := Nat.mul_le_mul_right _ pl
                  have q8 : ps.length * 8 ^ (8 - dd) ≤ 8 * 8 ^ (8 - dd) := Nat.mul_le_mul_right _ pl
                  have z9 : 0 < 9 ^ (8 - dd) := pw_pos (by decide) _
                  refine ⟨_, ?_, st ++ ps.map (fun p => ((p, dd + 1) : GE)), c', _, _, _, rfl, rfl, rfl, fun e he => ?_, ?_, hc', ?_⟩
                  · rw [List.map_append, List.sum_append, s9]; omega
                  · rcases List.mem_append.mp he with he | he
                    · exact k1' e he
                    · obtain ⟨q, hq, rfl⟩ := List.mem_map.mp he
                      exact ⟨pp q hq, by show 1 ≤ dd + 1; omega, by show dd + 1 ≤ 9; omega⟩
                  · rw [← hRR]
                    simp only [List.map_append, List.sum_append, List.map_map, Function.comp_def]
                    rw [show 9 - (dd + 1) = 8 - dd by omega]
                  · rw [List.map_append, List.sum_append, s8]; omega
                cases hpe : ps with
                | nil =>
                  subst hpe
                  have e0 : (([] : List D).length != 0) = false := rfl
                  simp_arith [bne_self_eq_false]
                  have k2 : decide (c + ((st.map fun e => cntD (9 - e.2) e.1).sum + 1) ≤ 24) = R := k2
                  refine tail _ (c + 1) rfl (fun z => ?_) fun z st' hst' => ?_
                  · have : R = false := by rw [← k2]; exact decide_eq_false (by omega)
                    rw [this] at hQ; exact hQ
                  · subst hst'
                    exact wnew (c + 1) z (by rw [← k2]; congr 1; simp only [List.map_nil, List.sum_nil, eq_iff_iff]; omega)
                | cons q qs =>
                  have e0 : ((qs.length + 1) != 0) = true := by simp
                  rw [← hpe]
                  have e0' : (ps.length != 0) = true := by rw [hpe]; simp
                  have hie : ps.isEmpty = false := by rw [hpe]; rfl
                  rw [hie] at k2
                  have k2 : decide (c + ((st.map fun e => cntD (9 - e.2) e.1).sum + (ps.map fun p => cntD (8 - dd) p).sum) ≤ 24) = R := k2
                  simp_arith [e0']
                  refine tail _ c rfl (fun z => by omega) fun z st' hst' => ?_
                  subst hst'
                  exact wnew c z k2
  all_goals
    simp_arith [b_is_schemaG]
    exact hQ
end DL

namespace DL
open PySem PySem.Spec PyProof.Rows L2
/-! ### the law's count -/
def b_lcF (l_count l_is_name : Nat) : Ss :=
 (.c (.set 2 (.con (.int 0)))
 (.c (.set 3 (.lst false .n))
 (.c (.for_ (.n 4) (.of (.idx (.var 0) (.con (.int 1)))) (.c (.ite (.bo false (.c (.nt (.of (.isi (.var 4) [.tuple]))) (.c (.cmp .ne (.bf true .len (.c (.var 4) .n)) (.con (.int 2))) (.c (.nt (.of (.call l_is_name (.c (.idx (.var 4) (.con (.int 0))) .n)))) (.c (.cmp .inn (.idx (.var 4) (.con (.int 0))) (.var 3)) .n))))) (.c (.fz 3) (.c (.ret (.con (.int 1000)))
 .n)) .n)
 (.c (.ex (.mt .append (.var 3) (.c (.idx (.var 4) (.con (.int 0))) .n)))
 (.c (.set 2 (.bin true .add (.var 2) (.call l_count (.c (.idx (.var 4) (.con (.int 1))) (.c (.bin true .add (.var 1) (.con (.int 1))) .n)))))
 .n))))
 (.c (.fz 3) (.c (.ret (.var 2))
 .n)))))
def b_lcE (l_count l_is_name : Nat) : Ss :=
 (.c (.ite (.bo false (.c (.nt (.of (.isi (.idx (.var 0) (.con (.int 1))) [.tuple]))) (.c (.nt (.chn .le .le (.con (.int 1)) (.bf true .len (.c (.idx (.var 0) (.con (.int 1))) .n)) (.con (.int 8)))) .n))) (.c (.ret (.con (.int 1000)))
 .n) .n)
 (b_lcF l_count l_is_name))
def b_lcO (l_count : Nat) : Ss := (.c (.ite (.bo true (.c (.cmp .eq (.idx (.var 0) (.con (.int 0))) (.con (.str sOpt))) (.c (.of (.isi (.idx (.var 0) (.con (.int 1))) [.tuple])) (.c (.cmp .gt (.bf true .len (.c (.idx (.var 0) (.con (.int 1))) .n)) (.con (.int 0))) (.c (.cmp .eq (.idx (.idx (.var 0) (.con (.int 1))) (.con (.int 0))) (.con (.str sOpt))) .n))))) (.c (.ret (.con (.int 1000)))
 .n) .n)
 (.c (.ret (.call l_count (.c (.idx (.var 0) (.con (.int 1))) (.c (.bin true .add (.var 1) (.con (.int 1))) .n))))
 .n))
def b_lcD (l_count l_is_name : Nat) : Ss :=
 (.c (.ite (.cmp .ne (.idx (.var 0) (.con (.int 0))) (.con (.str sRec))) (b_lcO l_count) .n)
 (b_lcE l_count l_is_name))
def b_lcC (l_count l_is_name : Nat) : Ss :=
 (.c (.ite (.bo false (.c (.cmp .ne (.bf true .len (.c (.var 0) .n)) (.con (.int 2))) (.c (.cmp .nin (.idx (.var 0) (.con (.int 0))) (.tup (.c (.con (.str sRec)) (.c (.con (.str sOpt)) (.c (.con (.str sList)) .n))))) .n))) (.c (.ret (.con (.int 1000)))
 .n) .n)
 (b_lcD l_count l_is_name))
def b_lcB (l_count l_is_name : Nat) : Ss :=
 (.c (.ite (.cmp .inn (.idx (.var 0) (.con (.int 0))) (.tup (.c (.con (.str sInt)) (.c (.con (.str sText)) (.c (.con (.str sBool)) .n))))) (.c (.ite (.cmp .eq (.bf true .len (.c (.var 0) .n)) (.con (.int 1))) (.c (.ret (.con (.int 1)))
 .n) .n)
 (.c (.ret (.con (.int 1000)))
 .n)) .n)
 (b_lcC l_count l_is_name))
def b_law_countG (l_count l_is_name : Nat) : Ss :=
 (.c (.ite (.bo false (.c (.nt (.of (.isi (.var 0) [.tuple]))) (.c (.cmp .lt (.bf true .len (.c (.var 0) .n)) (.con (.int 1))) (.c (.nt (.of (.isi (.idx (.var 0) (.con (.int 0))) [.str]))) (.c (.cmp .gt (.var 1) (.con (.int 8))) .n))))) (.c (.ret (.con (.int 1000)))
 .n) .n)
 (b_lcB l_count l_is_name))
def spLc (N : Nat) : SpD := fun ds G Q _ => ∃ (v : D) (n : Nat), ds = [v, .int (9 - (n : Int))] ∧ PX 1000 v ∧ n ≤ 8 ∧ n < N ∧ Q (.int (cntD n v : Nat)) G
theorem cnt_bad {n : Nat} {v : D} (h : partsD v = none) : cntD n v = 1000 := by
  cases n with
  | zero => rfl
  | succ n => simp only [cntD, h]
def recW (k : List Nat) : Bool := sRec == k || (sOpt == k || sList == k)
theorem in_recW {k : List Nat} {G : HD} : inD (.str k) (.tup [.str sRec, .str sOpt, .str sList]) G = some (recW k) := by
  show (if (true && true) = true then some (List.any [D.str sRec, D.str sOpt, D.str sList] fun z => eqF z (.str k)) else none) = _
  simp [eqF, recW]
theorem lcF_ok {Γ : Gam} {lc nm N : Nat} (h1 : Γ.sp lc = spLc N) (h2 : Γ.sp nm = spNm) {E : EndsD} {k : List Nat} {fs : List D} {n : Nat} {G : HD} (hn : n ≤ 8) (hN : n < N) (hv : PX 1000 (.tup fs)) (l1 : 1 ≤ fs.length) (l8 : fs.length ≤ 8)
    (hbad : fieldsB (.tup fs) = false → E.rt (.int 1000) G) (hgood : fieldsB (.tup fs) = true → E.rt (.int (((fs.map fsec).map fun p => cntD n p).sum : Nat)) G) :
    wSs Γ (b_lcF lc nm) E [some (.tup [.str k, .tup fs]), some (.int (9 - ((n + 1 : Nat) : Int))), none, none, none] G := by
  have hlim : lim = 16777216 := rfl
  obtain ⟨_, hx⟩ := hv.of_tup
  simp_arith [b_lcF, h1, h2]
  intro p hp
  have e3 : ∀ x, delD (updD G p x) p = G := fun x => delD_updD hp
  refine wFor_ind (fun xs σ H => ∃ (a : List D) (o4 : Option D), fs = a ++ xs ∧ a.all fieldB = true ∧ (a.map fnm).Nodup ∧ H = updD G p (.lst (a.map fun z => .str (fnm z))) ∧
    σ = [some (.tup [.str k, .tup fs]), some (.int (9 - ((n + 1 : Nat) : Int))), some (.int (((a.map fsec).map fun p => cntD n p).sum : Nat)), some (.ref p), o4]) ?_ ?_ _ _ _ ⟨[], none, rfl, rfl, .nil, rfl, rfl⟩
  · rintro σ H ⟨a, o4, e, ha, hnd, rfl, rfl⟩
    rw [List.append_nil] at e
    subst e
    simp_arith [updD_same, e3]
    exact hgood (by simp only [fieldsB, ha, Bool.and_true, Bool.and_eq_true, decide_eq_true_eq]; exact ⟨⟨l1, l8⟩, hnd⟩)
  · rintro x xs ih σ H ⟨a, o4, e, ha, hnd, rfl, rfl⟩
    have px := hx x (by rw [e]; simp)
    have nof : fieldB x = false → E.rt (.int 1000) G := fun z => hbad (by
      simp only [fieldsB]
      rw [e, List.all_append, List.all_cons, z]; simp)
    have hal : a.length < 8 := by rw [e, List.length_append, List.length_cons] at l8; omega
    rcases px.cases with rfl | ⟨c, rfl⟩ | ⟨i, rfl⟩ | ⟨s, rfl⟩ | ⟨ws, rfl⟩ | ⟨ws, rfl⟩
    case inr.inr.inr.inr.inl =>
      match ws, px, nof, e, ih with
      | [], px, nof, e, ih =>
        have := nof rfl
        simp_arith [is2 (show 0 ≠ 2 by decide), updD_same, e3]
        exact this
      | [y], px, nof, e, ih =>
        have := nof rfl
        simp_arith [is2 (show 1 ≠ 2 by decide), updD_same, e3]
        exact this
      | y :: z :: u :: r, px, nof, e, ih =>
        have := nof rfl
        simp_arith [is2 (show r.length + 1 + 1 + 1 ≠ 2 by omega), updD_same, e3]
        exact this
      | [y, z], px, nof, e, ih =>
        simp_arith [is22]
        refine ⟨y, rfl, px.of_tup.2 y (by simp), ?_⟩
        simp_arith []
        cases e1 : nameB y with
        | false =>
          have := nof e1
          simp_arith [updD_same, e3]
          exact this
        | true =>
          obtain ⟨s, w, ey⟩ := fieldB_iff (d := .tup [y, z]) e1
          injection ey with ey; injection ey with ey _
          subst ey
          have hus : ∀ u ∈ a.map (fun z => D.str (fnm z)), ∃ s, u = .str s := fun u hu => by
            obtain ⟨q, _, rfl⟩ := List.mem_map.mp hu; exact ⟨_, rfl⟩
          obtain ⟨b2, hb, hb2⟩ := in_strs (s := s) (n := .ref p) (us := a.map fun z => .str (fnm z)) (G := updD G p (.lst (a.map fun z => .str (fnm z)))) (.inr ⟨p, rfl, updD_same⟩) hus
          have hmem : D.str s ∈ a.map (fun z => D.str (fnm z)) ↔ s ∈ a.map fnm := by
            constructor
            · intro q; obtain ⟨z, hz, ez⟩ := List.mem_map.mp q; injection ez with ez; exact List.mem_map.mpr ⟨z, hz, ez⟩
            · intro q; obtain ⟨z, hz, ez⟩ := List.mem_map.mp q; exact List.mem_map.mpr ⟨z, hz, by rw [ez]⟩
          simp_arith [hb]
          cases b2 with
          | true =>
            have hin := hmem.mp (hb2.mp rfl)
            have := hbad (by
              simp only [fieldsB]
              have : ¬ (fs.map fnm).Nodup := by
                rw [e, List.map_append, List.nodup_append]
                rintro ⟨_, _, q⟩
                exact q s hin s (by simp [fnm]) rfl
              rw [decide_eq_false this, Bool.and_false])
            simp_arith [updD_same, e3]
            exact this
          | false =>
            have hnin : s ∉ a.map fnm := fun q => by simpa using hb2.mpr (hmem.mpr q)
            simp_arith [updD_same, updD_updD, List.length_map]
            have ei : (9 - ((n + 1 : Nat) : Int)) + 1 = 9 - (n : Int) := by omega
            rw [ei]
            refine ⟨by omega, z, n, rfl, px.of_tup.2 z (by simp), hn, hN, ?_⟩
            simp_arith []
            refine ih _ _ ⟨a ++ [.tup [.str s, z]], some (.tup [.str s, z]), by rw [e]; simp, by rw [List.all_append, ha]; simp [fieldB, e1], ?_, by rw [List.map_append]; rfl, ?_⟩
            · rw [List.map_append, List.nodup_append]
              refine ⟨hnd, by simp, fun q hq q' hq' => ?_⟩
              simp [fnm] at hq'
              subst hq'
              rintro rfl
              exact hnin hq
            · simp only [List.map_append, List.sum_append, List.map_cons, List.map_nil, List.sum_cons, List.sum_nil, fsec, Nat.add_zero, Int.natCast_add]
    all_goals
      have := nof rfl
      simp_arith [updD_same, e3]
      exact this
theorem lcG_ok {Γ : Gam} {lc nm N : Nat} (h1 : Γ.sp lc = spLc N) (h2 : Γ.sp nm = spNm) (ds : List D) (G : HD) (QD : KD) (XD : KX) (h : spLc (N + 1) ds G QD XD) : wSs Γ (b_law_countG lc nm) { nx := fun _ H => QD .non H, rt := QD, ex := fun x _ H => XD x H } (startD 5 ds) G := by
  obtain ⟨v, n, rfl, hv, hn8, hnN, hQ⟩ := h
  have bad : partsD v = none → QD (.int 1000) G := fun z => by rw [cnt_bad z] at hQ; exact hQ
  rcases hv.cases with rfl | ⟨c, rfl⟩ | ⟨i, rfl⟩ | ⟨s, rfl⟩ | ⟨vs, rfl⟩ | ⟨vs, rfl⟩
  case inr.inr.inr.inr.inl =>
    cases vs with
    | nil =>
      have := bad rfl
      have z : (((0 : Nat) : Int) < 1) = True := by simp
      simp_arith [b_law_countG, z]
      exact this
    | cons a r =>
      have z : ((((r.length + 1 : Nat)) : Int) < 1) = False := by simp only [eq_iff_iff, iff_false]; omega
      have pa := hv.of_tup.2 a List.mem_cons_self
      rcases pa.cases with rfl | ⟨c, rfl⟩ | ⟨i, rfl⟩ | ⟨k, rfl⟩ | ⟨ws, rfl⟩ | ⟨ws, rfl⟩
      case inr.inr.inr.inl =>
        simp_arith [b_law_countG, z]
        cases n with
        | zero =>
          have e : ((8 : Int) < 9 - ((0 : Nat) : Int)) = True := by simp
          simp_arith [e]
          exact hQ
        | succ n =>
          have e : ((8 : Int) < 9 - ((n + 1 : Nat) : Int)) = False := by simp only [eq_iff_iff, iff_false]; omega
          simp_arith [e]
          simp_arith [b_lcB, in_leafW]
          cases el : leafW k with
          | true =>
            obtain ⟨w1, w2, w3⟩ := leafW_no el
            cases r with
            | nil =>
              have : cntD (n + 1) (.tup [.str k]) = 1 := by
                have e2 : partsD (.tup [.str k]) = some [] := by simp only [partsD, el]; rfl
                simp only [cntD, e2]; rfl
              rw [this] at hQ
              simp_arith [is11]
              exact hQ
            | cons w r =>
              have hp : partsD (.tup (.str k :: w :: r)) = none := by
                cases r with
                | nil => simp only [partsD, w1, w2, w3, Bool.false_and]; rfl
                | cons _ _ => rfl
              have := bad hp
              simp_arith [is1 (show r.length + 1 + 1 ≠ 1 by omega)]
              exact this
          | false =>
            simp_arith []
            simp_arith [b_lcC, in_recW]
            match r, hv, z, hQ, bad with
            | [], hv, z, hQ, bad =>
              have := bad (by simp only [partsD, el]; rfl)
              simp_arith [is2 (show 1 ≠ 2 by decide)]
              exact this
            | w :: x :: r, hv, z, hQ, bad =>
              have := bad rfl
              simp_arith [is2 (show r.length + 1 + 1 + 1 ≠ 2 by omega)]
              exact this
            | [w], hv, z, hQ, bad =>
              have pw := hv.of_tup.2 w (by simp)
              simp_arith [is22]
              have hpd : partsD (.tup [.str k, w]) = if (k == sRec && fieldsB w) = true then some (secs w) else if (k == sList) = true then some [w] else if (k == sOpt && (isTupD w && !optHd w)) = true then some [w] else none := rfl
              cases er : recW k with
              | false =>
                have hk : (k == sRec) = false ∧ (k == sList) = false ∧ (k == sOpt) = false := by
                  unfold recW at er
                  simp only [Bool.or_eq_false_iff, beq_eq_false_iff_ne] at er ⊢
                  exact ⟨fun q => er.1 q.symm, fun q => er.2.2 q.symm, fun q => er.2.1 q.symm⟩
                have := bad (by rw [hpd, hk.1, hk.2.1, hk.2.2]; rfl)
                exact this
              | true =>
                simp_arith []
                simp_arith [b_lcD]
                have ei : (9 - ((n + 1 : Nat) : Int)) + 1 = 9 - (n : Int) := by omega
                cases ek : (k == sRec) with
                | false =>
                  have one : ∀ ps, partsD (.tup [.str k, w]) = some [ps] → QD (.int (cntD n ps : Nat)) G := fun ps e => by
                    have : cntD (n + 1) (.tup [.str k, w]) = cntD n ps := by simp only [cntD, e]; simp
                    rw [this] at hQ; exact hQ
                  rw [ek] at hpd
                  have hpd : partsD (.tup [.str k, w]) = if (k == sList) = true then some [w] else if (k == sOpt && (isTupD w && !optHd w)) = true then some [w] else none := hpd
                  cases eo : (k == sOpt) with
                  | false =>
                    have elist : (k == sList) = true := by
                      unfold recW at er
                      simp only [Bool.or_eq_true, beq_iff_eq] at er
                      rw [beq_eq_false_iff_ne] at ek eo
                      rw [beq_iff_eq]
                      rcases er with q | q | q
                      · exact absurd q.symm ek
                      · exact absurd q.symm eo
                      · exact q.symm
                    have := one w (by rw [hpd, elist]; rfl)
                    simp_arith [b_lcO, h1, eo, ei]
                    exact ⟨w, n, rfl, pw, by omega, by omega, this⟩
                  | true =>
                    have elist : (k == sList) = false := by
                      rw [beq_iff_eq] at eo; subst eo; rfl
                    rw [elist, eo] at hpd
                    have hpd : partsD (.tup [.str k, w]) = if (isTupD w && !optHd w) = true then some [w] else none := hpd
                    rcases pw.cases with rfl | ⟨c, rfl⟩ | ⟨i, rfl⟩ | ⟨s, rfl⟩ | ⟨us, rfl⟩ | ⟨us, rfl⟩
                    case inr.inr.inr.inr.inl =>
                      cases us with
                      | nil =>
                        have := one _ hpd
                        have z0 : ((0 : Int) < ((0 : Nat) : Int)) = False := by simp
                        simp_arith [b_lcO, h1, eo, z0, ei]
                        exact ⟨_, n, rfl, pw, by omega, by omega, this⟩
                      | cons y ys =>
                        have z0 : ((0 : Int) < ((ys.length + 1 : Nat) : Int)) = True := by simp only [eq_iff_iff, iff_true]; omega
                        have ey := eq_strB (s := sOpt) (G := G) (pw.of_tup.2 y List.mem_cons_self)
                        have hpd : partsD (.tup [.str k, .tup (y :: ys)]) = if (true && !strB y sOpt) = true then some [.tup (y :: ys)] else none := hpd
                        simp_arith [b_lcO, h1, eo, z0, ey, ei]
                        cases e5 : strB y sOpt with
                        | true =>
                          rw [e5] at hpd
                          exact bad hpd
                        | false =>
                          rw [e5] at hpd
                          have := one _ hpd
                          exact ⟨_, n, rfl, pw, by omega, by omega, this⟩
                    all_goals
                      have := bad hpd
                      simp_arith [b_lcO, h1, eo, ei]
                      exact ⟨_, n, rfl, pw, by omega, by omega, by rw [cnt_bad rfl]; exact this⟩
                | true =>
                  have hk : k = sRec := by rw [beq_iff_eq] at ek; exact ek
                  subst hk
                  have hpd : partsD (.tup [.str sRec, w]) = if fieldsB w = true then some (secs w) else none := hpd
                  simp_arith []
                  simp_arith [b_lcE]
                  rcases pw.cases with rfl | ⟨c, rfl⟩ | ⟨i, rfl⟩ | ⟨s, rfl⟩ | ⟨fs, rfl⟩ | ⟨us, rfl⟩
                  case inr.inr.inr.inr.inl =>
                    have hb : fieldsB (.tup fs) = false → QD (.int 1000) G := fun z => bad (by rw [hpd, z]; rfl)
                    have hg : 1 ≤ fs.length → fieldsB (.tup fs) = true → QD (.int (((fs.map fsec).map fun p => cntD n p).sum : Nat)) G := fun z1 z => by
                      rw [z] at hpd
                      have hpd : partsD (.tup [.str sRec, .tup fs]) = some (fs.map fsec) := hpd
                      have : cntD (n + 1) (.tup [.str sRec, .tup fs]) = ((fs.map fsec).map fun p => cntD n p).sum := by
                        have hne : (fs.map fsec).isEmpty = false := by cases fs <;> first | (simp at z1; done) | rfl
                        simp only [cntD, hpd, hne]
                        rfl
                      rw [this] at hQ; exact hQ
                    simp_arith []
                    cases e1 : decide ((1 : Int) ≤ (fs.length : Nat)) with
                    | false => exact hb (by simp only [fieldsB]; rw [show decide (1 ≤ fs.length) = false from decide_eq_false (by have := of_decide_eq_false e1; omega)]; rfl)
                    | true =>
                      have e1 := of_decide_eq_true e1
                      simp_arith []
                      cases e2 : decide (((fs.length : Nat) : Int) ≤ 8) with
                      | false => exact hb (by simp only [fieldsB]; rw [show decide (fs.length ≤ 8) = false from decide_eq_false (by have := of_decide_eq_false e2; omega)]; simp)
                      | true =>
                        have e2 := of_decide_eq_true e2
                        simp_arith []
                        exact lcF_ok h1 h2 (by omega) (by omega) pw (by omega) (by omega) hb (hg (by omega))
                  all_goals
                    exact bad hpd
      all_goals
        have := bad (parts_nostr (by intro k z; cases z))
        simp_arith [b_law_countG, z]
        exact this
  all_goals
    have := bad rfl
    simp_arith [b_law_countG]
    exact this
def b_law_is_schema (l_count : Nat) : Ss :=
 (.c (.ite (.bo false (.c (.nt (.of (.isi (.var 0) [.tuple]))) (.c (.cmp .ne (.bf true .len (.c (.var 0) .n)) (.con (.int 2))) (.c (.cmp .ne (.idx (.var 0) (.con (.int 0))) (.con (.str sRec))) .n)))) (.c (.ret (.con (.bl false)))
 .n) .n)
 (.c (.ret (.cmp .le (.call l_count (.c (.var 0) (.c (.con (.int 1)) .n))) (.con (.int 24))))
 .n))
theorem lsG_ok {Γ : Gam} {lc : Nat} (h1 : Γ.sp lc = spLc 9) (ds : List D) (G : HD) (QD : KD) (XD : KX) (h : spSG ds G QD XD) : wSs Γ (b_law_is_schema lc) { nx := fun _ H => QD .non H, rt := QD, ex := fun x _ H => XD x H } (startD 1 ds) G := by
  obtain ⟨v, rfl, hv, hQ⟩ := h
  rcases hv.cases with rfl | ⟨c, rfl⟩ | ⟨i, rfl⟩ | ⟨s, rfl⟩ | ⟨vs, rfl⟩ | ⟨vs, rfl⟩
  case inr.inr.inr.inr.inl =>
    match vs, hv, hQ with
    | [], hv, hQ =>
      simp_arith [b_law_is_schema, is2 (show 0 ≠ 2 by decide)]
      exact hQ
    | [x], hv, hQ =>
      have hz : isS (.tup [x]) = false := by
        show (strB x sRec && decide (cntD 8 (.tup [x]) ≤ 24)) = false
        cases e : strB x sRec with
        | false => rfl
        | true =>
          have : partsD (.tup [x]) = none := by
            cases x <;> first | cases e | skip
            rename_i k
            have hk : k = sRec := by simpa [strB] using e
            subst hk; rfl
          rw [cnt_bad this]; rfl
      rw [hz] at hQ
      simp_arith [b_law_is_schema, is2 (show 1 ≠ 2 by decide)]
      exact hQ
    | x :: y :: z :: r, hv, hQ =>
      have hz : isS (.tup (x :: y :: z :: r)) = false := by
        show (strB x sRec && decide (cntD 8 (.tup (x :: y :: z :: r)) ≤ 24)) = false
        have : partsD (.tup (x :: y :: z :: r)) = none := by cases x <;> rfl
        rw [cnt_bad this, Bool.and_comm]; rfl
      rw [hz] at hQ
      simp_arith [b_law_is_schema, is2 (show r.length + 1 + 1 + 1 ≠ 2 by omega)]
      exact hQ
    | [x, y], hv, hQ =>
      have ex := eq_strB (s := sRec) (G := G) (hv.of_tup.2 x (by simp))
      have hQ : QD (.bl (strB x sRec && decide (cntD 8 (.tup [x, y]) ≤ 24))) G := hQ
      simp_arith [b_law_is_schema, h1, is22, ex]
      cases e : strB x sRec with
      | false => rw [e] at hQ; exact hQ
      | true =>
        rw [e] at hQ
        refine ⟨.tup [x, y], 8, rfl, hv, by decide, by decide, ?_⟩
        simp_arith []
        have : decide (((cntD 8 (.tup [x, y]) : Nat) : Int) ≤ 24) = decide (cntD 8 (.tup [x, y]) ≤ 24) := by
          congr 1; rw [eq_iff_iff]; omega
        rw [this]
        exact hQ
  all_goals
    simp_arith [b_law_is_schema]
    exact hQ
end DL

namespace DL
open PySem PySem.Spec PyProof.Rows L2
/-! ## 67. read_schema of any text -/
theorem count_mk (s : List Nat) (c : Nat) : Txt.count (mkStr s) (mkStr [c]) = PyProof.Rows.cnt c s := by
  have := count_cnt (mkStr s) c
  rw [show (mkStr s).cps.toList = s by simp [mkStr]] at this
  exact this
theorem cnt_nn (c : Nat) : ∀ s : List Nat, 0 ≤ PyProof.Rows.cnt c s
  | [] => Int.le_refl _
  | x :: s => by rw [PyProof.Rows.cnt_cons]; have := cnt_nn c s; split <;> omega
/-- few brackets lie not deep -/
theorem okd_few : ∀ (s : List Nat) (d : Int), d + PyProof.Rows.cnt 91 s + PyProof.Rows.cnt 123 s ≤ 8 → okd d s
  | [], _, _ => trivial
  | c :: s, d, h => by
    rw [PyProof.Rows.cnt_cons, PyProof.Rows.cnt_cons] at h
    have n1 := cnt_nn 91 s
    have n2 := cnt_nn 123 s
    have e : dlt c ≤ (if c = 91 then 1 else 0) + (if c = 123 then 1 else 0) := by
      unfold dlt
      simp
      split <;> split <;> split <;> omega
    exact ⟨by split at h <;> split at h <;> simp_all <;> omega, okd_few s _ (by split at h <;> split at h <;> simp_all <;> omega)⟩
def okdB : Int → List Nat → Bool
  | _, [] => true
  | d, c :: s => decide (d + dlt c ≤ 8) && okdB (d + dlt c) s
theorem okdB_iff : ∀ (s : List Nat) (d : Int), okdB d s = true ↔ okd d s
  | [], _ => ⟨fun _ => trivial, fun _ => rfl⟩
  | c :: s, d => by
    simp only [okdB, okd, Bool.and_eq_true, decide_eq_true_eq, okdB_iff s]
/-- what read_schema makes of a text -/
def rdA (s : List Nat) : Option Kd := match okdB 0 s with
  | false => none
  | true => match pKindOf (pBare 9) s with
    | .ok k [] => if isS (enc k) = true then some k else none
    | _ => none
def spReadA (xb : Nat) : SpD := fun ds G Q X => ∃ s, ds = [.str s] ∧ s.length ≤ 1000000 ∧ (okdB 0 s = true → ∀ k, pKindOf (pBare 9) s = .ok k [] → PX 1000 (enc k)) ∧ match rdA s with
  | some k => ∀ p j, G p = none → Q (enc k) (updD G p (.ins 0 (rdF s j)))
  | none => ∀ H', Sub G H' → X xb H'
theorem sub_new {G H' : HD} {p : Addr} {c : HC} (hp : G p = none) (h : Sub (delD (updD G p c) p) H') : Sub G H' := by
  rw [delD_updD hp] at h; exact h
theorem read_end_any {Γ : Gam} {ci ck cn xb : Nat} (gi : Γ.sp cn = spRdInit) (gk : Γ.sp ck = spKindR xb 9) (gs : Γ.sp ci = spSG) {s : List Nat} (hz : s.length ≤ 1000000) (hpx : ∀ k, pKindOf (pBare 9) s = .ok k [] → PX 1000 (enc k)) (ho : okdB 0 s = true) {E : EndsD} {x1 x2 : Option D} {G : HD}
    (hQ : match rdA s with
      | some k => ∀ p j, G p = none → E.rt (enc k) (updD G p (.ins 0 (rdF s j)))
      | none => ∀ H', Sub G H' → ∀ σ, E.ex xb σ H') : wSs Γ (b_read_end ci ck cn xb) E [some (.str s), x1, x2, none, none] G := by
  have hlim : lim = 16777216 := rfl
  simp_arith [b_read_end, gi, gk, gs]
  intro p hp
  refine ⟨p, s, rfl, updD_same, rfl, ?_⟩
  simp_arith [updD_updD, q_ins_r, updD_same, rd_no.2.2.2.2.1]
  refine And.intro (by decide) ⟨p, s, 0, rfl, ⟨updD_same, Nat.zero_le _, by omega⟩, ?_⟩
  rw [List.drop_zero]
  have no := (pk_no (pb_no 9 0 (by omega) (by omega))) s ((okdB_iff s 0).mp ho)
  unfold rdA at hQ
  rw [ho] at hQ
  cases e : pKindOf (pBare 9) s with
  | out => exact absurd e no.1
  | bad =>
    rw [e] at hQ
    exact fun H' hs => hQ H' (sub_new hp hs) _
  | ok k r =>
    rw [e] at hQ
    intro j hj hr
    simp_arith [updD_updD, q_att_r, updD_same, rd_at]
    cases r with
    | cons c r =>
      have hne : ((j : Int) == (s.length : Int)) = false := by
        have := congrArg List.length hr
        rw [List.length_drop] at this
        simp at this
        rw [beq_eq_false_iff_ne]
        omega
      simp_arith [hne]
      exact hQ _ (Sub.upd hp) _
    | nil =>
      have hj2 : j = s.length := by have := congrArg List.length hr; rw [List.length_drop] at this; simp at this; omega
      subst hj2
      simp_arith [beq_self_eq_true]
      refine ⟨_, rfl, hpx k e, ?_⟩
      have hQ : match (if isS (enc k) = true then some k else none) with
        | some k => ∀ p j, G p = none → E.rt (enc k) (updD G p (.ins 0 (rdF s j)))
        | none => ∀ H', Sub G H' → ∀ σ, E.ex xb σ H' := hQ
      cases hi : isS (enc k) with
      | true =>
        rw [hi, if_pos rfl] at hQ
        exact hQ p s.length hp
      | false =>
        rw [hi, if_neg (by decide)] at hQ
        exact hQ _ (Sub.upd hp) _
theorem read_any_ok {Γ : Gam} {ci gm ck cn xb : Nat} (hg : Γ.gl gm = .int 8) (gi : Γ.sp cn = spRdInit) (gk : Γ.sp ck = spKindR xb 9) (gs : Γ.sp ci = spSG) (ds : List D) (G : HD) (QD : KD) (XD : KX) (h : spReadA xb ds G QD XD) : wSs Γ (b_read_schema ci gm ck cn xb) { nx := fun _ H => QD .non H, rt := QD, ex := fun x _ H => XD x H } (startD 5 ds) G := by
  obtain ⟨s, rfl, hz, hpx, hQ⟩ := h
  have hlim : lim = 16777216 := rfl
  have fin : okdB 0 s = true → ∀ x1 x2, wSs Γ (b_read_end ci ck cn xb) { nx := fun _ H => QD .non H, rt := QD, ex := fun x _ H => XD x H } [some (.str s), x1, x2, none, none] G := fun ho x1 x2 => read_end_any gi gk gs hz (hpx ho) ho (by
    cases e : rdA s with
    | some k => rw [e] at hQ; exact hQ
    | none => rw [e] at hQ; exact fun H' hs _ => hQ H' hs)
  have bad : okdB 0 s = false → XD xb G := fun ho => by
    unfold rdA at hQ
    rw [ho] at hQ
    exact hQ G Sub.refl
  have e : b_read_schema ci gm ck cn xb = .c (.ite (.cmp .gt (.bin true .add (.mt .scount (.var 0) (.c (.con (.str [91])) .n)) (.mt .scount (.var 0) (.c (.con (.str [123])) .n))) (.glb gm)) (.c (.set 1 (.con (.int 0)))
 (.c (.for_ (.n 2) (.of (.var 0)) (.c (.aug 1 .add (.bin true .sub (.bf true .int (.c (.cmp .inn (.var 2) (.con (.str [91, 123]))) .n)) (.bf true .int (.c (.cmp .inn (.var 2) (.con (.str [93, 125]))) .n))))
 (.c (.ite (.cmp .gt (.var 1) (.glb gm)) (.c (.rai xb)
 .n) .n)
 .n)))
 .n)) .n) (b_read_end ci ck cn xb) := rfl
  rw [e]
  simp_arith [hg, count_mk]
  split
  · refine wFor_ind (fun xs σ H => H = G ∧ ∃ (d : Int) (r : List Nat) (x2 : Option D), xs = r.map (fun c => .str [c]) ∧ okdB 0 s = okdB d r ∧ σ = [some (.str s), some (.int d), x2, none, none]) ?_ ?_ _ _ _ ⟨rfl, 0, s, none, rfl, rfl, rfl⟩
    · rintro σ H ⟨rfl, d, r, x2, hx, ho, rfl⟩
      have : r = [] := by cases r <;> first | rfl | cases hx
      subst this
      exact fin ho _ _
    · rintro x xs ih σ H ⟨rfl, d, r, x2, hx, ho, rfl⟩
      cases r with
      | nil => cases hx
      | cons c r =>
        rw [List.map_cons] at hx
        injection hx with h1 h2
        subst h1; subst h2
        obtain ⟨q1, hq1⟩ : ∃ q, decide (c ∈ [91, 123]) = q := ⟨_, rfl⟩
        obtain ⟨q2, hq2⟩ : ∃ q, decide (c ∈ [93, 125]) = q := ⟨_, rfl⟩
        have i1 : ∀ H, inD (.str [c]) (.str [91, 123]) H = some q1 := fun _ => by rw [← hq1]; rfl
        have i2 : ∀ H, inD (.str [c]) (.str [93, 125]) H = some q2 := fun _ => by rw [← hq2]; rfl
        have hdl : dlt c = (if q1 = true then 1 else 0) - (if q2 = true then 1 else 0) := by unfold dlt; rw [hq1, hq2]
        rw [okdB] at ho
        by_cases c8 : d + dlt c ≤ 8
        · have e1 : decide (8 < d + dlt c) = false := decide_eq_false (by omega)
          rw [decide_eq_true c8, Bool.true_and] at ho
          simp_arith [i1, i2, ← hdl, e1]
          exact ih _ _ ⟨rfl, d + dlt c, r, _, rfl, ho, rfl⟩
        · have e1 : decide (8 < d + dlt c) = true := decide_eq_true (by omega)
          rw [decide_eq_false c8, Bool.false_and] at ho
          simp_arith [i1, i2, ← hdl, e1]
          exact bad ho
  · rename_i hc
    refine fin ?_ _ _
    rw [okdB_iff]
    refine okd_few s 0 ?_
    have := of_decide_eq_false hc
    omega
end DL

namespace DL
open PySem PySem.Spec PyProof.Rows L2
/-! ## 68. The law's reading, from the outside inwards -/
/-- the fields of a record's inside -/
def fz (acc : List (List Nat)) (last : List Nat) (d : Int) (s : List Nat) : List (List Nat) := match s with
  | [] => acc ++ [last]
  | c :: r => if d + dlt c = 0 ∧ (c :: r).take 2 = [44, 32] then fz (acc ++ [last]) [] (d + dlt c) (r.drop 1) else fz acc (last ++ [c]) (d + dlt c) r
termination_by s.length
decreasing_by all_goals (simp_wf; try omega)
theorem joinL_ext {sep y : List Nat} : ∀ {l : List (List Nat)} {x : List Nat}, joinL sep (l ++ [x ++ y]) = joinL sep (l ++ [x]) ++ y
  | [], x => rfl
  | [z], x => by simp [joinL]
  | z :: w :: l, x => by
    have := joinL_ext (sep := sep) (y := y) (l := w :: l) (x := x)
    simp only [List.cons_append, joinL] at this ⊢
    rw [this]; simp
theorem joinL_new {sep : List Nat} : ∀ {l : List (List Nat)} {x : List Nat}, joinL sep (l ++ [x] ++ [[]]) = joinL sep (l ++ [x]) ++ sep
  | [], x => by simp [joinL]
  | [z], x => by simp [joinL]
  | z :: w :: l, x => by
    have := joinL_new (sep := sep) (l := w :: l) (x := x)
    simp only [List.cons_append, joinL] at this ⊢
    rw [this]; simp only [List.append_assoc]
theorem fz_join : ∀ (n : Nat) (s : List Nat) (acc : List (List Nat)) (last : List Nat) (d : Int), s.length ≤ n → joinL [44, 32] (fz acc last d s) = joinL [44, 32] (acc ++ [last]) ++ s
  | _, [], acc, last, d, _ => by rw [fz]; simp
  | 0, c :: r, _, _, _, h => absurd h (by simp)
  | n + 1, c :: r, acc, last, d, h => by
    rw [fz]
    split
    · rename_i q
      have e := take2 q.2
      have e2 : (c :: r).drop 2 = r.drop 1 := by simp
      rw [fz_join n _ _ _ _ (by simp at h ⊢; omega), joinL_new, List.append_assoc]
      congr 1
      rw [e, e2]
      rfl
    · rw [fz_join n _ _ _ _ (by simpa using h), joinL_ext, List.append_assoc]
      rfl
/-- a piece that is not cut: where the depth is 0, no comma and blank begins in it -/
def Sol : Int → List Nat → List Nat → Prop
  | _, [], _ => True
  | d, c :: s, r => ¬ (d + dlt c = 0 ∧ (c :: (s ++ r)).take 2 = [44, 32]) ∧ Sol (d + dlt c) s r
theorem fz_sol : ∀ (w r : List Nat) (acc : List (List Nat)) (last : List Nat) (d : Int), Sol d w r → fz acc last d (w ++ r) = fz acc (last ++ w) (d + smd w) r
  | [], r, acc, last, d, _ => by simp [smd]
  | c :: w, r, acc, last, d, h => by
    rw [List.cons_append, fz, if_neg h.1, fz_sol w r acc (last ++ [c]) _ h.2]
    simp [smd, Int.add_assoc]
theorem sol_app : ∀ (a b r : List Nat) (d : Int), Sol d a (b ++ r) → Sol (d + smd a) b r → Sol d (a ++ b) r
  | [], b, r, d, _, h => by simpa [smd] using h
  | c :: a, b, r, d, h, h2 => by
    refine ⟨by show ¬ (_ ∧ (c :: ((a ++ b) ++ r)).take 2 = _); rw [List.append_assoc]; exact h.1, sol_app a b r _ h.2 (by simp only [smd] at h2; rw [Int.add_assoc]; exact h2)⟩
/-- no comma in it -/
theorem sol_nc : ∀ (w r : List Nat) (d : Int), 44 ∉ w → Sol d w r
  | [], _, _, _ => trivial
  | c :: w, r, d, h => ⟨fun z => by have := z.2; simp at this; exact h (by rw [this.1]; exact List.mem_cons_self), sol_nc w r _ fun z => h (List.mem_cons_of_mem _ z)⟩
/-- inside of brackets nothing is cut -/
def Deep : Int → List Nat → Prop
  | _, [] => True
  | d, c :: s => 1 ≤ d + dlt c ∧ Deep (d + dlt c) s
theorem sol_deep : ∀ (w r : List Nat) (d : Int), Deep d w → Sol d w r
  | [], _, _, _ => trivial
  | c :: w, r, d, h => ⟨fun z => by have := h.1; omega, sol_deep w r _ h.2⟩
theorem deep_app : ∀ (a b : List Nat) (d : Int), Deep d a → Deep (d + smd a) b → Deep d (a ++ b)
  | [], b, d, _, h => by simpa [smd] using h
  | c :: a, b, d, h, h2 => ⟨h.1, deep_app a b _ h.2 (by simp only [smd] at h2; rw [Int.add_assoc]; exact h2)⟩
theorem deep_pl : ∀ {s : List Nat} {d : Int}, Plc s → 1 ≤ d → Deep d s
  | [], _, _, _ => trivial
  | c :: s, d, h, hd => by
    have e := dlt_pl (h c List.mem_cons_self)
    refine ⟨by rw [e]; omega, ?_⟩
    rw [e]
    exact deep_pl (fun x hx => h x (List.mem_cons_of_mem _ hx)) (by omega)
mutual
/-- within brackets a right text stays within -/
theorem shw_deep : ∀ (k : Kd), Wf k → ∀ d : Int, 1 ≤ d → Deep d (shw k)
  | .leaf w, h, d, hd => deep_pl (fun c hc => by
      simp only [Wf, List.mem_cons, List.not_mem_nil, or_false] at h
      rcases h with rfl | rfl | rfl <;> (revert c; decide)) hd
  | .one o a, h, d, hd => by
    simp only [Wf] at h
    have h0 := (shw_okd a h.2).1
    cases o with
    | true =>
      rw [shw_t]
      exact deep_app _ _ _ (shw_deep a h.2 d hd) (by rw [h0]; exact deep_pl (by unfold Plc; decide) (by omega))
    | false =>
      have e : shw (.one false a) = [91] ++ (shw a ++ [93]) := by simp [shw]
      have e1 : smd [91] = 1 := by decide
      rw [e]
      refine deep_app _ _ _ ⟨?_, trivial⟩ (deep_app _ _ _ (shw_deep a h.2 _ (by rw [e1]; omega)) ⟨?_, trivial⟩)
      · have : dlt 91 = 1 := by decide
        rw [this]; omega
      · have : dlt 93 = -1 := by decide
        rw [this, e1, h0]; omega
  | .recd fs, h, d, hd => by
    simp only [Wf] at h
    have h0 := (shws_okd fs h.2).1
    have e : shw (.recd fs) = [123] ++ (joinL [44, 32] (shws fs) ++ [125]) := by simp [shw]
    have e1 : smd [123] = 1 := by decide
    rw [e]
    refine deep_app _ _ _ ⟨?_, trivial⟩ (deep_app _ _ _ (shws_deep fs h.2 _ (by rw [e1]; omega)) ⟨?_, trivial⟩)
    · have : dlt 123 = 1 := by decide
      rw [this]; omega
    · have : dlt 125 = -1 := by decide
      rw [this, e1, h0]; omega
theorem shws_deep : ∀ (fs : Fs), Wfs fs → ∀ d : Int, 1 ≤ d → Deep d (joinL [44, 32] (shws fs))
  | .nil, _, _, _ => trivial
  | .cons n k fs, h, d, hd => by
    simp only [Wfs] at h
    have h0 := (shw_okd k h.2.1).1
    have hn := low_pl h.1
    have hc : Plc [58, 32] := by unfold Plc; decide
    have hs : Plc [44, 32] := by unfold Plc; decide
    have s1 : smd (n ++ [58, 32] ++ shw k) = 0 := by rw [smd_app, smd_app, h0, pl_sm hn, pl_sm hc]; rfl
    have o1 : Deep d (n ++ [58, 32] ++ shw k) := deep_app _ _ _ (deep_app _ _ _ (deep_pl hn hd) (by rw [pl_sm hn]; exact deep_pl hc (by omega))) (by rw [smd_app, pl_sm hn, pl_sm hc]; exact shw_deep k h.2.1 _ (by omega))
    simp only [shws]
    cases hf : shws fs with
    | nil => exact o1
    | cons y ys =>
      rw [joinL]
      refine deep_app _ _ _ (deep_app _ _ _ o1 (by rw [s1]; exact deep_pl hs (by omega))) ?_
      rw [smd_app, s1, pl_sm hs, ← hf]
      exact shws_deep fs h.2.2 _ (by omega)
end
/-- at the outside a right text is not cut -/
theorem shw_sol : ∀ (k : Kd), Wf k → ∀ r, Sol 0 (shw k) r
  | .leaf w, h, r => sol_nc _ _ _ (by
      simp only [Wf, List.mem_cons, List.not_mem_nil, or_false] at h
      rcases h with rfl | rfl | rfl <;> decide)
  | .one o a, h, r => by
    simp only [Wf] at h
    have h0 := (shw_okd a h.2).1
    cases o with
    | true =>
      rw [shw_t]
      exact sol_app _ _ _ _ (shw_sol a h.2 _) (sol_nc _ _ _ (by decide))
    | false =>
      have e : shw (.one false a) = [91] ++ (shw a ++ [93]) := by simp [shw]
      rw [e]
      exact sol_app _ _ _ _ (sol_nc _ _ _ (by decide)) (sol_app _ _ _ _ (sol_deep _ _ _ (shw_deep a h.2 _ (by decide))) (sol_nc _ _ _ (by decide)))
  | .recd fs, h, r => by
    simp only [Wf] at h
    have e : shw (.recd fs) = [123] ++ (joinL [44, 32] (shws fs) ++ [125]) := by simp [shw]
    rw [e]
    exact sol_app _ _ _ _ (sol_nc _ _ _ (by decide)) (sol_app _ _ _ _ (sol_deep _ _ _ (shws_deep fs h.2 _ (by decide))) (sol_nc _ _ _ (by decide)))
theorem shwF_sm {q : List Nat × Kd} (h : Low q.1 ∧ Wf q.2) : smd (shwF q) = 0 := by
  have hc : Plc [58, 32] := by unfold Plc; decide
  unfold shwF
  rw [smd_app, smd_app, (shw_okd _ h.2).1, pl_sm (low_pl h.1), pl_sm hc]; rfl
theorem shwF_sol {q : List Nat × Kd} (h : Low q.1 ∧ Wf q.2) (r : List Nat) : Sol 0 (shwF q) r := by
  have hc : Plc [58, 32] := by unfold Plc; decide
  have h44 : 44 ∉ q.1 := fun z => absurd (h.1.2 44 z) (by decide)
  unfold shwF
  refine sol_app _ _ _ _ (sol_app _ _ _ _ (sol_nc _ _ _ h44) (sol_nc _ _ _ (by decide))) ?_
  rw [smd_app, pl_sm (low_pl h.1), pl_sm hc]
  exact shw_sol _ h.2 r
/-- a right record's inside falls into its fields' texts -/
theorem fz_flds : ∀ (l : List (List Nat × Kd)) (q : List Nat × Kd) (acc : List (List Nat)), (∀ p ∈ q :: l, Low p.1 ∧ Wf p.2) → fz acc [] 0 (shwF q ++ tlF l) = acc ++ (q :: l).map shwF
  | [], q, acc, h => by
    rw [fz_sol _ _ _ _ _ (shwF_sol (h q List.mem_cons_self) _), shwF_sm (h q List.mem_cons_self)]
    simp [tlF, fz]
  | p :: l, q, acc, h => by
    rw [fz_sol _ _ _ _ _ (shwF_sol (h q List.mem_cons_self) _), shwF_sm (h q List.mem_cons_self)]
    have e : tlF (p :: l) = 44 :: (32 :: (shwF p ++ tlF l)) := by simp [tlF]
    have e1 : dlt 44 = 0 := by decide
    rw [e, fz, e1, if_pos ⟨by decide, by simp⟩]
    have := fz_flds l p (acc ++ [[] ++ shwF q]) fun x hx => h x (List.mem_cons_of_mem _ hx)
    simp only [List.drop_succ_cons, List.drop_zero]
    rw [show (0 : Int) + 0 + 0 = 0 by decide, this]
    simp
end DL

namespace DL
open PySem PySem.Spec PyProof.Rows L2
/-! ## 69. _law_fields_of -/
def b_law_fields_of : Ss :=
 (.c (.set 1 (.lst false (.c (.con (.str [])) .n)))
 (.c (.set 2 (.con (.int 0)))
 (.c (.for_ (.n 3) (.rng (.c (.bf true .len (.c (.var 0) .n)) .n)) (.c (.ite (.cmp .inn (.idx (.var 0) (.var 3)) (.con (.str [91, 123]))) (.c (.set 2 (.bin true .add (.var 2) (.con (.int 1))))
 .n) .n)
 (.c (.ite (.cmp .inn (.idx (.var 0) (.var 3)) (.con (.str [93, 125]))) (.c (.set 2 (.bin true .sub (.var 2) (.con (.int 1))))
 .n) .n)
 (.c (.ite (.bo true (.c (.cmp .eq (.var 2) (.con (.int 0))) (.c (.cmp .eq (.sl true (.var 0) (.var 3) (.bin true .add (.var 3) (.con (.int 2)))) (.con (.str [44, 32]))) .n))) (.c (.ex (.mt .append (.var 1) (.c (.con (.str [])) .n)))
 .n) (.c (.ite (.bo false (.c (.cmp .ne (.var 2) (.con (.int 0))) (.c (.cmp .eq (.var 3) (.con (.int 0))) (.c (.cmp .ne (.sl true (.var 0) (.bin true .sub (.var 3) (.con (.int 1))) (.bin true .add (.var 3) (.con (.int 1)))) (.con (.str [44, 32]))) .n)))) (.c (.setI (.var 1) (.bin true .sub (.bf true .len (.c (.var 1) .n)) (.con (.int 1))) (.bin true .add (.idx (.var 1) (.bin true .sub (.bf true .len (.c (.var 1) .n)) (.con (.int 1)))) (.idx (.var 0) (.var 3))))
 .n) .n)
 .n))
 .n))))
 (.c (.ret (.frz (.var 1)))
 .n))))
def b_fz_rest : Ss :=
 (.c (.ite (.bo true (.c (.cmp .eq (.var 2) (.con (.int 0))) (.c (.cmp .eq (.sl true (.var 0) (.var 3) (.bin true .add (.var 3) (.con (.int 2)))) (.con (.str [44, 32]))) .n))) (.c (.ex (.mt .append (.var 1) (.c (.con (.str [])) .n)))
 .n) (.c (.ite (.bo false (.c (.cmp .ne (.var 2) (.con (.int 0))) (.c (.cmp .eq (.var 3) (.con (.int 0))) (.c (.cmp .ne (.sl true (.var 0) (.bin true .sub (.var 3) (.con (.int 1))) (.bin true .add (.var 3) (.con (.int 1)))) (.con (.str [44, 32]))) .n)))) (.c (.setI (.var 1) (.bin true .sub (.bf true .len (.c (.var 1) .n)) (.con (.int 1))) (.bin true .add (.idx (.var 1) (.bin true .sub (.bf true .len (.c (.var 1) .n)) (.con (.int 1)))) (.idx (.var 0) (.var 3))))
 .n) .n)
 .n))
 .n)
/-- does the sign before this one make a blank of it that is left out? -/
def skp (s : List Nat) (k : Nat) : Prop := 1 ≤ k ∧ (s.drop (k - 1)).take 2 = [44, 32]
theorem fz_rest_ok {Γ : Gam} {E : EndsD} {s : List Nat} {L : Addr} {d : Int} {k c : Nat} {acc : List (List Nat)} {last : List Nat} {G : HD} (hz : s.length ≤ 1000000) (hk : k < s.length) (hc : s[k]? = some c) (ha : acc.length ≤ k) (hl : last.length ≤ k)
    (h1 : d = 0 → (s.drop k).take 2 = [44, 32] → E.nx [some (.str s), some (.ref L), some (.int d), some (.int k)] (updD G L (.lst ((acc ++ [last] ++ [[]]).map .str))))
    (h2 : ¬ (d = 0 ∧ (s.drop k).take 2 = [44, 32]) → ¬ (d = 0 ∧ skp s k) → E.nx [some (.str s), some (.ref L), some (.int d), some (.int k)] (updD G L (.lst ((acc ++ [last ++ [c]]).map .str))))
    (h3 : ¬ (d = 0 ∧ (s.drop k).take 2 = [44, 32]) → d = 0 → skp s k → E.nx [some (.str s), some (.ref L), some (.int d), some (.int k)] (updD G L (.lst ((acc ++ [last]).map .str)))) :
    wSs Γ b_fz_rest E [some (.str s), some (.ref L), some (.int d), some (.int k)] (updD G L (.lst ((acc ++ [last]).map .str))) := by
  have hlim : lim = 16777216 := rfl
  have e2 : cutL s (some (k : Int)) (some ((k : Int) + 2)) = (s.drop k).take 2 := cut_word (s := s) (w := [44, 32]) (i := k) (by omega)
  have add : ¬ (d = 0 ∧ (s.drop k).take 2 = [44, 32]) → ¬ (d = 0 ∧ skp s k) → (last.length + 1 ≤ lim ∧ (0 ≤ (((acc ++ [last]).map D.str).length : Int) - 1 ∧ (((acc ++ [last]).map D.str).length : Int) - 1 < (((acc ++ [last]).map D.str).length : Int)) ∧ E.nx [some (.str s), some (.ref L), some (.int d), some (.int k)] (updD G L (.lst (((acc ++ [last]).map D.str).set ((((acc ++ [last]).map D.str).length : Int) - 1).toNat (.str (last ++ [c])))))) := fun q1 q2 => by
    refine ⟨by omega, ⟨by simp, by omega⟩, ?_⟩
    have e : ((acc ++ [last]).map D.str).set ((((acc ++ [last]).map D.str).length : Int) - 1).toNat (.str (last ++ [c])) = (acc ++ [last ++ [c]]).map D.str := by
      have : ((((acc ++ [last]).map D.str).length : Int) - 1).toNat = acc.length := by simp
      rw [this]; simp
    rw [e]
    exact h2 q1 q2
  have el : atI ((acc ++ [last]).map D.str) ((((acc ++ [last]).map D.str).length : Int) - 1) = some (.str last) := by
    have : ((((acc ++ [last]).map D.str).length : Int) - 1) = ((acc.length : Nat) : Int) := by simp
    rw [this, at_nat]; simp
  generalize hF : (acc ++ [last]).map D.str = F at add el h3 ⊢
  have happ : (acc ++ [last] ++ [[]]).map D.str = F ++ [.str []] := by rw [← hF]; simp
  rw [happ] at h1
  have hFl : F.length < lim := by rw [← hF]; simp; omega
  by_cases d0 : d = 0
  · subst d0
    simp_arith [b_fz_rest, beq_self_eq_true, e2]
    by_cases c2 : (s.drop k).take 2 = [44, 32]
    · have q : ((s.drop k).take 2 == [44, 32]) = true := by rw [beq_iff_eq]; exact c2
      simp_arith [q, updD_same, updD_updD]
      exact And.intro hFl (h1 rfl c2)
    · have q : ((s.drop k).take 2 == [44, 32]) = false := by rw [beq_eq_false_iff_ne]; exact c2
      simp_arith [q]
      by_cases k0 : k = 0
      · have qk : ¬ (((k : Nat) : Int) == 0) = false := by subst k0; decide
        rw [if_neg qk]
        simp_arith [updD_same, el, at_nat, hc, updD_updD]
        exact add (fun z => c2 z.2) (fun z => absurd z.2.1 (by omega))
      · have qk : (((k : Nat) : Int) == 0) = false := by rw [beq_eq_false_iff_ne]; omega
        rw [if_pos qk]
        have e3 : cutL s (some ((k : Int) - 1)) (some ((k : Int) + 1)) = (s.drop (k - 1)).take 2 := by
          have := cut_word (s := s) (w := [44, 32]) (i := k - 1) (by omega)
          have a1 : ((k - 1 : Nat) : Int) = (k : Int) - 1 := by omega
          have a2 : (k : Int) - 1 + (([44, 32] : List Nat).length : Int) = (k : Int) + 1 := by show (k : Int) - 1 + 2 = _; omega
          rw [a1, a2] at this
          exact this
        rw [e3]
        by_cases c3 : (s.drop (k - 1)).take 2 = [44, 32]
        · have q3 : ((s.drop (k - 1)).take 2 == [44, 32]) = true := by rw [beq_iff_eq]; exact c3
          simp_arith [q3]
          exact h3 (fun z => c2 z.2) rfl ⟨by omega, c3⟩
        · have q3 : ((s.drop (k - 1)).take 2 == [44, 32]) = false := by rw [beq_eq_false_iff_ne]; exact c3
          simp_arith [q3, updD_same, el, at_nat, hc, updD_updD]
          exact add (fun z => c2 z.2) (fun z => c3 z.2.2)
  · have q : (d == 0) = false := by simpa using d0
    simp_arith [b_fz_rest, q, updD_same, el, at_nat, hc, updD_updD]
    exact add (fun z => d0 z.1) (fun z => d0 z.1)
theorem b_fz_eq : b_law_fields_of = (.c (.set 1 (.lst false (.c (.con (.str [])) .n)))
 (.c (.set 2 (.con (.int 0)))
 (.c (.for_ (.n 3) (.rng (.c (.bf true .len (.c (.var 0) .n)) .n)) (.c (.ite (.cmp .inn (.idx (.var 0) (.var 3)) (.con (.str [91, 123]))) (.c (.set 2 (.bin true .add (.var 2) (.con (.int 1))))
 .n) .n)
 (.c (.ite (.cmp .inn (.idx (.var 0) (.var 3)) (.con (.str [93, 125]))) (.c (.set 2 (.bin true .sub (.var 2) (.con (.int 1))))
 .n) .n)
 b_fz_rest)))
 (.c (.ret (.frz (.var 1)))
 .n)))) := rfl
theorem drop2 {s : List Nat} {k c : Nat} (h : s[k]? = some c) : s.drop k = c :: s.drop (k + 1) := by
  obtain ⟨hl, e⟩ := List.getElem?_eq_some_iff.mp h
  rw [List.drop_eq_getElem_cons hl, e]
theorem take2_of {s : List Nat} {k a b : Nat} : (s.drop k).take 2 = [a, b] ↔ s[k]? = some a ∧ s[k + 1]? = some b := by
  constructor
  · intro h
    have := take2 h
    refine ⟨?_, ?_⟩
    · have e := congrArg (fun l : List Nat => l[0]?) this
      simpa [List.getElem?_drop] using e
    · have e := congrArg (fun l : List Nat => l[1]?) this
      simpa [List.getElem?_drop] using e
  · rintro ⟨h1, h2⟩
    rw [drop2 h1, drop2 h2]; rfl
def spFz : SpD := fun ds G Q _ => ∃ s, ds = [.str s] ∧ s.length ≤ 1000000 ∧ Q (.lst ((fz [] [] 0 s).map .str)) G
theorem fields_of_ok {Γ : Gam} (ds : List D) (G : HD) (QD : KD) (XD : KX) (h : spFz ds G QD XD) : wSs Γ b_law_fields_of { nx := fun _ H => QD .non H, rt := QD, ex := fun x _ H => XD x H } (startD 4 ds) G := by
  obtain ⟨s, rfl, hz, hQ⟩ := h
  have hlim : lim = 16777216 := rfl
  rw [b_fz_eq]
  simp_arith []
  intro L hL
  rw [q_rng1 ⟨by omega, by omega⟩, ok_some]
  refine And.intro (by show (s.length : Int).toNat ≤ lim; omega) ?_
  refine wFor_ind (fun xs σ H => ∃ (k : Nat) (acc : List (List Nat)) (last : List Nat) (d : Int) (sk : Bool) (x3 : Option D), xs = rngF 1 (s.length - k) k ∧ k ≤ s.length ∧ σ = [some (.str s), some (.ref L), some (.int d), x3] ∧ H = updD G L (.lst ((acc ++ [last]).map .str)) ∧ acc.length ≤ k ∧ last.length ≤ k ∧
    (sk = true → fz [] [] 0 s = fz acc last d (s.drop (k + 1)) ∧ 1 ≤ k ∧ s[k - 1]? = some 44 ∧ s[k]? = some 32 ∧ d = 0) ∧ (sk = false → fz [] [] 0 s = fz acc last d (s.drop k) ∧ (1 ≤ k → s[k - 1]? = some 44 → s[k]? = some 32 → d ≠ 0))) ?_ ?_ _ _ _
    ⟨0, [], [], 0, false, none, by simp [rngL], Nat.zero_le _, rfl, rfl, Nat.le_refl _, Nat.le_refl _, fun z => (nomatch z), fun _ => ⟨rfl, fun z => absurd z (by decide)⟩⟩
  · rintro σ H ⟨k, acc, last, d, sk, x3, hx, hk, rfl, rfl, hl, _, s1, s2⟩
    have hk2 : k = s.length := by
      have := congrArg List.length hx
      rw [rngF_len] at this
      simp at this; omega
    cases sk with
    | true =>
      have := (List.getElem?_eq_some_iff.mp (s1 rfl).2.2.2.1).1
      omega
    | false =>
      obtain ⟨e, _⟩ := s2 rfl
      rw [hk2, List.drop_length, fz] at e
      simp_arith [updD_same]
      rw [delD_updD hL, ← e]
      exact hQ
  · rintro x xs ih σ H ⟨k, acc, last, d, sk, x3, hx, hk, rfl, rfl, hl, hl2, s1, s2⟩
    have hlt : k < s.length := by
      have := congrArg List.length hx
      rw [rngF_len] at this
      simp at this; omega
    rw [show s.length - k = (s.length - (k + 1)) + 1 by omega] at hx
    have hx : x :: xs = .int k :: rngF 1 (s.length - (k + 1)) ((k : Int) + 1) := hx
    injection hx with h1 h2
    subst h1; subst h2
    obtain ⟨c, hc⟩ : ∃ c, s[k]? = some c := ⟨s[k], List.getElem?_eq_getElem hlt⟩
    obtain ⟨q1, hq1⟩ : ∃ q, decide (c ∈ [91, 123]) = q := ⟨_, rfl⟩
    obtain ⟨q2, hq2⟩ : ∃ q, decide (c ∈ [93, 125]) = q := ⟨_, rfl⟩
    have i1 : ∀ H, inD (.str [c]) (.str [91, 123]) H = some q1 := fun _ => by rw [← hq1]; rfl
    have i2 : ∀ H, inD (.str [c]) (.str [93, 125]) H = some q2 := fun _ => by rw [← hq2]; rfl
    have hdl : dlt c = (if q1 = true then 1 else 0) - (if q2 = true then 1 else 0) := by unfold dlt; rw [hq1, hq2]
    have key : ∀ E : EndsD, (∀ acc' last' d' (sk' : Bool), acc'.length ≤ k + 1 → last'.length ≤ k + 1 → (sk' = true → fz [] [] 0 s = fz acc' last' d' (s.drop (k + 1 + 1)) ∧ 1 ≤ k + 1 ∧ s[k + 1 - 1]? = some 44 ∧ s[k + 1]? = some 32 ∧ d' = 0) → (sk' = false → fz [] [] 0 s = fz acc' last' d' (s.drop (k + 1)) ∧ (1 ≤ k + 1 → s[k + 1 - 1]? = some 44 → s[k + 1]? = some 32 → d' ≠ 0)) →
        E.nx [some (.str s), some (.ref L), some (.int d'), some (.int k)] (updD G L (.lst ((acc' ++ [last']).map .str)))) → wSs Γ b_fz_rest E [some (.str s), some (.ref L), some (.int (d + dlt c)), some (.int k)] (updD G L (.lst ((acc ++ [last]).map .str))) := fun E hn => by
      refine fz_rest_ok hz hlt hc hl hl2 (fun d0 c2 => ?_) (fun n1 n2 => ?_) (fun n1 d0 c3 => ?_)
      · have q := take2_of.mp c2
        have ec : c = 44 := Option.some.inj (hc.symm.trans q.1)
        have e0 : dlt c = 0 := by rw [ec]; decide
        cases sk with
        | true => have := (s1 rfl).2.2.2.1; rw [hc] at this; cases this; exact absurd ec (by decide)
        | false =>
          refine hn (acc ++ [last]) [] _ true (by simp; omega) (by simp) (fun _ => ⟨?_, by omega, q.1, q.2, d0⟩) (fun z => (nomatch z))
          rw [(s2 rfl).1, drop2 hc, fz, if_pos ⟨d0, by rw [← drop2 hc]; exact c2⟩, List.drop_drop]
      · cases sk with
        | true =>
          obtain ⟨_, b1, b2, b3, b4⟩ := s1 rfl
          have ec : c = 32 := Option.some.inj (hc.symm.trans b3)
          have e0 : dlt c = 0 := by rw [ec]; decide
          exact absurd ⟨by rw [e0, b4]; rfl, b1, take2_of.mpr ⟨b2, by rw [show k - 1 + 1 = k by omega]; exact b3⟩⟩ n2
        | false =>
          refine hn acc (last ++ [c]) _ false (by omega) (by simp; omega) (fun z => (nomatch z)) (fun _ => ⟨?_, fun _ a b z => ?_⟩)
          · rw [(s2 rfl).1, drop2 hc, fz, if_neg (by rw [← drop2 hc]; exact n1)]
          · exact n1 ⟨z, take2_of.mpr ⟨a, b⟩⟩
      · obtain ⟨b1, b2⟩ := c3
        have q := take2_of.mp b2
        rw [show k - 1 + 1 = k by omega] at q
        have ec : c = 32 := Option.some.inj (hc.symm.trans q.2)
        have e0 : dlt c = 0 := by rw [ec]; decide
        cases sk with
        | true =>
          refine hn acc last _ false (by omega) (by omega) (fun z => (nomatch z)) (fun _ => ⟨?_, fun _ a => ?_⟩)
          · rw [(s1 rfl).1, e0, Int.add_zero]
          · have : s[k]? = some 44 := a
            rw [hc, ec] at this; cases this
        | false => exact absurd (by rw [e0, Int.add_zero] at d0; exact d0) ((s2 rfl).2 b1 q.1 q.2)
    -- have key2 := fun E (hE : ∀ σ H, _ → E.nx σ H) => key E fun acc' last' d' sk' a1 a2 a3 a4 => hE [some (.str s), some (.ref L), some (.int d'), some (.int k)] (updD G L (.lst ((acc' ++ [last']).map .str))) ⟨k + 1, acc', last', d', sk', some (.int k), rfl, hlt, rfl, rfl, a1, a2, a3, a4⟩
    simp_arith [at_nat, hc, i1, i2]
    cases q1 <;> cases q2
    · have e : d + dlt c = d := by rw [hdl]; simp <;> omega
      rw [e] at key
      try simp_arith [at_nat, hc, i1, i2]
      exact key _ fun acc' last' d' sk' a1 a2 a3 a4 => ih _ _ ⟨k + 1, acc', last', d', sk', _, rfl, hlt, rfl, rfl, a1, a2, a3, a4⟩
    · have e : d + dlt c = d - 1 := by rw [hdl]; simp <;> omega
      rw [e] at key
      try simp_arith [at_nat, hc, i1, i2]
      exact key _ fun acc' last' d' sk' a1 a2 a3 a4 => ih _ _ ⟨k + 1, acc', last', d', sk', _, rfl, hlt, rfl, rfl, a1, a2, a3, a4⟩
    · have e : d + dlt c = d + 1 := by rw [hdl]; simp <;> omega
      rw [e] at key
      try simp_arith [at_nat, hc, i1, i2]
      exact key _ fun acc' last' d' sk' a1 a2 a3 a4 => ih _ _ ⟨k + 1, acc', last', d', sk', _, rfl, hlt, rfl, rfl, a1, a2, a3, a4⟩
    · exfalso
      have m1 := of_decide_eq_true hq1
      have m2 := of_decide_eq_true hq2
      simp at m1 m2; omega
end DL

namespace DL
open PySem PySem.Spec PyProof.Rows L2
/-! ## 24. Kinds, less strict; fitting -/
def isOneK : Kd → Bool
  | .one _ _ => true
  | _ => false
def isLst : Kd → Bool
  | .one false _ => true
  | _ => false
mutual
def WK : Kd → Prop
  | .leaf k => k ∈ [sInt, sText, sBool]
  | .one _ a => WK a
  | .recd fs => (fs ≠ .nil ∧ (toL fs).length ≤ 8) ∧ WKs fs
def WKs : Fs → Prop
  | .nil => True
  | .cons n k fs => Low n ∧ WK k ∧ WKs fs
end
theorem wk_leaf {k : List Nat} (w : WK (.leaf k)) : Wf (.leaf k) := by simpa only [Wf, WK] using w
def fnd (n : List Nat) : List (List Nat × Kd) → Option Kd
  | [] => none
  | p :: r => if (p.1 == n) = true then some p.2 else fnd n r
theorem fnd_some : ∀ {l : List (List Nat × Kd)}, (l.map Prod.fst).Nodup → ∀ p ∈ l, fnd p.1 l = some p.2
  | [], _, _, h => nomatch h
  | q :: r, nd, p, h => by
    rw [List.map_cons, List.nodup_cons] at nd
    unfold fnd
    rcases List.mem_cons.mp h with rfl | h
    · rw [if_pos (by simp)]
    · rw [if_neg, fnd_some nd.2 p h]
      rw [beq_iff_eq]
      intro e
      exact nd.1 (List.mem_map.mpr ⟨p, h, e.symm⟩)
-- does t fit u?
mutual
def fit : Kd → Kd → Bool
  | .leaf k, t => match t with
    | .leaf k' => k' == k
    | _ => false
  | .one true b, t => fit b (match t with | .one true a => a | t => t)
  | .one false b, t => match t with
    | .one true a => !isLst a && fit b a
    | .one false a => fit b a
    | t => fit b t
  | .recd gs, t => match t with
    | .recd fs => fits gs (toL fs)
    | _ => false
def fits : Fs → List (List Nat × Kd) → Bool
  | .nil, _ => true
  | .cons n k gs, fs => (match fnd n fs with | some p => fit k p | none => isOneK k) && fits gs fs
end
def ff (fs : List (List Nat × Kd)) (q : List Nat × Kd) : Bool := match fnd q.1 fs with
  | some p => fit q.2 p
  | none => isOneK q.2
theorem fits_eq : ∀ gs fs, fits gs fs = (toL gs).all (ff fs)
  | .nil, _ => by simp [fits, toL]
  | .cons n k gs, fs => by simp only [fits, toL, List.all_cons, fits_eq gs fs]; rfl
mutual
theorem fit_refl : ∀ k, Wf k → fit k k = true
  | .leaf k, _ => by simp [fit]
  | .one true a, w => by simp only [Wf] at w; simp only [fit]; exact fit_refl a w.2
  | .one false a, w => by simp only [Wf] at w; simp only [fit]; exact fit_refl a w.2
  | .recd fs, w => by
    simp only [Wf] at w
    simp only [fit, fits_eq]
    rw [List.all_eq_true]
    intro p hp
    unfold ff
    rw [fnd_some w.1.2.1 p hp]
    exact fits_refl fs w.2 p hp
theorem fits_refl : ∀ fs, Wfs fs → ∀ p ∈ toL fs, fit p.2 p.2 = true
  | .nil, _, _, h => by simp [toL] at h
  | .cons n k fs, w, p, h => by
    simp only [Wfs] at w
    rcases List.mem_cons.mp h with rfl | h
    · exact fit_refl k w.2.1
    · exact fits_refl fs w.2.2 p h
end
mutual
theorem py_enc : ∀ k, ∃ x, py (enc k) = some x
  | .leaf k => by simp only [enc, py, pys]; exact ⟨_, rfl⟩
  | .one o a => by obtain ⟨x, e⟩ := py_enc a; simp only [enc, py, pys, e]; exact ⟨_, rfl⟩
  | .recd fs => by obtain ⟨x, e⟩ := py_encs fs; simp only [enc, py, pys, e]; exact ⟨_, rfl⟩
theorem py_encs : ∀ fs, ∃ x, pys (encs fs) = some x
  | .nil => by simp only [encs, pys]; exact ⟨_, rfl⟩
  | .cons n k fs => by
    obtain ⟨x, e⟩ := py_enc k
    obtain ⟨y, e2⟩ := py_encs fs
    simp only [encs, py, pys, e, e2]; exact ⟨_, rfl⟩
end
/-! ### field_of, part -/
/-! ### does_fit -/
/-! ### the law's own -/
end DL

namespace DL
open PySem PySem.Spec PyProof.Rows L2
/-! ## 25. Schemas that grow -/
/-! ### is it a schema? -/
/-! ### growing -/
end DL

namespace DL
open PySem PySem.Spec PyProof.Rows L2
/-! ### a record that grows -/
end DL

namespace DL
open PySem PySem.Spec PyProof.Rows L2
/-! ### two schemas, one grown from the other -/
/-! ### a part turned -/
end DL

namespace DL
open PySem PySem.Spec PyProof.Rows L2
/-! ### is_row -/
/-! ### is_value -/
abbrev IV := Kd × D × Nat
def IV.d (e : IV) : D := .tup [enc e.1, e.2.1]
def IV.w (e : IV) : Nat := sz e.1 * (e.2.2 + 1)
theorem sz_pos (k : Kd) : 1 ≤ sz k := by cases k <;> simp [sz]
mutual
theorem sz_le : ∀ k, Wf k → sz k ≤ (lv k).length * dp k
  | .leaf k, _ => by simp [sz, lv, dp]
  | .one o a, w => by
    simp only [Wf] at w
    have h1 := sz_le a w.2
    have h2 := lv_pos a w.2
    simp only [sz, lv, dp, List.length_map, Nat.mul_add]
    omega
  | .recd fs, w => by
    simp only [Wf] at w
    have h1 := szs_le fs w.2
    have h2 := lvs_pos fs w.1.1 w.2
    simp only [sz, lv, dp, Nat.mul_add]
    omega
theorem szs_le : ∀ fs, Wfs fs → szs fs ≤ (lvs fs).length * dps fs
  | .nil, _ => by simp [szs]
  | .cons n k fs, w => by
    simp only [Wfs] at w
    have h1 := sz_le k w.2.1
    have h2 := szs_le fs w.2.2
    simp only [szs, lvs, dps, List.length_append, List.length_map, Nat.add_mul]
    have q1 : (lv k).length * dp k ≤ (lv k).length * max (dp k) (dps fs) := Nat.mul_le_mul_left _ (Nat.le_max_left _ _)
    have q2 : (lvs fs).length * dps fs ≤ (lvs fs).length * max (dp k) (dps fs) := Nat.mul_le_mul_left _ (Nat.le_max_right _ _)
    omega
end
/-! ### the leaves of a choice -/
def pick (P : Nat → Bool) : Nat → List Lf → List Lf
  | _, [] => []
  | f, x :: r => if P f = true then x :: pick P (f + 1) r else pick P (f + 1) r
section
variable {P : Nat → Bool}
theorem pick_app : ∀ (a b : List Lf) (f : Nat), pick P f (a ++ b) = pick P f a ++ pick P (f + a.length) b
  | [], b, f => rfl
  | x :: a, b, f => by
    have := pick_app a b (f + 1)
    simp only [List.cons_append, pick, List.length_cons]
    rw [this, show f + 1 + a.length = f + (a.length + 1) by omega]
    split <;> rfl
theorem pick_map (g : Lf → Lf) : ∀ (a : List Lf) (f : Nat), pick P f (a.map g) = (pick P f a).map g
  | [], f => rfl
  | x :: a, f => by
    simp only [List.map_cons, pick, pick_map g a (f + 1)]
    split <;> rfl
theorem pick_none : ∀ (a : List Lf) (f : Nat), anyP P f a.length = false → pick P f a = []
  | [], _, _ => rfl
  | x :: a, f, h => by
    have h1 : P f = false := by
      cases e : P f with
      | false => rfl
      | true => rw [anyP_iff.mpr ⟨f, Nat.le_refl _, by simp, e⟩] at h; cases h
    have h2 : anyP P (f + 1) a.length = false := by
      cases e : anyP P (f + 1) a.length with
      | false => rfl
      | true =>
        obtain ⟨i, q1, q2, q3⟩ := anyP_iff.mp e
        rw [anyP_iff.mpr ⟨i, by omega, by simp; omega, q3⟩] at h; cases h
    simp only [pick, h1, pick_none a (f + 1) h2]
    simp
mutual
theorem lv_pick : ∀ (k : Kd) (f : Nat), anyP P f (lv k).length = true → lv (chs P k f) = pick P f (lv k)
  | .leaf k, f, h => by
    obtain ⟨i, a, b, c⟩ := anyP_iff.mp h
    simp only [lv, List.length_singleton] at b
    have : i = f := by omega
    subst this
    simp only [chs, lv, pick, c, if_true]
  | .one o a, f, h => by
    simp only [lv, List.length_map] at h
    simp only [chs, lv, lv_pick a f h, pick_map]
  | .recd fs, f, h => by
    simp only [chs, lv]
    exact lvs_pick fs f
theorem lvs_pick : ∀ (fs : Fs) (f : Nat), lvs (chss P fs f) = pick P f (lvs fs)
  | .nil, f => by simp [chss, lvs, pick]
  | .cons n k fs, f => by
    have h2 := lvs_pick fs (f + (lv k).length)
    simp only [chss, lvs, pick_app, List.length_map, pick_map]
    cases e : anyP P f (lv k).length with
    | true => simp only [if_true, lvs, lv_pick k f e, h2]
    | false => simp only [Bool.false_eq_true, if_false, h2, pick_none _ f e, List.map_nil, List.nil_append]
end
end
end DL

namespace DL
open PySem PySem.Spec PyProof.Rows L2
/-! ## 40. Values of any form, and their texts -/
inductive TX : Nat → D → Prop
  | non {n : Nat} : TX n .non
  | bl {n : Nat} (b : Bool) : TX n (.bl b)
  | int {n : Nat} {i : Int} : i.natAbs.log2 < 1920 → TX n (.int i)
  | str {n : Nat} {s : List Nat} : s.length ≤ 201 → (∀ c ∈ s, c < 1114112) → TX n (.str s)
  | tup {n : Nat} {ds : List D} : (∀ x ∈ ds, TX n x) → TX (n + 1) (.tup ds)
  | lst {n : Nat} {ds : List D} : (∀ x ∈ ds, TX n x) → TX (n + 1) (.lst ds)
theorem TX.mono : ∀ {n m : Nat} {d : D}, TX n d → n ≤ m → TX m d
  | _, _, _, .non, _ => .non
  | _, _, _, .bl b, _ => .bl b
  | _, _, _, .int h, _ => .int h
  | _, _, _, .str h1 h2, _ => .str h1 h2
  | n + 1, m + 1, _, .tup h, l => .tup fun x hx => (h x hx).mono (by omega)
  | n + 1, m + 1, _, .lst h, l => .lst fun x hx => (h x hx).mono (by omega)
mutual
def nd : D → Nat
  | .tup ds => nds ds + 1
  | .lst ds => nds ds + 1
  | _ => 1
def nds : List D → Nat
  | [] => 0
  | d :: ds => nd d + nds ds
end
theorem nd_pos (d : D) : 1 ≤ nd d := by cases d <;> simp only [nd] <;> omega
/-! ### the text -/
/-! ### values of a kind -/
mutual
theorem okv_tx : ∀ (k : Kd) (v : D) (m : Nat), Wf k → OkV k v m → TX (dp k) v ∧ nd v ≤ sz k * (m + 1)
  | .leaf k, v, m, _, h => by
    simp only [OkV] at h
    simp only [sz, Nat.one_mul]
    rcases h with ⟨_, i, rfl, hi⟩ | ⟨_, s, rfl, hs⟩ | ⟨_, b, rfl⟩
    · refine ⟨.int ?_, by simp only [nd]; omega⟩
      have h1 := hi.1
      have h2 := hi.2
      have : i.natAbs < 2 ^ 64 := by
        have e : (2 : Nat) ^ 64 = 18446744073709551616 := by decide
        omega
      by_cases hz : i.natAbs = 0
      · rw [hz]; decide
      · have := (Nat.log2_lt hz).mpr this
        omega
    · refine ⟨.str (by have := hs.1; omega) fun c hc => ?_, by simp only [nd]; omega⟩
      have h75 : ∀ c ∈ signs, c < 1114112 := by decide
      exact h75 c (hs.2 c hc)
    · exact ⟨.bl b, by simp only [nd]; omega⟩
  | .one true a, v, m, w, h => by
    simp only [Wf] at w
    simp only [OkV] at h
    simp only [dp, sz]
    have hp := sz_pos a
    rcases h with rfl | h
    · refine ⟨.non, ?_⟩
      simp only [nd]
      have : 1 * 1 ≤ (sz a + 1) * (m + 1) := Nat.mul_le_mul (by omega) (by omega)
      omega
    · obtain ⟨h1, h2⟩ := okv_tx a v m w.2 h
      refine ⟨h1.mono (by omega), Nat.le_trans h2 (Nat.mul_le_mul_right _ (by omega))⟩
  | .one false a, v, m, w, h => by
    simp only [Wf] at w
    simp only [OkV] at h
    obtain ⟨vs, ms, rfl, hl, hs, hv⟩ := h
    simp only [dp, sz]
    have each : ∀ (i : Nat) (x : D) (n : Nat), vs[i]? = some x → ms[i]? = some n → TX (dp a) x ∧ nd x ≤ sz a * (n + 1) := fun i x n e1 e2 => okv_tx a x n w.2 (hv i x n e1 e2)
    have hall : ∀ x ∈ vs, TX (dp a) x := fun x hx => by
      obtain ⟨i, hi, e⟩ := List.getElem_of_mem hx
      exact (each i x ms[i] (by rw [List.getElem?_eq_getElem hi, e]) (by rw [List.getElem?_eq_getElem (by omega)])).1
    have hsum : ∀ (vs : List D) (ms : List Nat), vs.length = ms.length → (∀ (i : Nat) (x : D) (n : Nat), vs[i]? = some x → ms[i]? = some n → nd x ≤ sz a * (n + 1)) → nds vs ≤ sz a * (vs.length + ms.sum) := by
      intro vs
      induction vs with
      | nil => intro ms _ _; simp only [nds]; omega
      | cons x vs ih =>
        intro ms hl h
        cases ms with
        | nil => simp at hl
        | cons n ms =>
          have h1 := h 0 x n rfl rfl
          have h2 := ih ms (by simpa using hl) fun i y k a b => h (i + 1) y k (by simpa using a) (by simpa using b)
          simp only [nds, List.length_cons, List.sum_cons]
          have : sz a * (vs.length + 1 + (n + ms.sum)) = sz a * (n + 1) + sz a * (vs.length + ms.sum) := by rw [← Nat.mul_add]; congr 1; omega
          omega
    have h3 := hsum vs ms hl fun i x n a b => (each i x n a b).2
    refine ⟨.tup hall, ?_⟩
    simp only [nd]
    have h4 : sz a * (vs.length + ms.sum) ≤ sz a * m := Nat.mul_le_mul_left _ hs
    rw [Nat.add_mul, Nat.mul_add]
    omega
  | .recd fs, v, m, w, h => by
    simp only [Wf] at w
    simp only [OkV] at h
    obtain ⟨vs, rfl, h⟩ := h
    obtain ⟨h1, h2⟩ := okvs_tx fs vs m w.2 h
    simp only [dp, sz, nd]
    refine ⟨.tup h1, ?_⟩
    rw [Nat.add_mul]
    omega
theorem okvs_tx : ∀ (fs : Fs) (vs : List D) (m : Nat), Wfs fs → OkVs fs vs m → (∀ x ∈ vs, TX (dps fs) x) ∧ nds vs ≤ szs fs * (m + 1)
  | .nil, vs, m, _, h => by
    simp only [OkVs] at h
    subst h
    exact ⟨fun _ h => (nomatch h), by simp only [nds]; omega⟩
  | .cons n k fs, vs, m, w, h => by
    simp only [Wfs] at w
    simp only [OkVs] at h
    obtain ⟨v, r, a, b, rfl, hab, h1, h2⟩ := h
    obtain ⟨q1, q2⟩ := okv_tx k v a w.2.1 h1
    obtain ⟨q3, q4⟩ := okvs_tx fs r b w.2.2 h2
    simp only [dps, szs, nds, Nat.add_mul]
    refine ⟨fun x hx => ?_, ?_⟩
    · rcases List.mem_cons.mp hx with rfl | hx
      · exact q1.mono (by omega)
      · exact (q3 x hx).mono (by omega)
    · have e1 : sz k * (a + 1) ≤ sz k * (m + 1) := Nat.mul_le_mul_left _ (by omega)
      have e2 : szs fs * (b + 1) ≤ szs fs * (m + 1) := Nat.mul_le_mul_left _ (by omega)
      omega
end
end DL

namespace DL
open PySem PySem.Spec PyProof.Rows L2
/-! ## 41. is_row of any value -/
theorem TX.cases {n : Nat} {d : D} (h : TX n d) : d = .non ∨ (∃ c, d = .bl c) ∨ (∃ i, d = .int i) ∨ (∃ s, d = .str s) ∨ (∃ ds, d = .tup ds) ∨ ∃ ds, d = .lst ds := by
  cases h <;> simp
theorem TX.of_tup {n : Nat} {ds : List D} (h : TX n (.tup ds)) : ∀ x ∈ ds, TX n x := by
  cases h with
  | tup h => exact fun x hx => (h x hx).mono (by omega)
def leafB (k : List Nat) (v : D) : Bool :=
  if (k == sInt) = true then (match v with | .int i => decide (-9223372036854775808 ≤ i) && decide (i < 9223372036854775808) | _ => false)
  else if (k == sBool) = true then (match v with | .bl _ => true | _ => false)
  else (match v with | .str s => decide (s.length ≤ 200) && s.all (fun c => decide (c ∈ signs)) | _ => false)
def isNon : D → Bool
  | .non => true
  | _ => false
mutual
/-- is v a value of k? -/
def okB : Kd → D → Bool
  | .leaf k, v => leafB k v
  | .one o a, v => match o with
    | true => isNon v || okB a v
    | false => (match v with | .tup vs => vs.all fun x => okB a x | _ => false)
  | .recd fs, v => match v with
    | .tup vs => decide (vs.length = (toL fs).length) && okBs fs vs
    | _ => false
def okBs : Fs → List D → Bool
  | .nil, _ => true
  | .cons _ k fs, vs => match vs with
    | v :: r => okB k v && okBs fs r
    | [] => true
end
mutual
theorem okv_okB : ∀ (k : Kd) (v : D) (m : Nat), OkV k v m → okB k v = true
  | .leaf k, v, m, h => by
    simp only [OkV] at h
    simp only [okB]
    rcases h with ⟨rfl, i, rfl, h1, h2⟩ | ⟨rfl, s, rfl, h1, h2⟩ | ⟨rfl, b, rfl⟩
    · show (decide _ && decide _) = true
      rw [decide_eq_true h1, decide_eq_true h2]; rfl
    · show (decide _ && s.all _) = true
      rw [decide_eq_true h1, Bool.true_and, List.all_eq_true]
      exact fun c hc => decide_eq_true (h2 c hc)
    · rfl
  | .one true a, v, m, h => by
    simp only [OkV] at h
    simp only [okB]
    rcases h with rfl | h
    · rfl
    · rw [okv_okB a v m h, Bool.or_true]
  | .one false a, v, m, h => by
    simp only [OkV] at h
    obtain ⟨vs, ms, rfl, hl, _, hv⟩ := h
    simp only [okB, List.all_eq_true]
    intro x hx
    obtain ⟨i, hi, e⟩ := List.getElem_of_mem hx
    exact okv_okB a x ms[i] (hv i x ms[i] (by rw [List.getElem?_eq_getElem hi, e]) (by rw [List.getElem?_eq_getElem (by omega)]))
  | .recd fs, v, m, h => by
    simp only [OkV] at h
    obtain ⟨vs, rfl, h⟩ := h
    obtain ⟨h1, h2⟩ := okvs_okB fs vs m h
    simp only [okB, h1, decide_true, h2, Bool.and_self]
theorem okvs_okB : ∀ (fs : Fs) (vs : List D) (m : Nat), OkVs fs vs m → vs.length = (toL fs).length ∧ okBs fs vs = true
  | .nil, vs, m, h => by
    simp only [OkVs] at h
    subst h
    exact ⟨rfl, rfl⟩
  | .cons n k fs, vs, m, h => by
    simp only [OkVs] at h
    obtain ⟨v, r, a, b, rfl, _, h1, h2⟩ := h
    obtain ⟨q1, q2⟩ := okvs_okB fs r b h2
    simp only [toL, List.length_cons, q1, okBs, okv_okB k v a h1, q2, Bool.and_self]
    exact ⟨trivial, trivial⟩
end
/-! ### leaves -/
/-! ### the law's own -/
end DL

namespace DL
open PySem PySem.Spec PyProof.Rows L2
/-! ### is_value -/
abbrev KV' := Kd × D
def KV'.d (e : KV') : D := .tup [enc e.1, e.2]
def KV'.w (e : KV') : Nat := sz e.1 * nd e.2
def KV'.b (e : KV') : Bool := okB e.1 e.2
theorem KV'.w1 (e : KV') : 1 ≤ e.w := Nat.mul_pos (sz_pos _) (nd_pos _)
end DL

namespace DL
open PySem PySem.Spec PyProof.Rows L2
/-! ## 17b. The law's own def, where it is called: no repr runs there -/
section
variable {P : Program} {w : World} {K : PySem.W.Frag} {mg mb : Str → Option Value} {CX : CXT} {f a : Addr} {s : Shared} {us : List Value} {ns : List Int}
end
section
variable {P : Program} {w : World} {K : PySem.W.Frag} {mg : Str → Option Value} {fnm clm : Nat → Option Addr} {C : Cfg} {Γ : Gam}
end
end DL

namespace DL
open PySem PySem.Spec PyProof.Rows L2
/-! ## 42. The law's own is_value; values turned -/
end DL

namespace DL
open PySem PySem.Spec PyProof.Rows L2
/-! ### turned -/
mutual
theorem okV_mono : ∀ {k : Kd} {v : D} {a b : Nat}, OkV k v a → a ≤ b → OkV k v b
  | .leaf k, v, a, b, h, _ => by simp only [OkV] at h ⊢; exact h
  | .one true k, v, a, b, h, l => by simp only [OkV] at h ⊢; exact h.imp id fun h => okV_mono h l
  | .one false k, v, a, b, h, l => by
    simp only [OkV] at h ⊢
    obtain ⟨vs, ms, h1, h2, h3, h4⟩ := h
    exact ⟨vs, ms, h1, h2, by omega, h4⟩
  | .recd fs, v, a, b, h, l => by
    simp only [OkV] at h ⊢
    obtain ⟨vs, h1, h2⟩ := h
    exact ⟨vs, h1, okVs_mono h2 l⟩
theorem okVs_mono : ∀ {fs : Fs} {vs : List D} {a b : Nat}, OkVs fs vs a → a ≤ b → OkVs fs vs b
  | .nil, vs, a, b, h, _ => by simp only [OkVs] at h ⊢; exact h
  | .cons n k fs, vs, a, b, h, l => by
    simp only [OkVs] at h ⊢
    obtain ⟨v, r, c, d, h1, h2, h3, h4⟩ := h
    exact ⟨v, r, c, d, h1, by omega, h3, h4⟩
end
end DL

namespace DL
open PySem PySem.Spec PyProof.Rows L2
/-! ## 43. Schemas: what is_schema tells, what can be written -/
mutual
theorem encK_px : ∀ k, WK k → PX 1000 (enc k)
  | .leaf k, _ => by
    simp only [enc]
    exact PX.tup (by show 1 ≤ 1000; decide) fun x hx => by rw [List.mem_singleton] at hx; subst hx; exact .str _
  | .one o a, w => by
    simp only [WK] at w
    simp only [enc]
    have h := encK_px a w
    refine PX.tup (by show 2 ≤ 1000; decide) fun x hx => ?_
    simp only [List.mem_cons, List.not_mem_nil, or_false] at hx
    rcases hx with rfl | rfl
    · exact .str _
    · exact h
  | .recd fs, w => by
    simp only [WK] at w
    simp only [enc]
    have h := encsK_px fs w.2
    have h8 := w.1.2
    refine PX.tup (by show 2 ≤ 1000; decide) fun x hx => ?_
    simp only [List.mem_cons, List.not_mem_nil, or_false] at hx
    rcases hx with rfl | rfl
    · exact .str _
    · exact PX.tup (by rw [encs_eq, List.length_map]; omega) h
theorem encsK_px : ∀ fs, WKs fs → ∀ x ∈ encs fs, PX 1000 x
  | .nil, _, x, hx => by simp [encs] at hx
  | .cons n k fs, w, x, hx => by
    simp only [WKs] at w
    simp only [encs] at hx
    rcases List.mem_cons.mp hx with rfl | hx
    · have h := encK_px k w.2.1
      refine PX.tup (by show 2 ≤ 1000; decide) fun x hx => ?_
      simp only [List.mem_cons, List.not_mem_nil, or_false] at hx
      rcases hx with rfl | rfl
      · exact .str _
      · exact h
    · exact encsK_px fs w.2.2 x hx
end
theorem encs_fnm : ∀ fs : Fs, (encs fs).map fnm = (toL fs).map Prod.fst
  | .nil => rfl
  | .cons n k fs => by simp only [encs, toL, List.map_cons, encs_fnm fs]; rfl
theorem encs_fsec : ∀ fs : Fs, (encs fs).map fsec = (toL fs).map fun p => enc p.2
  | .nil => rfl
  | .cons n k fs => by simp only [encs, toL, List.map_cons, encs_fsec fs]; rfl
theorem cntD_succ {n : Nat} {v : D} {ps : List D} (e : partsD v = some ps) : cntD (n + 1) v = if ps.isEmpty = true then 1 else (ps.map fun p => cntD n p).sum := by
  simp only [cntD, e]
mutual
theorem cnt_wf : ∀ (k : Kd) (n : Nat), WK k → cntD n (enc k) < 1000 → Wf k ∧ dp k ≤ n ∧ (lv k).length ≤ cntD n (enc k)
  | k, 0, _, h => by exact absurd h (by simp [cntD])
  | .leaf k, n + 1, w, h => by
    have w2 := wk_leaf w
    have e : partsD (enc (.leaf k)) = some [] := by
      simp only [WK, List.mem_cons, List.not_mem_nil, or_false] at w
      rcases w with rfl | rfl | rfl <;> rfl
    rw [cntD_succ e]
    exact ⟨w2, by simp only [dp]; omega, by simp [lv]⟩
  | .one o a, n + 1, w, h => by
    simp only [WK] at w
    cases hp : partsD (enc (.one o a)) with
    | none => rw [cnt_bad hp] at h; omega
    | some ps =>
      have hps : ps = [enc a] ∧ (o = true → isOpt a = false) := by
        cases o with
        | false =>
          have e : partsD (enc (.one false a)) = some [enc a] := rfl
          rw [e] at hp
          exact ⟨(Option.some.inj hp).symm, fun h => nomatch h⟩
        | true =>
          have e : partsD (enc (.one true a)) = if (isTupD (enc a) && !optHd (enc a)) = true then some [enc a] else none := rfl
          rw [e] at hp
          split at hp
          · rename_i q
            refine ⟨(Option.some.inj hp).symm, fun _ => ?_⟩
            rw [Bool.and_eq_true] at q
            cases a with
            | leaf k => rfl
            | one o b =>
              cases o with
              | false => rfl
              | true =>
                have : optHd (enc (.one true b)) = true := rfl
                rw [this] at q
                exact absurd q.2 (by decide)
            | recd fs => rfl
          · cases hp
      obtain ⟨rfl, ho⟩ := hps
      rw [cntD_succ hp] at h ⊢
      have es : ([enc a].map fun p => cntD n p).sum = cntD n (enc a) := by simp
      have ie : ([enc a] : List D).isEmpty = false := rfl
      rw [ie, if_neg Bool.false_ne_true, es] at h ⊢
      obtain ⟨q1, q2, q3⟩ := cnt_wf a n w h
      refine ⟨by simp only [Wf]; exact ⟨ho, q1⟩, by simp only [dp]; omega, by simp only [lv, List.length_map]; exact q3⟩
  | .recd fs, n + 1, w, h => by
    simp only [WK] at w
    cases hp : partsD (enc (.recd fs)) with
    | none => rw [cnt_bad hp] at h; omega
    | some ps =>
      have e : partsD (enc (.recd fs)) = if fieldsB (.tup (encs fs)) = true then some ((encs fs).map fsec) else none := rfl
      rw [e] at hp
      split at hp
      · rename_i q
        have hps := (Option.some.inj hp).symm
        subst hps
        have nd : ((toL fs).map Prod.fst).Nodup := by
          simp only [fieldsB, Bool.and_eq_true, decide_eq_true_eq] at q
          have := q.2
          have e2 : ((encs fs).map fnm) = ((toL fs).map Prod.fst) := encs_fnm fs
          rw [e2] at this
          exact this
        have e3 : partsD (enc (.recd fs)) = some ((encs fs).map fsec) := by rw [e, if_pos q]
        rw [cntD_succ e3] at h ⊢
        have ne : ((encs fs).map fsec).isEmpty = false := by
          cases fs with
          | nil => exact absurd rfl w.1.1
          | cons n k fs => rfl
        have es : (((encs fs).map fsec).map fun p => cntD n p) = (toL fs).map fun p => cntD n (enc p.2) := by rw [encs_fsec, List.map_map]; rfl
        rw [ne, if_neg Bool.false_ne_true, es] at h ⊢
        obtain ⟨q1, q2, q3⟩ := cnts_wf fs n w.2 h
        exact ⟨by simp only [Wf]; exact ⟨⟨w.1.1, nd, w.1.2⟩, q1⟩, by simp only [dp]; omega, by simp only [lv]; exact q3⟩
      · cases hp
theorem cnts_wf : ∀ (fs : Fs) (n : Nat), WKs fs → ((toL fs).map fun p => cntD n (enc p.2)).sum < 1000 → Wfs fs ∧ dps fs ≤ n ∧ (lvs fs).length ≤ ((toL fs).map fun p => cntD n (enc p.2)).sum
  | .nil, n, _, _ => ⟨by simp only [Wfs], by simp [dps], by simp [lvs]⟩
  | .cons x k fs, n, w, h => by
    simp only [WKs] at w
    simp only [toL, List.map_cons, List.sum_cons] at h ⊢
    obtain ⟨q1, q2, q3⟩ := cnt_wf k n w.2.1 (by omega)
    obtain ⟨r1, r2, r3⟩ := cnts_wf fs n w.2.2 (by omega)
    refine ⟨by simp only [Wfs]; exact ⟨w.1, q1, r1⟩, by simp only [dps]; omega, by simp only [lvs, List.length_append, List.length_map]; omega⟩
end
theorem low_tx {n : Nat} {s : List Nat} (h : Low s) : TX n (.str s) := .str (by have := h.1.2; omega) fun c hc => by
  have h2 := h.2 c hc
  have : ∀ c ∈ abc, c < 1114112 := by decide
  exact this c h2
theorem szs_pos : ∀ fs : Fs, fs ≠ .nil → 1 ≤ szs fs
  | .nil, h => absurd rfl h
  | .cons n k fs, _ => by simp only [szs]; have := sz_pos k; omega
mutual
theorem enc_tx : ∀ k, WK k → TX (3 * dp k) (enc k) ∧ nd (enc k) + 2 ≤ 5 * sz k
  | .leaf k, w => by
    simp only [enc, dp, sz]
    have hs : TX 2 (.str k) := by
      simp only [WK, List.mem_cons, List.not_mem_nil, or_false] at w
      rcases w with rfl | rfl | rfl <;> exact .str (by decide) (by decide)
    refine ⟨.tup fun x hx => ?_, by simp only [nd, nds]; omega⟩
    rw [List.mem_singleton] at hx; subst hx; exact hs
  | .one o a, w => by
    simp only [WK] at w
    obtain ⟨h1, h2⟩ := enc_tx a w
    simp only [enc, dp, sz, nd, nds]
    refine ⟨?_, by omega⟩
    show TX (3 * dp a + 2 + 1) _
    refine .tup fun x hx => ?_
    simp only [List.mem_cons, List.not_mem_nil, or_false] at hx
    rcases hx with rfl | rfl
    · cases o <;> exact .str (by decide) (by decide)
    · exact h1.mono (by omega)
  | .recd fs, w => by
    simp only [WK] at w
    obtain ⟨h1, h2⟩ := encs_tx fs w.2
    simp only [enc, dp, sz, nd, nds]
    have hp := szs_pos fs w.1.1
    refine ⟨?_, by omega⟩
    show TX (3 * dps fs + 2 + 1) _
    refine .tup fun x hx => ?_
    simp only [List.mem_cons, List.not_mem_nil, or_false] at hx
    rcases hx with rfl | rfl
    · exact .str (by decide) (by decide)
    · exact .tup h1
theorem encs_tx : ∀ fs, WKs fs → (∀ x ∈ encs fs, TX (3 * dps fs + 1) x) ∧ nds (encs fs) ≤ 5 * szs fs
  | .nil, _ => ⟨fun x hx => by simp [encs] at hx, by simp [encs, nds]⟩
  | .cons n k fs, w => by
    simp only [WKs] at w
    obtain ⟨h1, h2⟩ := enc_tx k w.2.1
    obtain ⟨h3, h4⟩ := encs_tx fs w.2.2
    simp only [encs, dps, nds, nd, szs]
    have hp := sz_pos k
    refine ⟨fun x hx => ?_, by omega⟩
    rcases List.mem_cons.mp hx with rfl | hx
    · show TX (3 * max (dp k) (dps fs) + 1) _
      refine .tup fun x hx => ?_
      simp only [List.mem_cons, List.not_mem_nil, or_false] at hx
      rcases hx with rfl | rfl
      · exact low_tx w.1
      · exact h1.mono (by omega)
    · exact (h3 x hx).mono (by omega)
end
end DL

namespace DL
open PySem PySem.Spec PyProof.Rows L2
/-! ## 70. The law's reading: the plain side -/
/-- the first colon and blank -/
def fcol : List Nat → Option Nat
  | [] => none
  | c :: r => if (c :: r).take 2 = [58, 32] then some 0 else (fcol r).map (· + 1)
theorem fcol_some : ∀ {s : List Nat} {i : Nat}, fcol s = some i → (s.drop i).take 2 = [58, 32] ∧ ∀ k, k < i → (s.drop k).take 2 ≠ [58, 32]
  | [], _, h => by cases h
  | c :: r, i, h => by
    unfold fcol at h
    split at h
    · rename_i q; cases h; exact ⟨q, fun k hk => absurd hk (Nat.not_lt_zero _)⟩
    · rename_i q
      cases e : fcol r with
      | none => rw [e] at h; cases h
      | some j =>
        rw [e] at h; cases h
        obtain ⟨h1, h2⟩ := fcol_some e
        refine ⟨h1, fun k hk => ?_⟩
        cases k with
        | zero => exact q
        | succ k => exact h2 k (Nat.lt_of_succ_lt_succ hk)
theorem fcol_none : ∀ {s : List Nat}, fcol s = none → ∀ k, (s.drop k).take 2 ≠ [58, 32]
  | [], _, k => by simp
  | c :: r, h, k => by
    unfold fcol at h
    split at h
    · cases h
    · rename_i q
      have e : fcol r = none := by
        cases e : fcol r with
        | none => rfl
        | some _ => rw [e] at h; cases h
      cases k with
      | zero => exact q
      | succ k => exact fcol_none e k
theorem fcol_lt {s : List Nat} {i : Nat} (h : fcol s = some i) : i + 2 ≤ s.length := by
  have := congrArg List.length (fcol_some h).1
  rw [List.length_take, List.length_drop] at this
  simp at this; omega
theorem col_at (s : List Nat) (i : Nat) : StrLaws.At (mkStr s) (mkStr [58, 32]) (mkStr s).length i ↔ (s.drop i).take 2 = [58, 32] := by
  have e1 : (mkStr s).cps.toList = s := by simp [mkStr]
  have e2 : (mkStr [58, 32]).cps.toList = [58, 32] := by simp [mkStr]
  have e3 : (mkStr [58, 32]).length = 2 := rfl
  have e4 : (mkStr s).length = s.length := by simp [mkStr, Str.length]
  unfold StrLaws.At
  rw [StrLaws.subAt_eq, e1, e2, e3, e4, beq_iff_eq]
  constructor
  · exact fun h => h.2
  · intro h
    refine ⟨?_, h⟩
    have := congrArg List.length h
    rw [List.length_take, List.length_drop] at this
    simp at this; omega
theorem find_col (s : List Nat) : Txt.find (mkStr s) (mkStr [58, 32]) = match fcol s with
  | some i => (i : Int)
  | none => -1 := by
  rcases find_whole (mkStr s) (mkStr [58, 32]) with ⟨h1, h2⟩ | ⟨i, h1, h2, h3⟩
  · cases e : fcol s with
    | none => exact h1
    | some i => exact absurd ((col_at s i).mpr (fcol_some e).1) (h2 i)
  · have q := (col_at s i).mp h2
    cases e : fcol s with
    | none => exact absurd q (fcol_none e i)
    | some j =>
      obtain ⟨j1, j2⟩ := fcol_some e
      have : i = j := by
        rcases Nat.lt_trichotomy i j with h | h | h
        · exact absurd q (j2 i h)
        · exact h
        · exact absurd ((col_at s j).mpr j1) (h3 j h)
      rw [h1, this]
theorem fcol_name : ∀ {n r : List Nat}, 58 ∉ n → fcol (n ++ 58 :: 32 :: r) = some n.length
  | [], r, _ => by simp [fcol]
  | c :: n, r, h => by
    have h1 : c ≠ 58 := fun z => h (by rw [z]; exact List.mem_cons_self)
    rw [List.cons_append, fcol, if_neg (by simp [h1]), fcol_name fun z => h (List.mem_cons_of_mem _ z)]
    rfl
/-- what stands between the ends -/
def mid (s : List Nat) : List Nat := (s.drop 1).take (s.length - 2)
theorem mid_eq {a b : Nat} {t : List Nat} : mid (a :: (t ++ [b])) = t := by simp [mid]
theorem ends_eq {s : List Nat} {a b : Nat} (h2 : ¬ s.length < 2) (ha : s.head? = some a) (hb : s.getLast? = some b) : s = a :: (mid s ++ [b]) := by
  cases s with
  | nil => cases ha
  | cons c r =>
    cases ha
    obtain ⟨ys, e⟩ := List.getLast?_eq_some_iff.mp hb
    cases ys with
    | nil => simp at e; rw [e.2] at h2; exact absurd (by simp) h2
    | cons d ys =>
      simp at e
      rw [e.2, mid_eq]
def koF (b : List Nat → Option Kd) (s : List Nat) : Option (List Nat × Kd) := match fcol s with
  | none => none
  | some i => match b (s.drop (i + 2)) with
    | none => none
    | some k => some (s.take i, k)
def koFs (b : List Nat → Option Kd) : List (List Nat) → Option (List (List Nat × Kd))
  | [] => some []
  | s :: r => match koF b s with
    | none => none
    | some q => match koFs b r with
      | none => none
      | some l => some (q :: l)
def koD : Nat → List Nat → Option Kd
  | 0, _ => none
  | n + 1, s => if s ∈ [sInt, sText, sBool] then some (.leaf s)
    else if s.length < 2 then none
    else if s.getLast? = some 63 then (match koD n s.dropLast with
      | none => none
      | some k => if isOpt k = true then none else some (.one true k))
    else if s.head? = some 91 ∧ s.getLast? = some 93 then (match koD n (mid s) with
      | none => none
      | some k => some (.one false k))
    else if ¬ (s.head? = some 123 ∧ s.getLast? = some 125) then none
    else match koFs (koD n) (fz [] [] 0 (mid s)) with
      | none => none
      | some l => some (.recd (fsOf l))
theorem koF_sound {b : List Nat → Option Kd} (hb : ∀ s k, b s = some k → shw k = s) {s : List Nat} {q : List Nat × Kd} (h : koF b s = some q) : shwF q = s := by
  unfold koF at h
  cases e : fcol s with
  | none => rw [e] at h; cases h
  | some i =>
    rw [e] at h
    cases e2 : b (s.drop (i + 2)) with
    | none => simp only [e2] at h; cases h
    | some k =>
      simp only [e2] at h
      cases h
      have h1 := (fcol_some e).1
      have h2 := take2 h1
      unfold shwF
      show s.take i ++ [58, 32] ++ shw k = s
      rw [hb _ _ e2]
      conv => rhs; rw [← List.take_append_drop i s, h2, List.drop_drop]
      simp
theorem koFs_sound {b : List Nat → Option Kd} (hb : ∀ s k, b s = some k → shw k = s) : ∀ {ps : List (List Nat)} {l : List (List Nat × Kd)}, koFs b ps = some l → l.map shwF = ps
  | [], l, h => by cases h; rfl
  | s :: r, l, h => by
    unfold koFs at h
    cases e : koF b s with
    | none => rw [e] at h; cases h
    | some q =>
      rw [e] at h
      cases e2 : koFs b r with
      | none => simp only [e2] at h; cases h
      | some l2 =>
        simp only [e2] at h
        cases h
        rw [List.map_cons, koF_sound hb e, koFs_sound hb e2]
theorem koD_sound : ∀ (n : Nat) (s : List Nat) (k : Kd), koD n s = some k → shw k = s
  | 0, _, _, h => by cases h
  | n + 1, s, k, h => by
    have ih := koD_sound n
    unfold koD at h
    split at h
    · cases h; simp [shw]
    · split at h
      · cases h
      · rename_i c1 c2
        split at h
        · rename_i c3
          obtain ⟨ys, e⟩ := List.getLast?_eq_some_iff.mp c3
          cases e2 : koD n s.dropLast with
          | none => rw [e2] at h; cases h
          | some a =>
            simp only [e2] at h
            split at h
            · cases h
            · cases h
              rw [shw_t, ih _ _ e2, e]
              simp
        · split at h
          · rename_i c4
            cases e2 : koD n (mid s) with
            | none => rw [e2] at h; cases h
            | some a =>
              simp only [e2] at h
              cases h
              rw [shw_f, ih _ _ e2, ← ends_eq c2 c4.1 c4.2]
          · split at h
            · cases h
            · rename_i c5
              have c5 := Classical.not_not.mp c5
              cases e2 : koFs (koD n) (fz [] [] 0 (mid s)) with
              | none => rw [e2] at h; cases h
              | some l =>
                simp only [e2] at h
                cases h
                have j := fz_join _ (mid s) [] [] 0 (Nat.le_refl _)
                have j2 : joinL [44, 32] (([] : List (List Nat)) ++ [[]]) = [] := rfl
                rw [j2, List.nil_append] at j
                rw [shw_rec, flds, koFs_sound ih e2, j, ← ends_eq c2 c5.1 c5.2]
/-- the brackets that open, and the marks -/
def opn (s : List Nat) : Nat := s.countP fun c => decide (c ∈ [91, 123, 63])
/-- the colons -/
def cln (s : List Nat) : Nat := s.countP fun c => decide (c = 58)
theorem opn_app {a b : List Nat} : opn (a ++ b) = opn a + opn b := List.countP_append
theorem col_app {a b : List Nat} : cln (a ++ b) = cln a + cln b := List.countP_append
theorem opn_low {s : List Nat} (h : ∀ c ∈ s, c ∈ abc) : opn s = 0 := List.countP_eq_zero.mpr fun c hc => by
  have := h c hc
  simp
  refine ⟨?_, ?_, ?_⟩ <;> rintro rfl <;> exact absurd this (by decide)
theorem col_low {s : List Nat} (h : ∀ c ∈ s, c ∈ abc) : cln s = 0 := List.countP_eq_zero.mpr fun c hc => by
  have := h c hc
  simp
  rintro rfl; exact absurd this (by decide)
theorem opn_jl : ∀ l : List (List Nat), opn (joinL [44, 32] l) = (l.map opn).sum
  | [] => rfl
  | [x] => by simp [joinL]
  | x :: y :: r => by
    have := opn_jl (y :: r)
    have e : opn [44, 32] = 0 := by decide
    rw [joinL, opn_app, opn_app, this, e]
    simp
theorem col_jl : ∀ l : List (List Nat), cln (joinL [44, 32] l) = (l.map cln).sum
  | [] => rfl
  | [x] => by simp [joinL]
  | x :: y :: r => by
    have := col_jl (y :: r)
    have e : cln [44, 32] = 0 := by decide
    rw [joinL, col_app, col_app, this, e]
    simp
mutual
theorem shw_opn : ∀ k, Wf k → opn (shw k) + (lv k).length ≤ (lv k).length * dp k
  | .leaf w, h => by
    simp only [Wf, List.mem_cons, List.not_mem_nil, or_false] at h
    rcases h with rfl | rfl | rfl <;> simp [shw, lv, dp] <;> decide
  | .one o a, h => by
    have hp := lv_pos (.one o a) h
    simp only [Wf] at h
    have ih := shw_opn a h.2
    have e : (lv (.one o a)).length = (lv a).length := by simp [lv]
    rw [e] at hp ⊢
    simp only [dp, Nat.mul_add, Nat.mul_one]
    cases o with
    | true =>
      have e1 : opn [63] = 1 := by decide
      rw [shw_t, opn_app, e1]; omega
    | false =>
      have e1 : opn [91] = 1 := by decide
      have e2 : opn [93] = 0 := by decide
      rw [show shw (.one false a) = [91] ++ (shw a ++ [93]) by simp [shw], opn_app, opn_app, e1, e2]; omega
  | .recd fs, h => by
    have hp := lv_pos (.recd fs) h
    simp only [Wf] at h
    have ih := shws_opn fs h.2 (dps fs) (Nat.le_refl _)
    have e1 : opn [123] = 1 := by decide
    have e2 : opn [125] = 0 := by decide
    simp only [lv] at hp ⊢
    rw [show shw (.recd fs) = [123] ++ (joinL [44, 32] (shws fs) ++ [125]) by simp [shw], opn_app, opn_app, e1, e2, opn_jl]
    simp only [dp, Nat.mul_add, Nat.mul_one]
    omega
theorem shws_opn : ∀ fs, Wfs fs → ∀ D, dps fs ≤ D → ((shws fs).map opn).sum + (lvs fs).length ≤ (lvs fs).length * D
  | .nil, _, D, _ => by simp [shws, lvs]
  | .cons n k fs, h, D, hD => by
    simp only [Wfs] at h
    simp only [dps] at hD
    have i1 := shw_opn k h.2.1
    have i2 := shws_opn fs h.2.2 D (by omega)
    have e : (lvs (.cons n k fs)).length = (lv k).length + (lvs fs).length := by simp [lvs]
    have e1 : opn [58, 32] = 0 := by decide
    rw [e, Nat.add_mul]
    have m : (lv k).length * dp k ≤ (lv k).length * D := Nat.mul_le_mul_left _ (by omega)
    simp only [shws, List.map_cons, List.sum_cons]
    rw [opn_app, opn_app, opn_low h.1.2, e1]
    omega
end
mutual
theorem shw_col : ∀ k, Wf k → cln (shw k) ≤ (lv k).length * dp k
  | .leaf w, h => by
    simp only [Wf, List.mem_cons, List.not_mem_nil, or_false] at h
    rcases h with rfl | rfl | rfl <;> simp [shw, lv, dp] <;> decide
  | .one o a, h => by
    simp only [Wf] at h
    have ih := shw_col a h.2
    have e : (lv (.one o a)).length = (lv a).length := by simp [lv]
    rw [e]
    simp only [dp, Nat.mul_add, Nat.mul_one]
    cases o with
    | true =>
      have e1 : cln [63] = 0 := by decide
      rw [shw_t, col_app, e1]; omega
    | false =>
      have e1 : cln [91] = 0 := by decide
      have e2 : cln [93] = 0 := by decide
      rw [show shw (.one false a) = [91] ++ (shw a ++ [93]) by simp [shw], col_app, col_app, e1, e2]; omega
  | .recd fs, h => by
    simp only [Wf] at h
    have ih := shws_col fs h.2 (dps fs) (Nat.le_refl _)
    have e1 : cln [123] = 0 := by decide
    have e2 : cln [125] = 0 := by decide
    simp only [lv]
    rw [show shw (.recd fs) = [123] ++ (joinL [44, 32] (shws fs) ++ [125]) by simp [shw], col_app, col_app, e1, e2, col_jl]
    simp only [dp, Nat.mul_add, Nat.mul_one]
    omega
theorem shws_col : ∀ fs, Wfs fs → ∀ D, dps fs ≤ D → ((shws fs).map cln).sum ≤ (lvs fs).length * D + (lvs fs).length
  | .nil, _, D, _ => by simp [shws, lvs]
  | .cons n k fs, h, D, hD => by
    simp only [Wfs] at h
    simp only [dps] at hD
    have hp := lv_pos k h.2.1
    have i1 := shw_col k h.2.1
    have i2 := shws_col fs h.2.2 D (by omega)
    have e : (lvs (.cons n k fs)).length = (lv k).length + (lvs fs).length := by simp [lvs]
    have e1 : cln [58, 32] = 1 := by decide
    rw [e, Nat.add_mul]
    have m : (lv k).length * dp k ≤ (lv k).length * D := Nat.mul_le_mul_left _ (by omega)
    simp only [shws, List.map_cons, List.sum_cons]
    rw [col_app, col_app, col_low h.1.2, e1]
    omega
end
mutual
/-- few colons: no record has many fields -/
theorem col_px : ∀ k : Kd, cln (shw k) ≤ 1000 → PX 1000 (enc k)
  | .leaf k, _ => by
    simp only [enc]
    exact PX.tup (by show 1 ≤ 1000; decide) fun x hx => by rw [List.mem_singleton] at hx; subst hx; exact .str _
  | .one o a, w => by
    simp only [enc]
    have h := col_px a (by
      cases o with
      | true => rw [shw_t, col_app] at w; omega
      | false => rw [show shw (.one false a) = [91] ++ (shw a ++ [93]) by simp [shw], col_app, col_app] at w; omega)
    refine PX.tup (by show 2 ≤ 1000; decide) fun x hx => ?_
    simp only [List.mem_cons, List.not_mem_nil, or_false] at hx
    rcases hx with rfl | rfl
    · exact .str _
    · exact h
  | .recd fs, w => by
    rw [show shw (.recd fs) = [123] ++ (joinL [44, 32] (shws fs) ++ [125]) by simp [shw], col_app, col_app, col_jl] at w
    obtain ⟨h1, h2⟩ := cols_px fs (by omega)
    simp only [enc]
    refine PX.tup (by show 2 ≤ 1000; decide) fun x hx => ?_
    simp only [List.mem_cons, List.not_mem_nil, or_false] at hx
    rcases hx with rfl | rfl
    · exact .str _
    · exact PX.tup (by omega) h2
theorem cols_px : ∀ fs : Fs, ((shws fs).map cln).sum ≤ 1000 → (encs fs).length ≤ ((shws fs).map cln).sum ∧ ∀ x ∈ encs fs, PX 1000 x
  | .nil, _ => ⟨by simp [encs], fun x hx => by simp [encs] at hx⟩
  | .cons n k fs, w => by
    simp only [shws, List.map_cons, List.sum_cons] at w ⊢
    rw [col_app, col_app, show cln [58, 32] = 1 by decide] at w
    rw [col_app, col_app, show cln [58, 32] = 1 by decide]
    have h1 := col_px k (by omega)
    obtain ⟨h2, h3⟩ := cols_px fs (by omega)
    simp only [encs]
    refine ⟨by simp; omega, fun x hx => ?_⟩
    rcases List.mem_cons.mp hx with rfl | hx
    · refine PX.tup (by show 2 ≤ 1000; decide) fun x hx => ?_
      simp only [List.mem_cons, List.not_mem_nil, or_false] at hx
      rcases hx with rfl | rfl
      · exact .str _
      · exact h1
    · exact h3 x hx
end
/-! ### what is_schema says of a kind -/
theorem nameB_low {s : List Nat} (h : nameB (.str s) = true) : Low s := by
  simp only [nameB, Bool.and_eq_true, decide_eq_true_eq, List.all_eq_true] at h
  exact ⟨⟨fun z => by rw [z] at h; simp at h, h.1.2⟩, h.2⟩
theorem low_nameB {s : List Nat} (h : Low s) : nameB (.str s) = true := by
  simp only [nameB, Bool.and_eq_true, decide_eq_true_eq, List.all_eq_true]
  refine ⟨⟨?_, h.1.2⟩, h.2⟩
  have := h.1.1
  cases s with
  | nil => exact absurd rfl this
  | cons _ _ => simp
theorem leafW_iff {k : List Nat} : leafW k = true ↔ k ∈ [sInt, sText, sBool] := by
  unfold leafW
  simp only [Bool.or_eq_true, beq_iff_eq, List.mem_cons, List.not_mem_nil, or_false]
  constructor
  · rintro (h | h | h) <;> simp [h]
  · rintro (h | h | h) <;> simp [h]
mutual
theorem cnt_any : ∀ (k : Kd) (n : Nat), cntD n (enc k) < 1000 → Wf k ∧ dp k ≤ n ∧ (lv k).length ≤ cntD n (enc k)
  | k, 0, h => by exact absurd h (by simp [cntD])
  | .leaf k, n + 1, h => by
    have e : partsD (enc (.leaf k)) = if leafW k = true then some [] else none := rfl
    split at e
    · rename_i q
      rw [cntD_succ e]
      exact ⟨by simp only [Wf]; exact leafW_iff.mp q, by simp only [dp]; omega, by simp [lv]⟩
    · rw [cnt_bad e] at h; omega
  | .one o a, n + 1, h => by
    cases hp : partsD (enc (.one o a)) with
    | none => rw [cnt_bad hp] at h; omega
    | some ps =>
      have hps : ps = [enc a] ∧ (o = true → isOpt a = false) := by
        cases o with
        | false =>
          have e : partsD (enc (.one false a)) = some [enc a] := rfl
          rw [e] at hp
          exact ⟨(Option.some.inj hp).symm, fun h => nomatch h⟩
        | true =>
          have e : partsD (enc (.one true a)) = if (isTupD (enc a) && !optHd (enc a)) = true then some [enc a] else none := rfl
          rw [e] at hp
          split at hp
          · rename_i q
            refine ⟨(Option.some.inj hp).symm, fun _ => ?_⟩
            rw [Bool.and_eq_true] at q
            cases a with
            | leaf k => rfl
            | one o b =>
              cases o with
              | false => rfl
              | true =>
                have : optHd (enc (.one true b)) = true := rfl
                rw [this] at q
                exact absurd q.2 (by decide)
            | recd fs => rfl
          · cases hp
      obtain ⟨rfl, ho⟩ := hps
      rw [cntD_succ hp] at h ⊢
      have es : ([enc a].map fun p => cntD n p).sum = cntD n (enc a) := by simp
      have ie : ([enc a] : List D).isEmpty = false := rfl
      rw [ie, if_neg Bool.false_ne_true, es] at h ⊢
      obtain ⟨q1, q2, q3⟩ := cnt_any a n h
      refine ⟨by simp only [Wf]; exact ⟨ho, q1⟩, by simp only [dp]; omega, by simp only [lv, List.length_map]; exact q3⟩
  | .recd fs, n + 1, h => by
    cases hp : partsD (enc (.recd fs)) with
    | none => rw [cnt_bad hp] at h; omega
    | some ps =>
      have e : partsD (enc (.recd fs)) = if fieldsB (.tup (encs fs)) = true then some ((encs fs).map fsec) else none := rfl
      rw [e] at hp
      split at hp
      · rename_i q
        have hps := (Option.some.inj hp).symm
        subst hps
        have q0 := q
        simp only [fieldsB, Bool.and_eq_true, decide_eq_true_eq] at q
        have nd : ((toL fs).map Prod.fst).Nodup := by
          have := q.2
          have e2 : ((encs fs).map fnm) = ((toL fs).map Prod.fst) := encs_fnm fs
          rw [e2] at this
          exact this
        have e3 : partsD (enc (.recd fs)) = some ((encs fs).map fsec) := by rw [e, if_pos q0]
        rw [cntD_succ e3] at h ⊢
        have hl : (encs fs).length = (toL fs).length := by rw [encs_eq, List.length_map]
        have hne : fs ≠ .nil := fun z => by rw [z] at q; exact absurd q.1.1.1 (by decide)
        have ne : ((encs fs).map fsec).isEmpty = false := by
          cases fs with
          | nil => exact absurd rfl hne
          | cons n k fs => rfl
        have es : (((encs fs).map fsec).map fun p => cntD n p) = (toL fs).map fun p => cntD n (enc p.2) := by rw [encs_fsec, List.map_map]; rfl
        rw [ne, if_neg Bool.false_ne_true, es] at h ⊢
        obtain ⟨q1, q2, q3⟩ := cnts_any fs n (List.all_eq_true.mp q.1.2) h
        exact ⟨by simp only [Wf]; exact ⟨⟨hne, nd, by omega⟩, q1⟩, by simp only [dp]; omega, by simp only [lv]; exact q3⟩
      · cases hp
theorem cnts_any : ∀ (fs : Fs) (n : Nat), (∀ d ∈ encs fs, fieldB d = true) → ((toL fs).map fun p => cntD n (enc p.2)).sum < 1000 → Wfs fs ∧ dps fs ≤ n ∧ (lvs fs).length ≤ ((toL fs).map fun p => cntD n (enc p.2)).sum
  | .nil, n, _, _ => ⟨by simp only [Wfs], by simp [dps], by simp [lvs]⟩
  | .cons x k fs, n, w, h => by
    simp only [toL, List.map_cons, List.sum_cons] at h ⊢
    have wx : nameB (.str x) = true := w (.tup [.str x, enc k]) (by simp only [encs]; exact List.mem_cons_self)
    obtain ⟨q1, q2, q3⟩ := cnt_any k n (by omega)
    obtain ⟨r1, r2, r3⟩ := cnts_any fs n (fun d hd => w d (by simp only [encs]; exact List.mem_cons_of_mem _ hd)) (by omega)
    refine ⟨by simp only [Wfs]; exact ⟨nameB_low wx, q1, r1⟩, by simp only [dps]; omega, by simp only [lvs, List.length_append, List.length_map]; omega⟩
end
mutual
theorem cnt_of : ∀ (k : Kd) (n : Nat), Wf k → dp k ≤ n → cntD n (enc k) = (lv k).length
  | .leaf k, 0, _, h => by simp [dp] at h
  | .one o a, 0, _, h => by simp [dp] at h
  | .recd fs, 0, _, h => by simp [dp] at h
  | .leaf k, n + 1, w, h => by
    simp only [Wf] at w
    have e : partsD (enc (.leaf k)) = some [] := by
      show (if leafW k = true then some [] else none) = _
      rw [if_pos (leafW_iff.mpr w)]
    rw [cntD_succ e]
    simp [lv]
  | .one o a, n + 1, w, h => by
    simp only [Wf] at w
    simp only [dp] at h
    have e : partsD (enc (.one o a)) = some [enc a] := by
      cases o with
      | false => rfl
      | true =>
        show (if (isTupD (enc a) && !optHd (enc a)) = true then some [enc a] else none) = _
        have ho := w.1 rfl
        have q : (isTupD (enc a) && !optHd (enc a)) = true := by
          cases a with
          | leaf k =>
            have w2 := w.2
            simp only [Wf, List.mem_cons, List.not_mem_nil, or_false] at w2
            rcases w2 with rfl | rfl | rfl <;> rfl
          | one o b =>
            cases o with
            | false => rfl
            | true => cases ho
          | recd fs => rfl
        rw [if_pos q]
    rw [cntD_succ e]
    have := cnt_of a n w.2 (by omega)
    simp [lv, this]
  | .recd fs, n + 1, w, h => by
    simp only [Wf] at w
    simp only [dp] at h
    have hl : (encs fs).length = (toL fs).length := by rw [encs_eq, List.length_map]
    have q : fieldsB (.tup (encs fs)) = true := by
      simp only [fieldsB, Bool.and_eq_true, decide_eq_true_eq, List.all_eq_true]
      refine ⟨⟨⟨?_, by omega⟩, encs_fld fs w.2⟩, by rw [encs_fnm]; exact w.1.2.1⟩
      cases fs with
      | nil => exact absurd rfl w.1.1
      | cons _ _ _ => simp [encs]
    have e : partsD (enc (.recd fs)) = some ((encs fs).map fsec) := by
      show (if fieldsB (.tup (encs fs)) = true then some ((encs fs).map fsec) else none) = _
      rw [if_pos q]
    rw [cntD_succ e]
    have ne : ((encs fs).map fsec).isEmpty = false := by
      cases fs with
      | nil => exact absurd rfl w.1.1
      | cons n k fs => rfl
    have es : (((encs fs).map fsec).map fun p => cntD n p) = (toL fs).map fun p => cntD n (enc p.2) := by rw [encs_fsec, List.map_map]; rfl
    rw [ne, if_neg Bool.false_ne_true, es, cnts_of fs n w.2 (by omega)]
    simp [lv]
theorem cnts_of : ∀ (fs : Fs) (n : Nat), Wfs fs → dps fs ≤ n → ((toL fs).map fun p => cntD n (enc p.2)).sum = (lvs fs).length
  | .nil, n, _, _ => by simp [toL, lvs]
  | .cons x k fs, n, w, h => by
    simp only [Wfs] at w
    simp only [dps] at h
    simp only [toL, List.map_cons, List.sum_cons]
    rw [cnt_of k n w.2.1 (by omega), cnts_of fs n w.2.2 (by omega)]
    simp [lvs]
theorem encs_fld : ∀ fs : Fs, Wfs fs → ∀ d ∈ encs fs, fieldB d = true
  | .nil, _, d, hd => by simp [encs] at hd
  | .cons x k fs, w, d, hd => by
    simp only [Wfs] at w
    simp only [encs] at hd
    rcases List.mem_cons.mp hd with rfl | hd
    · exact low_nameB w.1
    · exact encs_fld fs w.2.2 d hd
end
/-- the right schemas -/
def RS (k : Kd) : Prop := (∃ fs, k = .recd fs) ∧ Wf k ∧ dp k ≤ 8 ∧ (lv k).length ≤ 24
theorem isS_any {k : Kd} : isS (enc k) = true ↔ RS k := by
  constructor
  · intro h
    have h2 : isS (enc k) = match enc k with
      | .tup (x :: _) => strB x sRec && decide (cntD 8 (enc k) ≤ 24)
      | _ => false := rfl
    rw [h2] at h
    have hc : cntD 8 (enc k) ≤ 24 := by
      split at h
      · rw [Bool.and_eq_true, decide_eq_true_eq] at h; exact h.2
      · cases h
    obtain ⟨q1, q2, q3⟩ := cnt_any k 8 (by omega)
    refine ⟨?_, q1, q2, by omega⟩
    cases k with
    | leaf w =>
      simp only [Wf, List.mem_cons, List.not_mem_nil, or_false] at q1
      rcases q1 with rfl | rfl | rfl <;> exact absurd h (by decide)
    | one o a => cases o <;> cases h
    | recd fs => exact ⟨fs, rfl⟩
  · rintro ⟨⟨fs, rfl⟩, w, d, l⟩
    show decide (cntD 8 (enc (.recd fs)) ≤ 24) = true
    rw [cnt_of _ 8 w d]
    exact decide_eq_true l
/-- the law's answer -/
def duA (n : Nat) (s : List Nat) : Option Kd := match koD n s with
  | none => none
  | some k => if isS (enc k) = true then some k else none
theorem koFs_of {b : List Nat → Option Kd} : ∀ {l : List (List Nat × Kd)}, (∀ q ∈ l, Low q.1 ∧ b (shw q.2) = some q.2) → koFs b (l.map shwF) = some l
  | [], _ => rfl
  | q :: l, h => by
    have h1 := h q List.mem_cons_self
    have e : koF b (shwF q) = some q := by
      unfold koF shwF
      have h58 : 58 ∉ q.1 := fun z => absurd (h1.1.2 58 z) (by decide)
      have e1 : q.1 ++ [58, 32] ++ shw q.2 = q.1 ++ 58 :: 32 :: shw q.2 := by simp
      have e2 : (q.1 ++ 58 :: 32 :: shw q.2).drop (q.1.length + 2) = shw q.2 := by
        rw [← List.drop_drop, List.drop_left]; rfl
      rw [e1, fcol_name h58]
      simp only [e2, h1.2, List.take_left]
    rw [List.map_cons]
    unfold koFs
    rw [e, koFs_of fun p hp => h p (List.mem_cons_of_mem _ hp)]
theorem shw_pos : ∀ k, Wf k → 1 ≤ (shw k).length
  | .leaf w, h => by
    simp only [Wf, List.mem_cons, List.not_mem_nil, or_false] at h
    rcases h with rfl | rfl | rfl <;> simp [shw, sInt, sText, sBool]
  | .one o a, h => by cases o <;> simp [shw]
  | .recd fs, h => by simp [shw]
theorem shw_mem : ∀ {fs : Fs} {q : List Nat × Kd}, Wfs fs → q ∈ toL fs → Low q.1 ∧ Wf q.2
  | .nil, _, _, h => by simp [toL] at h
  | .cons n k fs, q, w, h => by
    simp only [Wfs] at w
    simp only [toL] at h
    rcases List.mem_cons.mp h with rfl | h
    · exact ⟨w.1, w.2.1⟩
    · exact shw_mem w.2.2 h
theorem mem_sum : ∀ {l : List Nat} {x : Nat}, x ∈ l → x ≤ l.sum
  | [], _, h => nomatch h
  | y :: l, x, h => by
    rw [List.sum_cons]
    rcases List.mem_cons.mp h with rfl | h
    · omega
    · have := mem_sum h; omega
theorem opn_mem {l : List (List Nat × Kd)} {q : List Nat × Kd} (h : q ∈ l) : opn (shw q.2) ≤ opn (flds l) := by
  rw [flds, opn_jl]
  have h1 : opn (shw q.2) ≤ opn (shwF q) := by unfold shwF; rw [opn_app]; omega
  have h2 : opn (shwF q) ≤ ((l.map shwF).map opn).sum := mem_sum (by
    rw [List.map_map]; exact List.mem_map.mpr ⟨q, h, rfl⟩)
  omega
theorem last_eq {a b : Nat} {t : List Nat} : (a :: (t ++ [b])).getLast? = some b := List.getLast?_eq_some_iff.mpr ⟨a :: t, rfl⟩
theorem koD_of : ∀ (n : Nat) (k : Kd), Wf k → opn (shw k) < n → koD n (shw k) = some k
  | 0, _, _, h => absurd h (Nat.not_lt_zero _)
  | n + 1, .leaf w, h, _ => by
    simp only [Wf] at h
    unfold koD
    rw [show shw (.leaf w) = w by simp [shw], if_pos h]
  | n + 1, .one true a, h, ho => by
    simp only [Wf] at h
    have hp := shw_pos a h.2
    rw [shw_t] at ho ⊢
    rw [opn_app, show opn [63] = 1 by decide] at ho
    have nl : shw a ++ [63] ∉ [sInt, sText, sBool] := fun z => by
      have e : (shw a ++ [63]).getLast? = some 63 := by simp
      simp only [List.mem_cons, List.not_mem_nil, or_false] at z
      rcases z with z | z | z <;> rw [z] at e <;> exact absurd e (by decide)
    unfold koD
    rw [if_neg nl, if_neg (by simp; omega), if_pos (by simp), List.dropLast_concat, koD_of n a h.2 (by omega)]
    have h1 : isOpt a = false := h.1 trivial
    simp [h1]
  | n + 1, .one false a, h, ho => by
    simp only [Wf] at h
    rw [shw_f] at ho ⊢
    have ho2 : opn (91 :: (shw a ++ [93])) = opn [91] + (opn (shw a) + opn [93]) := by rw [← opn_app, ← opn_app]; rfl
    rw [ho2, show opn [91] = 1 by decide] at ho
    have nl : 91 :: (shw a ++ [93]) ∉ [sInt, sText, sBool] := fun z => by
      simp only [List.mem_cons, List.not_mem_nil, or_false] at z
      rcases z with z | z | z <;> (injection z with z _; exact absurd z (by decide))
    have gl : (91 :: (shw a ++ [93])).getLast? = some 93 := last_eq
    unfold koD
    rw [if_neg nl, if_neg (by simp), if_neg (by rw [gl]; decide), if_pos ⟨rfl, gl⟩, mid_eq, koD_of n a h.2 (by omega)]
  | n + 1, .recd fs, h, ho => by
    simp only [Wf] at h
    have e0 : shw (.recd fs) = 123 :: (flds (toL fs) ++ [125]) := by rw [← shw_rec, fs_toL]
    rw [e0] at ho ⊢
    have ho2 : opn (123 :: (flds (toL fs) ++ [125])) = opn [123] + (opn (flds (toL fs)) + opn [125]) := by rw [← opn_app, ← opn_app]; rfl
    rw [ho2, show opn [123] = 1 by decide] at ho
    have nl : 123 :: (flds (toL fs) ++ [125]) ∉ [sInt, sText, sBool] := fun z => by
      simp only [List.mem_cons, List.not_mem_nil, or_false] at z
      rcases z with z | z | z <;> (injection z with z _; exact absurd z (by decide))
    have gl : (123 :: (flds (toL fs) ++ [125])).getLast? = some 125 := last_eq
    unfold koD
    rw [if_neg nl, if_neg (by simp), if_neg (by rw [gl]; decide), if_neg (by rw [gl]; simp), if_neg (by rw [gl]; simp), mid_eq]
    have hq : ∀ q ∈ toL fs, Low q.1 ∧ Wf q.2 := fun q hq => shw_mem h.2 hq
    have hf : fz [] [] 0 (flds (toL fs)) = (toL fs).map shwF := by
      cases e : toL fs with
      | nil => cases fs with
        | nil => exact absurd rfl h.1.1
        | cons _ _ _ => simp [toL] at e
      | cons q l =>
        rw [flds, join_tl]
        have := fz_flds l q [] fun p hp => hq p (by rw [e]; exact hp)
        rw [this, List.nil_append]
    rw [hf, koFs_of fun q hm => ⟨(hq q hm).1, koD_of n q.2 (hq q hm).2 (by have := opn_mem hm; omega)⟩]
    simp only [fs_toL]
theorem duA_iff {n : Nat} {s : List Nat} {k : Kd} (h : opn s < n) : duA n s = some k ↔ RS k ∧ s = shw k := by
  unfold duA
  constructor
  · intro z
    cases e : koD n s with
    | none => rw [e] at z; cases z
    | some a =>
      simp only [e] at z
      split at z
      · rename_i q
        cases z
        exact ⟨isS_any.mp q, (koD_sound n s k e).symm⟩
      · cases z
  · rintro ⟨r, rfl⟩
    rw [koD_of n k r.2.1 h]
    simp only [isS_any.mpr r, if_true]
theorem rdA_iff {s : List Nat} {k : Kd} : rdA s = some k ↔ RS k ∧ s = shw k := by
  unfold rdA
  constructor
  · intro z
    split at z
    · cases z
    · split at z
      · rename_i k' e
        split at z
        · rename_i q
          cases z
          exact ⟨isS_any.mp q, by rw [pk_sound (pb_sound 9) e, List.append_nil]⟩
        · cases z
      · cases z
  · rintro ⟨r, rfl⟩
    have ho : okdB 0 (shw k) = true := (okdB_iff _ _).mpr ((shw_okd k r.2.1).2 0 (by have := r.2.2.1; omega))
    have hp : pKindOf (pBare 9) (shw k) = .ok k [] := by
      have := pk_of (b := pBare 9) (r := []) r.2.1 stp_nil fun k' r' h1 h2 h3 h4 => pb_of 9 k' r' h1 h2 (by have := r.2.2.1; omega) h4
      rw [List.append_nil] at this
      exact this
    rw [ho]
    simp only [hp, isS_any.mpr r, if_true]
theorem rd_du {n : Nat} {s : List Nat} (h : opn s < n) : rdA s = duA n s := Option.ext fun k => by rw [rdA_iff, duA_iff h]
end DL

namespace DL
open PySem PySem.Spec PyProof.Rows L2
/-! ## 71. _law_kind_of -/
def b_koX (l_kind_of : Nat) : Ss :=
 (.c (.set 5 (.mt .sfind (.var 4) (.c (.con (.str [58, 32])) .n)))
 (.c (.ite (.cmp .lt (.var 5) (.con (.int 0))) (.c (.fz 3) (.c (.ret (.con .non))
 .n)) .n)
 (.c (.set 2 (.call l_kind_of (.c (.sl true (.var 4) (.bin true .add (.var 5) (.con (.int 2))) .no) .n)))
 (.c (.ite (.cmp .isn (.var 2) (.con .non)) (.c (.fz 3) (.c (.ret (.con .non))
 .n)) .n)
 (.c (.ex (.mt .append (.var 3) (.c (.tup (.c (.sl true (.var 4) .no (.var 5)) (.c (.var 2) .n))) .n)))
 .n)))))
def b_koR (l_kind_of l_fields_of : Nat) : Ss :=
 (.c (.set 3 (.lst false .n))
 (.c (.for_ (.n 4) (.of (.call l_fields_of (.c (.sl true (.var 0) (.con (.int 1)) (.neg (.con (.int 1)))) .n))) (b_koX l_kind_of))
 (.c (.fz 3) (.c (.ret (.tup (.c (.con (.str sRec)) (.c (.bf true .tuple (.c (.var 3) .n)) .n))))
 .n))))
def b_koO (l_kind_of : Nat) : Ss := (.c (.set 2 (.call l_kind_of (.c (.sl true (.var 0) .no (.neg (.con (.int 1)))) .n)))
 (.c (.ite (.bo false (.c (.cmp .isn (.var 2) (.con .non)) (.c (.cmp .eq (.idx (.var 2) (.con (.int 0))) (.con (.str sOpt))) .n))) (.c (.ret (.con .non))
 .n) .n)
 (.c (.ret (.tup (.c (.con (.str sOpt)) (.c (.var 2) .n))))
 .n)))
def b_koL (l_kind_of : Nat) : Ss := (.c (.set 2 (.call l_kind_of (.c (.sl true (.var 0) (.con (.int 1)) (.neg (.con (.int 1)))) .n)))
 (.c (.ite (.cmp .isn (.var 2) (.con .non)) (.c (.ret (.con .non))
 .n) .n)
 (.c (.ret (.tup (.c (.con (.str sList)) (.c (.var 2) .n))))
 .n)))
def b_koM (l_kind_of l_fields_of : Nat) : Ss :=
 (.c (.ite (.cmp .eq (.idx (.var 0) (.neg (.con (.int 1)))) (.con (.str [63]))) (b_koO l_kind_of) .n)
 (.c (.ite (.cmp .eq (.var 1) (.con (.str [91, 93]))) (b_koL l_kind_of) .n)
 (.c (.ite (.cmp .ne (.var 1) (.con (.str [123, 125]))) (.c (.ret (.con .non))
 .n) .n)
 (b_koR l_kind_of l_fields_of))))
def b_law_kind_of (l_kind_of l_fields_of : Nat) : Ss :=
 (.c (.ite (.cmp .inn (.var 0) (.tup (.c (.con (.str sInt)) (.c (.con (.str sText)) (.c (.con (.str sBool)) .n))))) (.c (.ret (.tup (.c (.var 0) .n)))
 .n) .n)
 (.c (.ite (.cmp .lt (.bf true .len (.c (.var 0) .n)) (.con (.int 2))) (.c (.ret (.con .non))
 .n) .n)
 (.c (.set 1 (.bin true .add (.idx (.var 0) (.con (.int 0))) (.idx (.var 0) (.neg (.con (.int 1))))))
 (b_koM l_kind_of l_fields_of))))
def optK : Option Kd → D
  | none => .non
  | some k => enc k
def spKo (n : Nat) : SpD := fun ds G Q _ => ∃ s, ds = [.str s] ∧ s.length ≤ 1000000 ∧ opn s < n ∧ Q (optK (koD n s)) G
theorem at_m1 {α : Type} {xs : List α} : atI xs (-1) = xs.getLast? := by
  unfold atI ixN
  cases xs with
  | nil => rfl
  | cons x xs =>
    have e2 : (-1 + ((xs.length : Int) + 1)).toNat = xs.length := by omega
    have e3 : (1 : Int) ≤ (xs.length : Int) + 1 := by omega
    simp [List.getLast?_eq_getElem?, e2, e3]
theorem cut_last {s : List Nat} : cutL s none (some (-1)) = s.dropLast := by
  unfold cutL
  have e : HT.sIx s.length s.length (some (-1)) = s.length - 1 := by unfold HT.sIx; simp; omega
  rw [e, HT.sIx_none, List.drop_zero, Nat.sub_zero, List.dropLast_eq_take]
theorem cut_both {s : List Nat} (h : ¬ s.length < 2) : cutL s (some 1) (some (-1)) = mid s := by
  unfold cutL
  have e : HT.sIx s.length s.length (some (-1)) = s.length - 1 := by unfold HT.sIx; simp; omega
  have e2 : HT.sIx s.length 0 (some 1) = 1 := by unfold HT.sIx; simp; omega
  rw [e, e2, mid, show s.length - 1 - 1 = s.length - 2 by omega]
theorem enc_nn {k : Kd} {H : HD} : cmpD .isn (enc k) .non H = some false := by cases k <;> rfl
theorem enc_hdo {k : Kd} {H : HD} (hl : ∀ w, k = .leaf w → w ∈ [sInt, sText, sBool]) : ∃ t, idxD (enc k) (.int 0) H = some (.str t) ∧ (t == sOpt) = isOpt k := by
  cases k with
  | leaf w =>
    have := hl w rfl
    simp only [List.mem_cons, List.not_mem_nil, or_false] at this
    rcases this with rfl | rfl | rfl <;> exact ⟨_, rfl, rfl⟩
  | one o a => cases o <;> exact ⟨_, rfl, rfl⟩
  | recd fs => exact ⟨_, rfl, rfl⟩
theorem koD_leaf : ∀ {n : Nat} {s w : List Nat}, koD n s = some (.leaf w) → w ∈ [sInt, sText, sBool]
  | 0, _, _, h => by cases h
  | n + 1, s, w, h => by
    unfold koD at h
    split at h
    · rename_i c; cases h; exact c
    · split at h
      · cases h
      · split at h
        · split at h
          · cases h
          · split at h <;> cases h
        · split at h
          · split at h <;> cases h
          · split at h
            · cases h
            · split at h <;> cases h
theorem opn_sub {a b : List Nat} (h : a.Sublist b) : opn a ≤ opn b := h.countP_le
theorem fz_parts {s : List Nat} : (∀ p ∈ fz [] [] 0 s, p.length ≤ s.length ∧ opn p ≤ opn s) ∧ (fz [] [] 0 s).length ≤ s.length + 1 := by
  have j := fz_join _ s [] [] 0 (Nat.le_refl _)
  have j2 : joinL [44, 32] (([] : List (List Nat)) ++ [[]]) = [] := rfl
  rw [j2, List.nil_append] at j
  generalize fz [] [] 0 s = l at j ⊢
  subst j
  refine ⟨fun p hp => ⟨jl_mem hp, ?_⟩, ?_⟩
  · rw [opn_jl]
    exact mem_sum (List.mem_map.mpr ⟨p, hp, rfl⟩)
  · clear j2
    induction l with
    | nil => simp
    | cons x l ih =>
      cases l with
      | nil => simp
      | cons y r => simp only [joinL, List.length_append, List.length_cons] at ih ⊢; simp only [List.length_nil]; omega
theorem ko_loop {Γ : Gam} {kf ff n : Nat} (h1 : Γ.sp kf = spKo n) (h2 : Γ.sp ff = spFz) {E : EndsD} {s : List Nat} {x1 : Option D} {G : HD} (hl2 : ¬ s.length < 2) (hz : s.length ≤ 1000000) (ho : opn (mid s) < n)
    (hQ : E.rt (optK (match koFs (koD n) (fz [] [] 0 (mid s)) with
      | none => none
      | some l => some (.recd (fsOf l)))) G) :
    wSs Γ (b_koR kf ff) E [some (.str s), x1, none, none, none, none] G := by
  have hlim : lim = 16777216 := rfl
  have hml : (mid s).length ≤ s.length := by unfold mid; rw [List.length_take]; simp; omega
  simp_arith [b_koR, b_koX, h1, h2, cut_both hl2]
  intro p hp
  obtain ⟨f1, f2⟩ := fz_parts (s := mid s)
  refine ⟨mid s, rfl, by omega, ?_⟩
  have e3 : ∀ x, delD (updD G p x) p = G := fun x => delD_updD hp
  generalize fz [] [] 0 (mid s) = all at f1 f2 hQ ⊢
  try simp_arith []
  refine wFor_ind (fun xs σ H => ∃ (ps : List (List Nat)) (l : List (List Nat × Kd)) (o2 o4 o5 : Option D), xs = ps.map .str ∧ (∀ q ∈ ps, q ∈ all) ∧ l.length + ps.length = all.length ∧ koFs (koD n) all = (koFs (koD n) ps).map (l ++ ·) ∧
    H = updD G p (.lst (l.map fun q => .tup [.str q.1, enc q.2])) ∧ σ = [some (.str s), x1, o2, some (.ref p), o4, o5]) ?_ ?_ _ _ _ ⟨all, [], none, none, none, rfl, fun _ h => h, by simp, by cases koFs (koD n) all <;> simp, rfl, rfl⟩
  · rintro σ H ⟨ps, l, o2, o4, o5, hx, _, _, he, rfl, rfl⟩
    have : ps = [] := by cases ps <;> first | rfl | cases hx
    subst this
    have he : koFs (koD n) all = some l := by rw [he]; simp [koFs]
    rw [he] at hQ
    simp_arith [updD_same, e3]
    have e : enc (.recd (fsOf l)) = .tup [.str sRec, .tup (l.map fun q => .tup [.str q.1, enc q.2])] := by simp only [enc, encs_of]
    rw [← e]
    exact hQ
  · rintro x xs ih σ H ⟨ps, l, o2, o4, o5, hx, hm, hlen, he, rfl, rfl⟩
    cases ps with
    | nil => cases hx
    | cons q ps =>
      rw [List.map_cons] at hx
      injection hx with h3 h4
      subst h3; subst h4
      obtain ⟨g1, g2⟩ := f1 q (hm q List.mem_cons_self)
      have hpl : l.length < lim := by simp at hlen; omega
      have bad : koF (koD n) q = none → E.rt .non G := fun z => by
        rw [he] at hQ
        unfold koFs at hQ
        rw [z] at hQ
        exact hQ
      simp_arith [find_col]
      cases e : fcol q with
      | none =>
        have z : ((-1 : Int) < 0) := by decide
        simp_arith [z, updD_same, e3]
        exact bad (by unfold koF; rw [e])
      | some i =>
        have hi := fcol_lt e
        have z : (((i : Nat) : Int) < 0) = False := by simp only [eq_iff_iff, iff_false]; omega
        have c1 : cutL q (some ((i : Int) + 2)) none = q.drop (i + 2) := cut_suf (i := (i : Int) + 2) ⟨by omega, by omega⟩
        have c2 : cutL q none (some (i : Int)) = q.take i := cut_pre (i := (i : Int)) ⟨by omega, by omega⟩
        simp_arith [z, c1]
        refine ⟨q.drop (i + 2), rfl, by rw [List.length_drop]; omega, by have := opn_sub (List.drop_sublist (i + 2) q); omega, ?_⟩
        cases e2 : koD n (q.drop (i + 2)) with
        | none =>
          simp_arith [optK, updD_same, e3]
          exact bad (by unfold koF; rw [e]; simp only [e2])
        | some k =>
          simp_arith [optK, enc_nn, updD_same, c2, updD_updD]
          refine And.intro (by rw [List.length_map]; exact hpl) ?_
          refine ih _ _ ⟨ps, l ++ [(q.take i, k)], _, _, _, rfl, fun y hy => hm y (List.mem_cons_of_mem _ hy), by simp at hlen ⊢; omega, ?_, by rw [List.map_append]; rfl, rfl⟩
          rw [he]
          have ek : koF (koD n) q = some (q.take i, k) := by unfold koF; rw [e]; simp only [e2]
          conv => lhs; unfold koFs
          rw [ek]
          cases koFs (koD n) ps <;> simp
theorem kind_of_ok {Γ : Gam} {kf ff n : Nat} (h1 : Γ.sp kf = spKo n) (h2 : Γ.sp ff = spFz) (ds : List D) (G : HD) (QD : KD) (XD : KX) (h : spKo (n + 1) ds G QD XD) : wSs Γ (b_law_kind_of kf ff) { nx := fun _ H => QD .non H, rt := QD, ex := fun x _ H => XD x H } (startD 6 ds) G := by
  obtain ⟨s, rfl, hz, ho, hQ⟩ := h
  have hlim : lim = 16777216 := rfl
  unfold koD at hQ
  by_cases c1 : s ∈ [sInt, sText, sBool]
  · rw [if_pos c1] at hQ
    simp_arith [b_law_kind_of, in_leaves, decide_eq_true c1]
    exact hQ
  · rw [if_neg c1] at hQ
    by_cases c2 : s.length < 2
    · rw [if_pos c2] at hQ
      have z : ((s.length : Int) < 2) = True := by simp only [eq_iff_iff, iff_true]; omega
      simp_arith [b_law_kind_of, in_leaves, decide_eq_false c1, z]
      exact hQ
    · rw [if_neg c2] at hQ
      have z : ((s.length : Int) < 2) = False := by simp only [eq_iff_iff, iff_false]; omega
      obtain ⟨a, ha⟩ : ∃ a, s.head? = some a := by
        cases s with
        | nil => simp at c2
        | cons a r => exact ⟨a, rfl⟩
      obtain ⟨b, hb⟩ : ∃ b, s.getLast? = some b := by
        cases hb : s.getLast? with
        | none => rw [List.getLast?_eq_none_iff] at hb; rw [hb] at c2; simp at c2
        | some b => exact ⟨b, rfl⟩
      have ha0 : s[0]? = some a := by rw [← ha, List.head?_eq_getElem?]
      have he := ends_eq c2 ha hb
      have hoe : opn s = opn [a] + (opn (mid s) + opn [b]) := by
        conv => lhs; rw [he]
        rw [← opn_app, ← opn_app]; rfl
      rw [ha, hb] at hQ
      simp_arith [b_law_kind_of, in_leaves, decide_eq_false c1, z, at_m1, ha0, hb]
      refine And.intro (by decide) ?_
      simp_arith [b_koM, at_m1, hb]
      by_cases c3 : b = 63
      · subst c3
        rw [if_pos rfl] at hQ
        have o1 : opn [63] = 1 := by decide
        have hdl : opn s.dropLast + 1 ≤ opn s := by
          obtain ⟨ys, e⟩ := List.getLast?_eq_some_iff.mp hb
          rw [e, List.dropLast_concat, opn_app, o1]; omega
        have e1 : (([63] : List Nat) == [63]) = true := rfl
        simp_arith [e1, b_koO, h1, cut_last]
        refine ⟨s.dropLast, rfl, by rw [List.length_dropLast]; omega, by omega, ?_⟩
        cases e2 : koD n s.dropLast with
        | none =>
          rw [e2] at hQ
          simp_arith [optK]
          exact hQ
        | some k =>
          rw [e2] at hQ
          have hQ : QD (optK (if isOpt k = true then none else some (.one true k))) G := hQ
          obtain ⟨t, t1, t2⟩ := enc_hdo (H := G) (k := k) fun w z => koD_leaf (by rw [← z]; exact e2)
          simp_arith [optK, enc_nn, t1, t2]
          cases e3 : isOpt k with
          | true => rw [e3] at hQ; exact hQ
          | false => rw [e3] at hQ; exact hQ
      · rw [if_neg (fun q => c3 (Option.some.inj q))] at hQ
        have e1 : (([b] : List Nat) == [63]) = false := by simp [c3]
        simp_arith [e1]
        by_cases c4 : a = 91 ∧ b = 93
        · obtain ⟨rfl, rfl⟩ := c4
          rw [if_pos ⟨rfl, rfl⟩] at hQ
          have o1 : opn [91] = 1 := by decide
          have e2 : (([91, 93] : List Nat) == [91, 93]) = true := rfl
          simp_arith [e2, b_koL, h1, cut_both c2]
          have hml : (mid s).length ≤ s.length := by unfold mid; rw [List.length_take]; simp; omega
          refine ⟨mid s, rfl, by omega, by omega, ?_⟩
          cases e3 : koD n (mid s) with
          | none =>
            rw [e3] at hQ
            simp_arith [optK]
            exact hQ
          | some k =>
            rw [e3] at hQ
            simp_arith [optK, enc_nn]
            exact hQ
        · have c4' : ¬ (some a = some 91 ∧ some b = some 93) := fun q => c4 ⟨Option.some.inj q.1, Option.some.inj q.2⟩
          rw [if_neg c4'] at hQ
          have e2 : (([a, b] : List Nat) == [91, 93]) = false := by
            rw [beq_eq_false_iff_ne]; intro q; injection q with q1 q2; injection q2 with q2 _; exact c4 ⟨q1, q2⟩
          simp_arith [e2]
          by_cases c5 : a = 123 ∧ b = 125
          · obtain ⟨rfl, rfl⟩ := c5
            rw [if_neg (by simp)] at hQ
            have e3 : (([123, 125] : List Nat) == [123, 125]) = true := rfl
            simp_arith [e3]
            have o1 : opn [123] = 1 := by decide
            exact ko_loop h1 h2 c2 hz (by omega) hQ
          · have c5' : ¬ (some a = some 123 ∧ some b = some 125) := fun q => c5 ⟨Option.some.inj q.1, Option.some.inj q.2⟩
            rw [if_pos c5'] at hQ
            have e3 : (([a, b] : List Nat) == [123, 125]) = false := by
              rw [beq_eq_false_iff_ne]; intro q; injection q with q1 q2; injection q2 with q2 _; exact c5 ⟨q1, q2⟩
            simp_arith [e3]
            exact hQ
def b_law_due (l_kind_of l_is_schema : Nat) : Ss :=
 (.c (.set 1 (.call l_kind_of (.c (.var 0) .n)))
 (.c (.ite (.bo false (.c (.cmp .isn (.var 1) (.con .non)) (.c (.nt (.of (.call l_is_schema (.c (.var 1) .n)))) .n))) (.c (.ret (.con .non))
 .n) .n)
 (.c (.ret (.var 1))
 .n)))
def spDue (n : Nat) : SpD := fun ds G Q _ => ∃ s, ds = [.str s] ∧ s.length ≤ 1000000 ∧ opn s < n ∧ cln s ≤ 1000 ∧ Q (optK (duA n s)) G
theorem due_ok {Γ : Gam} {kf is n : Nat} (h1 : Γ.sp kf = spKo n) (h2 : Γ.sp is = spSG) (ds : List D) (G : HD) (QD : KD) (XD : KX) (h : spDue n ds G QD XD) : wSs Γ (b_law_due kf is) { nx := fun _ H => QD .non H, rt := QD, ex := fun x _ H => XD x H } (startD 2 ds) G := by
  obtain ⟨s, rfl, hz, ho, hc, hQ⟩ := h
  unfold duA at hQ
  simp_arith [b_law_due, h1, h2]
  refine ⟨s, rfl, hz, ho, ?_⟩
  cases e : koD n s with
  | none =>
    rw [e] at hQ
    simp_arith [optK]
    exact hQ
  | some k =>
    rw [e] at hQ
    have hQ : QD (optK (if isS (enc k) = true then some k else none)) G := hQ
    simp_arith [optK, enc_nn]
    refine ⟨enc k, rfl, col_px k (by rw [koD_sound n s k e]; exact hc), ?_⟩
    cases e2 : isS (enc k) with
    | true => rw [e2] at hQ; exact hQ
    | false => rw [e2] at hQ; exact hQ
end DL

namespace DL
open PySem PySem.Spec PyProof.Rows L2
/-! ## 27. cut -/
/-! ### cut -/
end DL

namespace DL
open PySem PySem.Spec PyProof.Rows L2
/-! ## 72. The laws of any texts: reading, turning -/
mutual
theorem enc_pl : ∀ k, Wf k → Pl (3 * dp k) (enc k)
  | .leaf k, _ => by
    have hlim : lim = 16777216 := rfl
    simp only [enc, dp]
    exact ⟨by show 1 ≤ lim; omega, fun x hx => by rw [List.mem_singleton] at hx; subst hx; trivial⟩
  | .one o a, w => by
    have hlim : lim = 16777216 := rfl
    simp only [Wf] at w
    simp only [enc, dp]
    have h := enc_pl a w.2
    refine Pl.mono (n := 3 * dp a + 1) (by omega) ⟨by show 2 ≤ lim; omega, fun x hx => ?_⟩
    simp only [List.mem_cons, List.not_mem_nil, or_false] at hx
    have := dpos a
    rcases hx with rfl | rfl
    · exact Pl.mono (n := 1) (by omega) trivial
    · exact h
  | .recd fs, w => by
    have hlim : lim = 16777216 := rfl
    simp only [Wf] at w
    simp only [enc, dp]
    have h := encs_pl fs w.2
    have h8 := w.1.2.2
    show Pl (3 * dps fs + 2 + 1) _
    refine ⟨by show 2 ≤ lim; omega, fun x hx => ?_⟩
    simp only [List.mem_cons, List.not_mem_nil, or_false] at hx
    rcases hx with rfl | rfl
    · trivial
    · exact ⟨by rw [encs_eq, List.length_map]; omega, h⟩
theorem encs_pl : ∀ fs, Wfs fs → ∀ x ∈ encs fs, Pl (3 * dps fs + 1) x
  | .nil, _, x, hx => by simp [encs] at hx
  | .cons n k fs, w, x, hx => by
    have hlim : lim = 16777216 := rfl
    simp only [Wfs] at w
    simp only [encs] at hx
    simp only [dps]
    rcases List.mem_cons.mp hx with rfl | hx
    · refine Pl.mono (n := 3 * dp k + 1) (by omega) ⟨by show 2 ≤ lim; omega, fun x hx => ?_⟩
      simp only [List.mem_cons, List.not_mem_nil, or_false] at hx
      have := dpos k
      rcases hx with rfl | rfl
      · exact Pl.mono (n := 1) (by omega) trivial
      · exact enc_pl k w.2.1
    · exact Pl.mono (by omega) (encs_pl fs w.2.2 x hx)
end
theorem enc_ns {k : Kd} {H : HD} : cmpD .nisn (enc k) .non H = some true := by cases k <;> rfl
def b_law_read_as (cread_schema l_same : Nat) : Ss :=
 (.c (.tri (.c (.set 2 (.call cread_schema (.c (.var 0) .n)))
 (.c (.ret (.boo true (.c (.cmp .nisn (.var 1) (.con .non)) (.c (.call l_same (.c (.var 2) (.c (.var 1) .n))) .n))))
 .n)) 2 (some 3) (.ret (.boo true (.c (.cmp .isn (.var 1) (.con .non)) (.c (.isc 3 (some 0)) (.c (.isc 3 none) (.c (.nt (.isc 3 (some 1))) .n)))))))
 .n)
def spReadAs : SpD := fun ds G Q _ => ∃ s, ds = [.str s, optK (rdA s)] ∧ s.length ≤ 1000000 ∧ (okdB 0 s = true → ∀ k, pKindOf (pBare 9) s = .ok k [] → PX 1000 (enc k)) ∧ ∀ H', Q (.bl true) H'
theorem read_as_ok {Γ : Gam} {cr ls : Nat} (h1 : Γ.sp cr = spReadA 2) (h2 : Γ.sp ls = spSame 24) (s2 : Γ.sb 2 2 = true) (s0 : Γ.sb 2 0 = true) (s1 : Γ.sb 2 1 = false) (ds : List D) (G : HD) (QD : KD) (XD : KX) (h : spReadAs ds G QD XD) :
    wSs Γ (b_law_read_as cr ls) { nx := fun _ H => QD .non H, rt := QD, ex := fun x _ H => XD x H } (startD 4 ds) G := by
  obtain ⟨s, rfl, hz, hpx, hQ⟩ := h
  simp_arith [b_law_read_as, h1]
  refine ⟨s, rfl, hz, hpx, ?_⟩
  cases hr : rdA s with
  | none =>
    intro H' _
    simp_arith [s2]
    intro a ha
    simp_arith [optK, s0, s1]
    exact hQ _
  | some k =>
    intro p j hp
    have r := (rdA_iff.mp hr).1
    simp_arith [optK, enc_ns, h2]
    refine ⟨_, _, rfl, Pl.mono (n := 3 * dp k) (by have := r.2.2.1; omega) (enc_pl _ r.2.1), .inl rfl, ?_⟩
    exact hQ _
/-- few colons, or nothing read: what spReadAs asks -/
theorem px_col {s : List Nat} (h : cln s ≤ 1000) : okdB 0 s = true → ∀ k, pKindOf (pBare 9) s = .ok k [] → PX 1000 (enc k) := fun _ k e => col_px k (by
  have := pk_sound (pb_sound 9) e
  rw [List.append_nil] at this
  rw [← this]; exact h)
/-! ### turning a text -/
structure Meas (f : List Nat → Nat) : Prop where
  add : ∀ a b, f (a ++ b) = f a + f b
  le : ∀ a, f a ≤ a.length
end DL

namespace DL
open PySem PySem.Spec PyProof.Rows L2
/-! ## 73. Any texts: words, texts that grow, brackets -/
/-- a text of n words -/
def Few (n : Nat) (t : List Nat) : Prop := t.length ≤ 30 * n + 4 ∧ opn t ≤ n ∧ cln t ≤ 3 * n
def b_law_words (l_pick l_draw : Nat) : Ss :=
 (.c (.set 1 (.lst true (.c (.con (.str [123, 97, 58, 32])) (.c (.con (.str [123, 98, 58, 32])) (.c (.con (.str [44, 32, 98, 58, 32])) (.c (.con (.str [44, 32, 99, 58, 32])) (.c (.con (.str sInt)) (.c (.con (.str sText)) (.c (.con (.str sBool)) (.c (.con (.str [125])) (.c (.con (.str [125])) (.c (.con (.str [91])) (.c (.con (.str [93])) (.c (.con (.str [63])) (.c (.con (.str [123])) (.c (.con (.str [44, 32])) (.c (.con (.str [58, 32])) (.c (.con (.str [97])) (.c (.con (.str [32])) (.c (.con (.str [105, 110, 116, 101, 114])) .n))))))))))))))))))))
 (.c (.ret (.mt .join (.con (.str [])) (.c (.lc true (.call l_pick (.c (.var 0) (.c (.var 1) .n))) (.n 2) (.rng (.c (.call l_draw (.c (.var 0) (.c (.con (.int 41)) .n))) .n)) .yes [("k", 2)]) .n)))
 .n))
def wrds : List (List Nat) := [[123, 97, 58, 32], [123, 98, 58, 32], [44, 32, 98, 58, 32], [44, 32, 99, 58, 32], sInt, sText, sBool, [125], [125], [91], [93], [63], [123], [44, 32], [58, 32], [97], [32], [105, 110, 116, 101, 114]]
theorem wrds_few : ∀ w ∈ wrds, w.length ≤ 5 ∧ opn w ≤ 1 ∧ cln w ≤ 1 := by decide
theorem joinE : ∀ {l : List (List Nat)}, joinL [] l = l.flatten
  | [] => rfl
  | [x] => by simp [joinL]
  | x :: y :: r => by
    have := joinE (l := y :: r)
    rw [joinL, this]; simp
theorem few_words : ∀ {l : List (List Nat)}, (∀ w ∈ l, w ∈ wrds) → l.flatten.length ≤ 5 * l.length ∧ opn l.flatten ≤ l.length ∧ cln l.flatten ≤ l.length
  | [], _ => by simp [opn, cln]
  | x :: r, h => by
    have h1 := wrds_few x (h x List.mem_cons_self)
    have h2 := few_words (l := r) fun w hw => h w (List.mem_cons_of_mem _ hw)
    simp only [List.flatten_cons, List.length_append, List.length_cons]
    rw [opn_app, col_app]; omega
def spFew : SpD := fun ds G Q _ => ds = [.rnd] ∧ ∀ t, Few 40 t → Q (.str t) G
theorem words_ok {Γ : Gam} {pk dr : Nat} (h1 : Γ.sp pk = spPick) (h2 : Γ.sp dr = spDraw) (ds : List D) (G : HD) (QD : KD) (XD : KX) (h : spFew ds G QD XD) : wSs Γ (b_law_words pk dr) { nx := fun _ H => QD .non H, rt := QD, ex := fun x _ H => XD x H } (startD 3 ds) G := by
  obtain ⟨rfl, hQ⟩ := h
  have hlim : lim = 16777216 := rfl
  simp_arith [b_law_words, h1, h2]
  refine ⟨_, rfl, by decide, fun n n0 n1 => ?_⟩
  simp_arith []
  rw [q_rng1 ⟨by omega, by omega⟩, ok_some]
  refine And.intro (by dsimp only; omega) ?_
  have hr : ∀ R, R = rngL (0, n.toNat, 1) → R.length ≤ 40 := fun R e => by rw [e]; show (rngF 1 n.toNat 0).length ≤ 40; rw [rngF_len]; omega
  generalize hR : rngL (0, n.toNat, 1) = R
  have hR2 := hr R hR.symm
  refine lcD_ind (fun xs acc H => H = G ∧ ∃ l : List (List Nat), acc = l.map .str ∧ (∀ w ∈ l, w ∈ wrds) ∧ l.length + xs.length ≤ 40) ?_ ?_ _ _ _ ⟨rfl, [], rfl, fun _ h => (nomatch h), by simpa using hR2⟩
  · rintro acc H ⟨rfl, l, rfl, hl, hn⟩
    have fw := few_words hl
    simp only [List.length_nil] at hn
    have hs : (l.map List.length).sum = l.flatten.length := by rw [List.length_flatten]
    simp_arith [strsOf_map, joinE]
    refine ⟨by rw [hs]; simp; omega, hQ _ ⟨by omega, by omega, by omega⟩⟩
  · rintro x xs acc ih H ⟨rfl, l, rfl, hl, hn⟩
    simp_arith []
    refine ⟨wrds.map .str, rfl, by decide, fun d hd => ?_⟩
    obtain ⟨w, hw, rfl⟩ := List.mem_map.mp hd
    refine ih _ _ ⟨rfl, l ++ [w], by simp, fun y hy => ?_, by simp at hn ⊢; omega⟩
    rcases List.mem_append.mp hy with hy | hy
    · exact hl y hy
    · rw [List.mem_singleton] at hy; rw [hy]; exact hw
def b_law_grown (l_pick l_draw : Nat) : Ss :=
 (.c (.set 1 (.call l_pick (.c (.var 0) (.c (.lst true (.c (.con (.str sInt)) (.c (.con (.str sText)) (.c (.con (.str sBool)) .n)))) .n))))
 (.c (.for_ (.n 2) (.rng (.c (.call l_draw (.c (.var 0) (.c (.con (.int 10)) .n))) .n)) (.c (.set 3 (.call l_draw (.c (.var 0) (.c (.con (.int 6)) .n))))
 (.c (.ite (.cmp .eq (.var 3) (.con (.int 0))) (.c (.set 1 (.bin true .add (.var 1) (.con (.str [63]))))
 .n) (.c (.ite (.cmp .lt (.var 3) (.con (.int 3))) (.c (.set 1 (.bin true .add (.bin true .add (.con (.str [91])) (.var 1)) (.con (.str [93]))))
 .n) (.c (.ite (.cmp .lt (.var 3) (.con (.int 5))) (.c (.set 1 (.bin true .add (.bin true .add (.con (.str [123, 97, 58, 32])) (.var 1)) (.con (.str [125]))))
 .n) (.c (.set 1 (.bin true .add (.bin true .add (.con (.str [123, 98, 58, 32, 98, 111, 111, 108, 44, 32, 97, 58, 32])) (.var 1)) (.con (.str [44, 32, 99, 58, 32, 105, 110, 116, 125]))))
 .n))
 .n))
 .n))
 .n)))
 (.c (.ret (.var 1))
 .n)))
theorem grown_ok {Γ : Gam} {pk dr : Nat} (h1 : Γ.sp pk = spPick) (h2 : Γ.sp dr = spDraw) (ds : List D) (G : HD) (QD : KD) (XD : KX) (h : spFew ds G QD XD) : wSs Γ (b_law_grown pk dr) { nx := fun _ H => QD .non H, rt := QD, ex := fun x _ H => XD x H } (startD 4 ds) G := by
  obtain ⟨rfl, hQ⟩ := h
  have hlim : lim = 16777216 := rfl
  simp_arith [b_law_grown, h1, h2]
  refine ⟨_, rfl, by decide, fun d hd => ?_⟩
  obtain ⟨w, hw, rfl⟩ : ∃ w, Few 0 w ∧ d = .str w := by
    simp only [List.mem_cons, List.not_mem_nil, or_false] at hd
    rcases hd with rfl | rfl | rfl <;> exact ⟨_, by unfold Few; decide, rfl⟩
  try simp_arith []
  refine ⟨_, rfl, by decide, fun n n0 n1 => ?_⟩
  simp_arith []
  rw [q_rng1 ⟨by omega, by omega⟩, ok_some]
  refine And.intro (by dsimp only; omega) ?_
  have hr : ∀ R, R = rngL (0, n.toNat, 1) → R.length ≤ 9 := fun R e => by rw [e]; show (rngF 1 n.toNat 0).length ≤ 9; rw [rngF_len]; omega
  generalize hR : rngL (0, n.toNat, 1) = R
  have hR2 := hr R hR.symm
  refine wFor_ind (fun xs σ H => H = G ∧ ∃ (k : Nat) (t : List Nat) (x2 x3 : Option D), Few k t ∧ k + xs.length ≤ 9 ∧ σ = [some .rnd, some (.str t), x2, x3]) ?_ ?_ _ _ _ ⟨rfl, 0, w, none, none, hw, by simpa using hR2, rfl⟩
  · rintro σ H ⟨rfl, k, t, x2, x3, ht, hk, rfl⟩
    try simp_arith []
    simp only [List.length_nil] at hk
    obtain ⟨f1, f2, f3⟩ := ht
    exact hQ _ ⟨by omega, by omega, by omega⟩
  · rintro x xs ih σ H ⟨rfl, k, t, x2, x3, ⟨f1, f2, f3⟩, hk, rfl⟩
    simp only [List.length_cons] at hk
    have step : ∀ a b : List Nat, a.length + b.length ≤ 30 → opn a + opn b ≤ 1 → cln a + cln b ≤ 3 → Few (k + 1) (a ++ t ++ b) := fun a b q1 q2 q3 => by
      refine ⟨?_, ?_, ?_⟩
      · rw [List.length_append, List.length_append]; omega
      · rw [opn_app, opn_app]; omega
      · rw [col_app, col_app]; omega
    simp_arith [h2]
    refine ⟨_, rfl, by decide, fun r r0 r1 => ?_⟩
    simp_arith []
    cases e1 : (r == 0) with
    | true =>
      simp_arith []
      refine And.intro (by omega) (ih _ _ ⟨rfl, k + 1, _, _, _, step [] [63] (by decide) (by decide) (by decide), by omega, rfl⟩)
    | false =>
    simp_arith []
    by_cases e2 : r < 3
    · simp_arith [e2]
      refine ⟨by omega, by omega, ih _ _ ⟨rfl, k + 1, _, _, _, step [91] [93] (by decide) (by decide) (by decide), by omega, rfl⟩⟩
    simp_arith [e2]
    by_cases e3 : r < 5
    · simp_arith [e3]
      refine ⟨by omega, by omega, ih _ _ ⟨rfl, k + 1, _, _, _, step [123, 97, 58, 32] [125] (by decide) (by decide) (by decide), by omega, rfl⟩⟩
    simp_arith [e3]
    refine ⟨by omega, by omega, ih _ _ ⟨rfl, k + 1, _, _, _, step [123, 98, 58, 32, 98, 111, 111, 108, 44, 32, 97, 58, 32] [44, 32, 99, 58, 32, 105, 110, 116, 125] (by decide) (by decide) (by decide), by omega, rfl⟩⟩
/-! ### texts that are none -/
def NoRd (s : List Nat) : Prop := rdA s = none ∧ s.length ≤ 1000000 ∧ (okdB 0 s = true → ∀ k, pKindOf (pBare 9) s = .ok k [] → PX 1000 (enc k))
theorem okd_pre : ∀ (a b : List Nat) (d : Int), okd d (a ++ b) → okd d a
  | [], _, _, _ => trivial
  | c :: a, b, d, h => ⟨h.1, okd_pre a b _ h.2⟩
theorem okd_le : ∀ (s : List Nat) (d : Int), s ≠ [] → okd d s → d + smd s ≤ 8
  | [], _, h, _ => absurd rfl h
  | [c], d, _, h => by have := h.1; simp only [smd]; omega
  | c :: e :: s, d, _, h => by
    have := okd_le (e :: s) _ (by simp) h.2
    rw [smd, ← Int.add_assoc]; exact this
theorem no_deep {a b s : List Nat} (e : s = a ++ b) (hn : a ≠ []) (hs : 8 < smd a) (hl : s.length ≤ 1000000) : NoRd s := by
  have ho : okdB 0 s = false := by
    cases h : okdB 0 s with
    | false => rfl
    | true =>
      have := okd_le a 0 hn (okd_pre a b 0 (by rw [← e]; exact (okdB_iff s 0).mp h))
      omega
  refine ⟨?_, hl, fun z => by rw [ho] at z; cases z⟩
  unfold rdA
  rw [ho]
theorem no_bad {s : List Nat} (hb : ∀ k, pKindOf (pBare 9) s ≠ .ok k []) (hl : s.length ≤ 1000000) : NoRd s := by
  refine ⟨?_, hl, fun _ k e => absurd e (hb k)⟩
  unfold rdA
  split
  · rfl
  · split
    · rename_i k e; exact absurd e (hb k)
    · rfl
def rp (m : Nat) (w : List Nat) : List Nat := (List.replicate m w).flatten
theorem rp_len {m : Nat} {w : List Nat} : (rp m w).length = m * w.length := by simp [rp]
theorem rp_smd : ∀ {m : Nat} {w : List Nat}, smd (rp m w) = m * smd w
  | 0, w => by simp [rp, smd]
  | m + 1, w => by
    have := rp_smd (m := m) (w := w)
    unfold rp at this ⊢
    rw [List.replicate_succ, List.flatten_cons, smd_app, this]
    rw [Int.natCast_add, Int.add_mul]; simp; omega
theorem rp_cons {m : Nat} {w : List Nat} (h : 1 ≤ m) : rp m w = w ++ rp (m - 1) w := by
  cases m with
  | zero => omega
  | succ m => rfl
theorem no_1 {m : Nat} (h : 9 ≤ m) (h2 : m ≤ 3000) : NoRd (rp m [91]) := no_deep (a := rp m [91]) (b := []) (by simp) (by rw [rp_cons (by omega)]; simp) (by rw [rp_smd, show smd [91] = 1 by decide]; omega) (by rw [rp_len]; simp; omega)
theorem no_2 {m : Nat} (h : 9 ≤ m) (h2 : m ≤ 3000) : NoRd (rp m [123, 97, 58, 32]) := no_deep (a := rp m [123, 97, 58, 32]) (b := []) (by simp) (by rw [rp_cons (by omega)]; simp) (by rw [rp_smd, show smd [123, 97, 58, 32] = 1 by decide]; omega) (by rw [rp_len]; simp; omega)
theorem no_3 {m : Nat} (h : 9 ≤ m) (h2 : m ≤ 3000) : NoRd ([123, 97, 58, 32] ++ rp m [91]) := no_deep (a := [123, 97, 58, 32] ++ rp m [91]) (b := []) (by simp) (by simp) (by rw [smd_app, rp_smd, show smd [91] = 1 by decide, show smd [123, 97, 58, 32] = 1 by decide]; omega) (by rw [List.length_append, rp_len]; simp; omega)
theorem no_7 {m : Nat} (h : 9 ≤ m) (h2 : m ≤ 3000) : NoRd ([123, 97, 58, 32] ++ rp m [91] ++ sInt ++ rp m [93] ++ [125]) := no_deep (a := [123, 97, 58, 32] ++ rp m [91]) (b := sInt ++ rp m [93] ++ [125]) (by simp) (by simp) (by rw [smd_app, rp_smd, show smd [91] = 1 by decide, show smd [123, 97, 58, 32] = 1 by decide]; omega) (by simp only [List.length_append, rp_len]; simp [sInt]; omega)
theorem no_8 {m : Nat} (h : 9 ≤ m) (h2 : m ≤ 3000) : NoRd (rp m [123, 97, 58, 32] ++ sInt ++ rp m [125]) := no_deep (a := rp m [123, 97, 58, 32]) (b := sInt ++ rp m [125]) (by simp) (by rw [rp_cons (by omega)]; simp) (by rw [rp_smd, show smd [123, 97, 58, 32] = 1 by decide]; omega) (by simp only [List.length_append, rp_len]; simp [sInt]; omega)
theorem no_4 {m : Nat} (h : 9 ≤ m) (h2 : m ≤ 3000) : NoRd ([123, 97, 58, 32, 105, 110, 116, 125] ++ rp m [125]) := by
  refine no_bad (fun k => ?_) (by rw [List.length_append, rp_len]; simp; omega)
  rw [rp_cons (by omega)]
  generalize rp (m - 1) [125] = t
  have e : pKindOf (pBare 9) ([123, 97, 58, 32, 105, 110, 116, 125] ++ ([125] ++ t)) = .ok (.recd (.cons [97] (.leaf sInt) .nil)) (125 :: t) := rfl
  rw [e]; intro z; cases z
theorem no_5 {m : Nat} (h : 9 ≤ m) (h2 : m ≤ 3000) : NoRd (rp m [93] ++ rp m [91]) := by
  refine no_bad (fun k => ?_) (by rw [List.length_append, rp_len, rp_len]; simp; omega)
  rw [rp_cons (m := m) (w := [93]) (by omega), List.append_assoc]
  generalize rp (m - 1) [93] ++ rp m [91] = t
  have e : pKindOf (pBare 9) ([93] ++ t) = .bad := rfl
  rw [e]; intro z; cases z
theorem no_6 {m : Nat} (h : 9 ≤ m) (h2 : m ≤ 3000) : NoRd ([123, 97, 58, 32, 105, 110, 116] ++ rp m [63] ++ [125]) := by
  refine no_bad (fun k => ?_) (by rw [List.length_append, List.length_append, rp_len]; simp; omega)
  rw [rp_cons (m := m) (by omega), rp_cons (m := m - 1) (by omega)]
  simp only [List.append_assoc]
  generalize rp (m - 1 - 1) [63] ++ [125] = t
  have e : pKindOf (pBare 9) ([123, 97, 58, 32, 105, 110, 116] ++ ([63] ++ ([63] ++ t))) = .bad := rfl
  rw [e]; intro z; cases z
theorem no_e : NoRd [] := no_bad (fun k => by
  have e : pKindOf (pBare 9) [] = .bad := rfl
  rw [e]; intro z; cases z) (by simp)
end DL

namespace DL.K09
open PySem PySem.Spec PyProof.Rows L2 DL
abbrev prog : Program := PySem.Challenge.pw_stripewalk_k09_any_texts
def top (i : Nat) : Stmt := prog.main.body.getD i (.Pass ⟨0, 0, 0, 0⟩)
def mtop (i j : Nat) : Stmt := match top i with | .ClassDef _ _ _ body _ _ _ _ _ _ _ => body.getD j (.Pass ⟨0, 0, 0, 0⟩) | s => s
def d_is_name : Df := ⟨"is_name", ["value"], ["value", "sign"], top 10, b_is_name 1⟩
def d_are_fields : Df := ⟨"are_fields", ["value"], ["value", "one"], top 11, b_are_fields 0 2⟩
def d_parts_of : Df := ⟨"parts_of", ["value"], ["value", "one"], top 12, b_parts_ofG 1 0⟩
def d_is_schema : Df := ⟨"is_schema", ["value"], ["value", "waiting", "count", "one", "depth", "parts", "part"], top 13, b_is_schemaG 2 3 4⟩
def d_TextReader_init : Df := ⟨"TextReader.__init__", ["self", "text"], ["self", "text"], mtop 14 0, b_TextReader_init⟩
def d_TextReader_has : Df := ⟨"TextReader.has", ["self", "word"], ["self", "word"], mtop 14 1, b_TextReader_has⟩
def d_TextReader_take : Df := ⟨"TextReader.take", ["self", "word"], ["self", "word"], mtop 14 2, b_TextReader_take 5 2⟩
def d_TextReader_name : Df := ⟨"TextReader.name", ["self"], ["self", "first"], mtop 14 3, b_TextReader_name 1⟩
def d_TextReader_bare : Df := ⟨"TextReader.bare", ["self"], ["self", "found", "fields", "word"], mtop 14 5, b_TextReader_bare 0 5 9 6 10 7 2⟩
def d_TextReader_kind : Df := ⟨"TextReader.kind", ["self"], ["self", "found"], mtop 14 6, b_TextReader_kind 8 5⟩
def d_TextReader_field : Df := ⟨"TextReader.field", ["self"], ["self", "name"], mtop 14 4, b_TextReader_field 7 6 9⟩
def d_read_schema : Df := ⟨"read_schema", ["text"], ["text", "depth", "sign", "reader", "found"], top 15, b_read_schema 3 3 9 4 2⟩
def d_law_pick : Df := ⟨"_law_pick", ["stream", "rows"], ["stream", "rows"], top 19, b_pick 13⟩
def d_law_same : Df := ⟨"_law_same", ["told", "due"], ["told", "due", "k"], top 20, b_same 15⟩
def d_law_is_name : Df := ⟨"_law_is_name", ["value"], ["value", "sign"], top 21, b_law_is_name⟩
def d_law_count : Df := ⟨"_law_count", ["value", "depth"], ["value", "depth", "found", "names", "field"], top 22, b_law_countG 17 16⟩
def d_law_is_schema : Df := ⟨"_law_is_schema", ["value"], ["value"], top 23, b_law_is_schema 17⟩
def d_law_fields_of : Df := ⟨"_law_fields_of", ["text"], ["text", "found", "depth", "k"], top 24, b_law_fields_of⟩
def d_law_kind_of : Df := ⟨"_law_kind_of", ["text"], ["text", "ends", "inner", "fields", "part", "at"], top 25, b_law_kind_of 20 19⟩
def d_law_due : Df := ⟨"_law_due", ["text"], ["text", "kind"], top 26, b_law_due 20 18⟩
def d_law_read_as : Df := ⟨"_law_read_as", ["text", "due"], ["text", "due", "told", "e"], top 27, b_law_read_as 11 15⟩
def d_law_words : Df := ⟨"_law_words", ["stream"], ["stream", "words", "k"], top 28, b_law_words 14 13⟩
def d_law_grown : Df := ⟨"_law_grown", ["stream"], ["stream", "text", "k", "pick"], top 29, b_law_grown 14 13⟩
def b_law (l_stream l_draw l_read_as l_pick l_words l_grown l_due : Nat) : Ss :=
 (.c (.set 1 (.call l_stream (.c (.var 0) .n)))
 (.c (.set 2 (.idx (.lst true (.c (.con (.int 9)) (.c (.con (.int 60)) (.c (.con (.int 700)) (.c (.con (.int 3000)) .n))))) (.call l_draw (.c (.var 1) (.c (.con (.int 4)) .n)))))
 (.c (.set 3 (.lst true (.c (.bin true .mul (.con (.str [91])) (.var 2)) (.c (.bin true .mul (.con (.str [123, 97, 58, 32])) (.var 2)) (.c (.bin true .add (.con (.str [123, 97, 58, 32])) (.bin true .mul (.con (.str [91])) (.var 2))) (.c (.bin true .add (.con (.str [123, 97, 58, 32, 105, 110, 116, 125])) (.bin true .mul (.con (.str [125])) (.var 2))) (.c (.bin true .add (.bin true .mul (.con (.str [93])) (.var 2)) (.bin true .mul (.con (.str [91])) (.var 2))) (.c (.bin true .add (.bin true .add (.con (.str [123, 97, 58, 32, 105, 110, 116])) (.bin true .mul (.con (.str [63])) (.var 2))) (.con (.str [125]))) .n))))))))
 (.c (.set 3 (.bin true .add (.var 3) (.lst true (.c (.bin true .add (.bin true .add (.bin true .add (.bin true .add (.con (.str [123, 97, 58, 32])) (.bin true .mul (.con (.str [91])) (.var 2))) (.con (.str sInt))) (.bin true .mul (.con (.str [93])) (.var 2))) (.con (.str [125]))) (.c (.bin true .add (.bin true .add (.bin true .mul (.con (.str [123, 97, 58, 32])) (.var 2)) (.con (.str sInt))) (.bin true .mul (.con (.str [125])) (.var 2))) .n)))))
 (.c (.ite (.bo false (.c (.nt (.of (.call l_read_as (.c (.call l_pick (.c (.var 1) (.c (.var 3) .n))) (.c (.con .non) .n))))) (.c (.nt (.of (.call l_read_as (.c (.con (.str [])) (.c (.con .non) .n))))) .n))) (.c (.ret (.con (.bl false)))
 .n) .n)
 (.c (.for_ (.n 4) (.rng (.c (.con (.int 5)) .n)) (.c (.for_ (.n 5) (.of (.lst true (.c (.call l_words (.c (.var 1) .n)) (.c (.call l_grown (.c (.var 1) .n)) .n)))) (.c (.ite (.nt (.of (.call l_read_as (.c (.var 5) (.c (.call l_due (.c (.var 5) .n)) .n))))) (.c (.ret (.con (.bl false)))
 .n) .n)
 .n))
 .n))
 (.c (.ret (.con (.bl true)))
 .n)))))))
def d_law : Df := ⟨"law", ["script"], ["script", "stream", "many", "rows", "turn", "text"], top 30, b_law 12 13 22 14 23 24 21⟩
def dfs : List Df := [d_is_name, d_are_fields, d_parts_of, d_is_schema, d_TextReader_init, d_TextReader_has, d_TextReader_take, d_TextReader_name, d_TextReader_bare, d_TextReader_kind, d_TextReader_field, d_read_schema, d_stream (top 17), d_draw (top 18), d_law_pick, d_law_same, d_law_is_name, d_law_count, d_law_is_schema, d_law_fields_of, d_law_kind_of, d_law_due, d_law_read_as, d_law_words, d_law_grown, d_law]
def gl : List (Str × D) := [("LEAVES", (.tup [(.str sInt), (.str sText), (.str sBool)])), ("SMALL", (.str abc)), ("MOST_FIELDS", (.int 8)), ("MOST_NESTED", (.int 8)), ("MOST_LEAVES", (.int 24))]
def sb (i j : Nat) : Bool := (([[true, false, false], [true, true, false], [true, false, true]] : List (List Bool)).getD i []).getD j false
def cls : List Str := ["StripewalkError", "BadFile", "BadText"]
def ocs : List Oc := [⟨"TextReader", ["text", "at"], [("__init__", 4), ("has", 5), ("take", 6), ("name", 7), ("field", 10), ("bare", 8), ("kind", 9)], some 4⟩]
def cfg : Cfg := ⟨dfs.map fun d => (d.x, d.ps.length), gl.map (·.1), cls, false, ocs⟩
theorem m_is_name : defC cfg d_is_name = true := by decide +kernel
theorem m_are_fields : defC cfg d_are_fields = true := by decide +kernel
theorem m_parts_of : defC cfg d_parts_of = true := by decide +kernel
theorem m_is_schema : defC cfg d_is_schema = true := by decide +kernel
theorem m_TextReader_init : defC cfg d_TextReader_init = true := by decide +kernel
theorem m_TextReader_has : defC cfg d_TextReader_has = true := by decide +kernel
theorem m_TextReader_take : defC cfg d_TextReader_take = true := by decide +kernel
theorem m_TextReader_name : defC cfg d_TextReader_name = true := by decide +kernel
theorem m_TextReader_bare : defC cfg d_TextReader_bare = true := by decide +kernel
theorem m_TextReader_kind : defC cfg d_TextReader_kind = true := by decide +kernel
theorem m_TextReader_field : defC cfg d_TextReader_field = true := by decide +kernel
theorem m_read_schema : defC cfg d_read_schema = true := by decide +kernel
theorem m_stream : defC cfg (d_stream (top 17)) = true := by decide +kernel
theorem m_draw : defC cfg (d_draw (top 18)) = true := by decide +kernel
theorem m_pick : defC cfg d_law_pick = true := by decide +kernel
theorem m_same : defC cfg d_law_same = true := by decide +kernel
theorem m_lis_name : defC cfg d_law_is_name = true := by decide +kernel
theorem m_count : defC cfg d_law_count = true := by decide +kernel
theorem m_lis_schema : defC cfg d_law_is_schema = true := by decide +kernel
theorem m_fields_of : defC cfg d_law_fields_of = true := by decide +kernel
theorem m_kind_of : defC cfg d_law_kind_of = true := by decide +kernel
theorem m_due : defC cfg d_law_due = true := by decide +kernel
theorem m_read_as : defC cfg d_law_read_as = true := by decide +kernel
theorem m_words : defC cfg d_law_words = true := by decide +kernel
theorem m_grown : defC cfg d_law_grown = true := by decide +kernel
theorem m_law : defC cfg d_law = true := by decide +kernel
theorem binds : ∀ d ∈ dfs, BindsH d := by
  unfold dfs
  simp only [List.forall_mem_cons, List.not_mem_nil, false_imp_iff, implies_true, and_true]
  exact ⟨fun _ _ _ _ _ _ us hl => match us, hl with | [_], _ => rfl,
    fun _ _ _ _ _ _ us hl => match us, hl with | [_], _ => rfl,
    fun _ _ _ _ _ _ us hl => match us, hl with | [_], _ => rfl,
    fun _ _ _ _ _ _ us hl => match us, hl with | [_], _ => rfl,
    fun _ _ _ _ _ _ us hl => match us, hl with | [_, _], _ => rfl,
    fun _ _ _ _ _ _ us hl => match us, hl with | [_, _], _ => rfl,
    fun _ _ _ _ _ _ us hl => match us, hl with | [_, _], _ => rfl,
    fun _ _ _ _ _ _ us hl => match us, hl with | [_], _ => rfl,
    fun _ _ _ _ _ _ us hl => match us, hl with | [_], _ => rfl,
    fun _ _ _ _ _ _ us hl => match us, hl with | [_], _ => rfl,
    fun _ _ _ _ _ _ us hl => match us, hl with | [_], _ => rfl,
    fun _ _ _ _ _ _ us hl => match us, hl with | [_], _ => rfl,
    fun _ _ _ _ _ _ us hl => match us, hl with | [_], _ => rfl,
    fun _ _ _ _ _ _ us hl => match us, hl with | [_, _], _ => rfl,
    fun _ _ _ _ _ _ us hl => match us, hl with | [_, _], _ => rfl,
    fun _ _ _ _ _ _ us hl => match us, hl with | [_, _], _ => rfl,
    fun _ _ _ _ _ _ us hl => match us, hl with | [_], _ => rfl,
    fun _ _ _ _ _ _ us hl => match us, hl with | [_, _], _ => rfl,
    fun _ _ _ _ _ _ us hl => match us, hl with | [_], _ => rfl,
    fun _ _ _ _ _ _ us hl => match us, hl with | [_], _ => rfl,
    fun _ _ _ _ _ _ us hl => match us, hl with | [_], _ => rfl,
    fun _ _ _ _ _ _ us hl => match us, hl with | [_], _ => rfl,
    fun _ _ _ _ _ _ us hl => match us, hl with | [_, _], _ => rfl,
    fun _ _ _ _ _ _ us hl => match us, hl with | [_], _ => rfl,
    fun _ _ _ _ _ _ us hl => match us, hl with | [_], _ => rfl,
    fun _ _ _ _ _ _ us hl => match us, hl with | [_], _ => rfl⟩
-- 0:is_name 1:are_fields 2:parts_of 3:is_schema 4:TextReader_init 5:TextReader_has 6:TextReader_take 7:TextReader_name 8:TextReader_bare 9:TextReader_kind 10:TextReader_field 11:read_schema 12:_law_stream 13:_law_draw 14:_law_pick 15:_law_same 16:_law_is_name 17:_law_count 18:_law_is_schema 19:_law_fields_of 20:_law_kind_of 21:_law_due 22:_law_read_as 23:_law_words 24:_law_grown 25:law

def b_l2 (l_read_as l_words l_grown l_due : Nat) : Ss :=
 (.c (.for_ (.n 4) (.rng (.c (.con (.int 5)) .n)) (.c (.for_ (.n 5) (.of (.lst true (.c (.call l_words (.c (.var 1) .n)) (.c (.call l_grown (.c (.var 1) .n)) .n)))) (.c (.ite (.nt (.of (.call l_read_as (.c (.var 5) (.c (.call l_due (.c (.var 5) .n)) .n))))) (.c (.ret (.con (.bl false)))
 .n) .n)
 .n))
 .n))
 (.c (.ret (.con (.bl true)))
 .n))
theorem l2_ok {Γ : Gam} (g22 : Γ.sp 22 = spReadAs) (g23 : Γ.sp 23 = spFew) (g24 : Γ.sp 24 = spFew) (g21 : Γ.sp 21 = spDue 70) {E : EndsD} {x0 x2 x3 : Option D} {G : HD} (hQ : ∀ H, E.rt (.bl true) H) :
    wSs Γ (b_l2 22 23 24 21) E [x0, some .rnd, x2, x3, none, none] G := by
  have hlim : lim = 16777216 := rfl
  simp_arith [b_l2, g21, g22, g23, g24]
  rw [q_rng1 ⟨by omega, by omega⟩, ok_some]
  refine And.intro (by show (5 : Int).toNat ≤ lim; omega) ?_
  refine wFor_ind (fun xs σ H => ∃ x4 x5, σ = [x0, some .rnd, x2, x3, x4, x5]) ?_ ?_ _ _ _ ⟨none, none, rfl⟩
  · rintro σ H ⟨x4, x5, rfl⟩
    try simp_arith []
    exact hQ _
  · rintro x xs ih σ H ⟨x4, x5, rfl⟩
    simp_arith []
    refine ⟨rfl, fun t ht => ?_⟩
    try simp_arith []
    refine ⟨rfl, fun u hu => ?_⟩
    try simp_arith []
    refine wFor_ind (fun ys σ H => (∀ y ∈ ys, ∃ v, y = .str v ∧ Few 40 v) ∧ ∃ x5, σ = [x0, some .rnd, x2, x3, some x, x5]) ?_ ?_ _ _ _ ⟨fun y hy => ?_, x5, rfl⟩
    · rintro σ H ⟨_, x5, rfl⟩
      exact ih _ _ ⟨_, _, rfl⟩
    · rintro y ys ih2 σ H ⟨hy, x5, rfl⟩
      obtain ⟨v, rfl, f1, f2, f3⟩ := hy y List.mem_cons_self
      simp_arith []
      refine ⟨v, rfl, by omega, by omega, by omega, ?_⟩
      refine ⟨v, by rw [rd_du (n := 70) (s := v) (by omega)], by omega, px_col (by omega), fun H1 => ?_⟩
      simp_arith []
      exact ih2 _ _ ⟨fun z hz => hy z (List.mem_cons_of_mem _ hz), _, rfl⟩
    · simp only [List.mem_cons, List.not_mem_nil, or_false] at hy
      rcases hy with rfl | rfl
      · exact ⟨_, rfl, ht⟩
      · exact ⟨_, rfl, hu⟩
theorem law_ok {Γ : Gam} (g12 : Γ.sp 12 = spStream) (g13 : Γ.sp 13 = spDraw) (g22 : Γ.sp 22 = spReadAs) (g14 : Γ.sp 14 = spPick) (g23 : Γ.sp 23 = spFew) (g24 : Γ.sp 24 = spFew) (g21 : Γ.sp 21 = spDue 70) (ds : List D) (G : HD) (QD : KD) (XD : KX) (h : spLaw ds G QD XD) :
    wSs Γ (b_law 12 13 22 14 23 24 21) { nx := fun _ H => QD .non H, rt := QD, ex := fun x _ H => XD x H } (startD 6 ds) G := by
  obtain ⟨ns, rfl, rfl, hQ⟩ := h
  have hlim : lim = 16777216 := rfl
  have eb : b_law 12 13 22 14 23 24 21 =
 (.c (.set 1 (.call 12 (.c (.var 0) .n)))
 (.c (.set 2 (.idx (.lst true (.c (.con (.int 9)) (.c (.con (.int 60)) (.c (.con (.int 700)) (.c (.con (.int 3000)) .n))))) (.call 13 (.c (.var 1) (.c (.con (.int 4)) .n)))))
 (.c (.set 3 (.lst true (.c (.bin true .mul (.con (.str [91])) (.var 2)) (.c (.bin true .mul (.con (.str [123, 97, 58, 32])) (.var 2)) (.c (.bin true .add (.con (.str [123, 97, 58, 32])) (.bin true .mul (.con (.str [91])) (.var 2))) (.c (.bin true .add (.con (.str [123, 97, 58, 32, 105, 110, 116, 125])) (.bin true .mul (.con (.str [125])) (.var 2))) (.c (.bin true .add (.bin true .mul (.con (.str [93])) (.var 2)) (.bin true .mul (.con (.str [91])) (.var 2))) (.c (.bin true .add (.bin true .add (.con (.str [123, 97, 58, 32, 105, 110, 116])) (.bin true .mul (.con (.str [63])) (.var 2))) (.con (.str [125]))) .n))))))))
 (.c (.set 3 (.bin true .add (.var 3) (.lst true (.c (.bin true .add (.bin true .add (.bin true .add (.bin true .add (.con (.str [123, 97, 58, 32])) (.bin true .mul (.con (.str [91])) (.var 2))) (.con (.str sInt))) (.bin true .mul (.con (.str [93])) (.var 2))) (.con (.str [125]))) (.c (.bin true .add (.bin true .add (.bin true .mul (.con (.str [123, 97, 58, 32])) (.var 2)) (.con (.str sInt))) (.bin true .mul (.con (.str [125])) (.var 2))) .n)))))
 (.c (.ite (.bo false (.c (.nt (.of (.call 22 (.c (.call 14 (.c (.var 1) (.c (.var 3) .n))) (.c (.con .non) .n))))) (.c (.nt (.of (.call 22 (.c (.con (.str [])) (.c (.con .non) .n))))) .n))) (.c (.ret (.con (.bl false)))
 .n) .n)
 (b_l2 22 23 24 21)))))) := rfl
  rw [eb]
  simp_arith [g12, g13, g14, g22]
  refine ⟨ns, rfl, ?_⟩
  generalize D.scr (ns.map .int) = scr0
  try simp_arith []
  refine ⟨_, rfl, by decide, fun r1 a0 a1 => ?_⟩
  obtain ⟨d1, hd1, e1⟩ := get_in (rows := [.int 9, .int 60, .int 700, .int 3000]) a0 (by simpa using a1)
  obtain ⟨m, rfl, m1, m2⟩ : ∃ m : Nat, d1 = .int m ∧ 9 ≤ m ∧ m ≤ 3000 := by
    simp only [List.mem_cons, List.not_mem_nil, or_false] at hd1
    rcases hd1 with rfl | rfl | rfl | rfl
    · exact ⟨9, rfl, by decide, by decide⟩
    · exact ⟨60, rfl, by decide, by decide⟩
    · exact ⟨700, rfl, by decide, by decide⟩
    · exact ⟨3000, rfl, by decide, by decide⟩
  have rl : ∀ w : List Nat, (List.replicate ((m : Nat) : Int).toNat w).flatten = rp m w := fun w => rfl
  have ll : ∀ w : List Nat, w.length ≤ 4 → (rp m w).length ≤ 12000 := fun w hw => by
    rw [rp_len]
    exact Nat.le_trans (Nat.mul_le_mul m2 hw) (by decide)
  have q1 := ll [91] (by decide)
  have q2 := ll [123, 97, 58, 32] (by decide)
  have q3 := ll [93] (by decide)
  have q4 := ll [125] (by decide)
  have q5 := ll [63] (by decide)
  have cm : ∀ w : List Nat, w.length ≤ 4 → w.length * ((m : Nat) : Int).toNat ≤ lim := fun w hw => by
    have : w.length * ((m : Nat) : Int).toNat ≤ 4 * 3000 := Nat.mul_le_mul hw (by omega)
    omega
  have b1 : ((-18446744073709551616 : Int) < m ∧ (m : Int) < 18446744073709551616) := by omega
  have b2 : ((0 : Int) ≤ m ∧ (m : Int) ≤ lim) := by omega
  simp_arith [e1, rl]
  clear eb
  have eI : sInt.length = 3 := rfl
  repeat (refine And.intro (by first | exact b2 | omega | (simp only [List.length_append, List.length_cons, List.length_nil, eI]; omega)) ?_)
  try simp_arith []
  have fin : ∀ H, wSs Γ (b_l2 22 23 24 21) { nx := fun _ H => QD .non H, rt := QD, ex := fun x _ H => XD x H } [some scr0, some .rnd, some (.int m), some (.lst [.str (rp m [91]), .str (rp m [123, 97, 58, 32]), .str ([123, 97, 58, 32] ++ rp m [91]), .str ([123, 97, 58, 32, 105, 110, 116, 125] ++ rp m [125]), .str (rp m [93] ++ rp m [91]), .str ([123, 97, 58, 32, 105, 110, 116] ++ rp m [63] ++ [125]), .str ([123, 97, 58, 32] ++ rp m [91] ++ sInt ++ rp m [93] ++ [125]), .str (rp m [123, 97, 58, 32] ++ sInt ++ rp m [125])]), none, none] H := fun H => l2_ok g22 g23 g24 g21 hQ
  refine ⟨_, rfl, ⟨by simp, by simp⟩, fun d hd => ?_⟩
  obtain ⟨s, rfl, n1, n2, n3⟩ : ∃ s, d = .str s ∧ NoRd s := by
    simp only [List.mem_cons, List.not_mem_nil, or_false] at hd
    rcases hd with rfl | rfl | rfl | rfl | rfl | rfl | rfl | rfl
    · exact ⟨_, rfl, no_1 m1 m2⟩
    · exact ⟨_, rfl, no_2 m1 m2⟩
    · exact ⟨_, rfl, no_3 m1 m2⟩
    · exact ⟨_, rfl, no_4 m1 m2⟩
    · exact ⟨_, rfl, no_5 m1 m2⟩
    · exact ⟨_, rfl, no_6 m1 m2⟩
    · exact ⟨_, rfl, no_7 m1 m2⟩
    · exact ⟨_, rfl, no_8 m1 m2⟩
  refine ⟨s, by rw [n1]; rfl, n2, n3, fun H1 => ?_⟩
  obtain ⟨z1, z2, z3⟩ := no_e
  simp_arith []
  refine ⟨[], by rw [z1]; rfl, z2, z3, fun H2 => ?_⟩
  simp_arith []
  exact fin H2

/-! ### the chain, the head -/
abbrev R : PySem.W.OpenRow := PySem.W.OpenLaw.row PySem.Challenge.rw_stripewalk_k09_any_texts
abbrev fa : List He.Fa := faOf dfs cls ocs
abbrev fn : List He.DefD := dfs.map Df.he
abbrev hk : PySem.W.Hook := hookX 6 fa fn gl cls sb
def ob (s : PySem.W.SharedT) : AlX := obX 6 fa fn gl cls sb (HandSHeadRun.getT s)
theorem ob_eq (s : PySem.W.SharedT) : ob s = hk.obs s.abs := obX_eq (HandSHeadRun.getT_eq s)
theorem run (w : World) : HandSHeadRun.RunEq R (PySem.W.view R.prog [30]) hk ob 3000 ["LEAVES", "SMALL", "MOST_FIELDS", "MOST_NESTED", "MOST_LEAVES", "StripewalkError", "BadFile", "BadText", "TextReader", "is_name", "are_fields", "parts_of", "is_schema", "read_schema", "_law_stream", "_law_draw", "_law_pick", "_law_same", "_law_is_name", "_law_count", "_law_is_schema", "_law_fields_of", "_law_kind_of", "_law_due", "_law_read_as", "_law_words", "_law_grown"] w := by
  intro os
  kernel_rfl
theorem facts {P : Program} {w : World} {K : PySem.W.Frag} {h : Heap} {mg : Str → Option Value} {f : Addr} (X : K.In h) (G : h.Ns mainGlobals mg) (hfa : mg ("law" : Str) = some (.ref f)) (c : He.SaysD fa fn K) (g : (glsB gl K && xcB cls sb K) = true) :
    ∃ fd : FuncData, (∀ (s : Shared) (v : Value), BindsTo s fd ⟨[v], []⟩ [("script", v)]) ∧ ∀ base : Heap, K.In base → base.Ns mainGlobals mg → FnOk P w K mg base CX0 200 f fd ["script"] (fun vs H Q _ => lift K (fnmOf K dfs ocs) (clmOf K cls) 1 spLaw vs H Q fun _ _ _ => False) := by
  have ob_ : ocsB dfs ocs = true := by decide +kernel
  have W : Wd P w K mg (clmOf K cls) (glD gl) sb (gl.map (·.1)) cls := wd_of X G c g
  have at_ := fun (i : Nat) (d : Df) (e : dfs[i]? = some d) => df_at X G c ob_ binds (i := i) (d := d) e
  have a0 : AllOk P w K mg (fnmOf K dfs ocs) (clmOf K cls) cfg { sp := fun _ => bot, gl := glD gl, sb := sb } 0 := bot_of X G c binds ob_ rfl rfl
  have a1 := all_up (i := 0) (d := d_is_name) (s := spNm) a0 W rfl (at_ 0 _ rfl) m_is_name fun ds G Q X _ h => nmP_ok rfl ds G Q X h
  have a2 := all_up (i := 1) (d := d_are_fields) (s := spAr) a1 W rfl (at_ 1 _ rfl) m_are_fields fun ds G Q X _ h => areG_ok rfl rfl ds G Q X h
  have a3 := all_up (i := 2) (d := d_parts_of) (s := spPr) a2 W rfl (at_ 2 _ rfl) m_parts_of fun ds G Q X _ h => parG_ok rfl rfl ds G Q X h
  have a4 := all_up (i := 3) (d := d_is_schema) (s := spSG) a3 W rfl (at_ 3 _ rfl) m_is_schema fun ds G Q X _ h => sG_ok rfl rfl rfl ds G Q X h
  have a5 := all_up (i := 4) (d := d_TextReader_init) (s := spRdInit) a4 W rfl (at_ 4 _ rfl) m_TextReader_init fun ds G Q X _ h => rd_init_ok ds G Q X h
  have a6 := all_up (i := 5) (d := d_TextReader_has) (s := spHas) a5 W rfl (at_ 5 _ rfl) m_TextReader_has fun ds G Q X _ h => has_ok ds G Q X h
  have a7 := all_up (i := 6) (d := d_TextReader_take) (s := (spTakeW 2)) a6 W rfl (at_ 6 _ rfl) m_TextReader_take fun ds G Q X _ h => take_ok rfl ds G Q X h
  have a8 := all_up (i := 7) (d := d_TextReader_name) (s := spRdName) a7 W rfl (at_ 7 _ rfl) m_TextReader_name fun ds G Q X _ h => rd_name_ok rfl ds G Q X h
  have a9 := all_rec3 (i := 8) (j := 9) (l := 10) (d := d_TextReader_bare) (e := d_TextReader_kind) (g := d_TextReader_field) (s := spBare 2) (t := spKindR 2) (r := spFieldR 2) (by decide) (by decide) (by decide) a8 W rfl (at_ 8 _ rfl) m_TextReader_bare rfl (at_ 9 _ rfl) m_TextReader_kind rfl (at_ 10 _ rfl) m_TextReader_field (fun ds G Q X ⟨_, _, _, _, _, z⟩ => z) (fun ds G Q X ⟨_, _, _, _, _, z⟩ => z) (fun ds G Q X ⟨_, _, _, _, z, _⟩ => z rfl)
    (fun n ds G Q X _ h => rd_bare_ok rfl rfl rfl rfl rfl rfl ds G Q X h) (fun n ds G Q X _ h => rd_kind_ok rfl rfl ds G Q X h) (fun n ds G Q X _ h => rd_field_ok rfl rfl rfl ds G Q X h) 9
  have a10 := all_up (i := 11) (d := d_read_schema) (s := (spReadA 2)) a9 W rfl (at_ 11 _ rfl) m_read_schema fun ds G Q X _ h => read_any_ok rfl rfl rfl rfl ds G Q X h
  have a11 := all_stream (i := 12) (st := top 17) a10 W rfl (at_ 12 _ rfl) m_stream
  have a12 := all_draw (i := 13) (st := top 18) a11 W rfl (at_ 13 _ rfl) m_draw
  have a13 := all_up (i := 14) (d := d_law_pick) (s := spPick) a12 W rfl (at_ 14 _ rfl) m_pick fun ds G Q X _ h => pick_ok rfl ds G Q X h
  have a14 := all_rec (i := 15) (d := d_law_same) (s := spSame) a13 W rfl (at_ 15 _ rfl) m_same (fun ds G Q X ⟨_, _, _, z, _⟩ => z) (fun n ds G Q X _ h => same_ok up_same ds G Q X h) 24
  have a15 := all_up (i := 16) (d := d_law_is_name) (s := spNm) a14 W rfl (at_ 16 _ rfl) m_lis_name fun ds G Q X _ h => nmL_ok ds G Q X h
  have a16 := all_rec (i := 17) (d := d_law_count) (s := spLc) a15 W rfl (at_ 17 _ rfl) m_count (fun ds G Q X ⟨_, _, _, _, _, z, _⟩ => absurd z (Nat.not_lt_zero _)) (fun n ds G Q X _ h => lcG_ok up_same rfl ds G Q X h) 9
  have a17 := all_up (i := 18) (d := d_law_is_schema) (s := spSG) a16 W rfl (at_ 18 _ rfl) m_lis_schema fun ds G Q X _ h => lsG_ok rfl ds G Q X h
  have a18 := all_up (i := 19) (d := d_law_fields_of) (s := spFz) a17 W rfl (at_ 19 _ rfl) m_fields_of fun ds G Q X _ h => fields_of_ok ds G Q X h
  have a19 := all_rec (i := 20) (d := d_law_kind_of) (s := spKo) a18 W rfl (at_ 20 _ rfl) m_kind_of (fun ds G Q X ⟨_, _, _, z, _⟩ => absurd z (Nat.not_lt_zero _)) (fun n ds G Q X _ h => kind_of_ok up_same rfl ds G Q X h) 70
  have a20 := all_up (i := 21) (d := d_law_due) (s := (spDue 70)) a19 W rfl (at_ 21 _ rfl) m_due fun ds G Q X _ h => due_ok rfl rfl ds G Q X h
  have a21 := all_up (i := 22) (d := d_law_read_as) (s := spReadAs) a20 W rfl (at_ 22 _ rfl) m_read_as fun ds G Q X _ h => read_as_ok rfl rfl rfl rfl rfl ds G Q X h
  have a22 := all_up (i := 23) (d := d_law_words) (s := spFew) a21 W rfl (at_ 23 _ rfl) m_words fun ds G Q X _ h => words_ok rfl rfl ds G Q X h
  have aZ := all_up (i := 24) (d := d_law_grown) (s := spFew) a22 W rfl (at_ 24 _ rfl) m_grown fun ds G Q X _ h => grown_ok rfl rfl ds G Q X h
  obtain ⟨f', fd, h1, h2, h3, F⟩ := at_ 25 d_law rfl
  have e := hfa.symm.trans (h2 (by decide +kernel))
  cases e
  have b := FunD.bindsA (ps := ["script"]) F (binds d_law (List.mem_of_getElem? (show dfs[25]? = some d_law from rfl)))
  have hm2 : (mSs cfg.no d_law.N (defScope d_law.st) d_law.b (defBody d_law.st) && C8.scC d_law.N d_law.ps (defScope d_law.st)) = true := m_law
  rw [Bool.and_eq_true] at hm2
  exact ⟨fd, fun s v => b s [v] rfl, fun base hb hg => (noX (fn_good (sp := spLaw) W F (C8.fnScope_by hm2.2) hm2.1 aZ.2 aZ.1 (fun ds G Q X _ h => law_ok rfl rfl rfl rfl rfl rfl rfl ds G Q X h) hb hg)).mono (by decide)⟩
end DL.K09
open PySem PySem.W PySem.Calls PyProof.Rows
theorem PySem.Challenge.cw_stripewalk_k09_any_texts_holds : PySem.Challenge.rw_stripewalk_k09_any_texts.Holds := by
  w_on; o_law
  refine HandSHeadRun.head_any (r := OpenLaw.row PySem.Challenge.rw_stripewalk_k09_any_texts) (q := view (OpenLaw.row PySem.Challenge.rw_stripewalk_k09_any_texts).prog [30]) (H := DL.K09.hk) (ob := DL.K09.ob) (M := 3000) (loose := ["LEAVES", "SMALL", "MOST_FIELDS", "MOST_NESTED", "MOST_LEAVES", "StripewalkError", "BadFile", "BadText", "TextReader", "is_name", "are_fields", "parts_of", "is_schema", "read_schema", "_law_stream", "_law_draw", "_law_pick", "_law_same", "_law_is_name", "_law_count", "_law_is_schema", "_law_fields_of", "_law_kind_of", "_law_due", "_law_read_as", "_law_words", "_law_grown"]) (d := HandSHeadRun.topDef (OpenLaw.row PySem.Challenge.rw_stripewalk_k09_any_texts).prog 30) (kwd := []) DL.K09.ob_eq
    (by kernel_rfl) (fun s => by kernel_rfl) DL.K09.run (by kernel_rfl) (by kernel_rfl) (by kernel_rfl) (by rfl) (by first | assumption | decide +kernel) (by decide +kernel) ⟨rfl, rfl, rfl, rfl, rfl, by decide +kernel⟩ ?hw ?hc
  case hw => w_witness2
  case hc =>
    refine L2.walk_ofE (l := PySem.Challenge.rw_stripewalk_k09_any_texts) (n := 63) (k := 200) (x := "script") (CX := L2.CX0) rfl (by decide) (by kernel_rfl) ⟨rfl, by decide, by decide⟩ ?F (fun _ _ _ _ z => z)
    intro w mg fa h Y G hmg0
    obtain ⟨K, KX, c, g⟩ := Y
    have hmg : mg ("law" : PySem.Str) = some (.ref fa) := by
      have e : (HandSHeadRun.topDef (OpenLaw.row PySem.Challenge.rw_stripewalk_k09_any_texts).prog 30).name = ("law" : PySem.Str) := by kernel_rfl
      rw [← e]
      exact hmg0
    obtain ⟨fd, hb, hF⟩ := DL.K09.facts (P := (PySem.Challenge.rw_stripewalk_k09_any_texts).prog) (w := w) KX G hmg c g
    exact ⟨K, fd, fun vs H Q _ => DL.lift K (DL.fnmOf K DL.K09.dfs DL.K09.ocs) (DL.clmOf K DL.K09.cls) 1 DL.spLaw vs H Q fun _ _ _ => False, KX, hb, fun H a ns hl hO hS => DL.law_sp H a ns hl hO hS, hF⟩

